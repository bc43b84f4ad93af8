/-  Chapter 51, plainly: the size of a model is some number. -/
import Derived.Test.YtofcpkmnhmnfcaaGreatRQA
import Derived.Test.YtofcpkmnhmnfcaaGreatRCH
import Derived.Test.YtofcpkmnhmnfcaaGreatRPO
namespace Go.Proofs.YtofcpkmnhmnfcaaGreatR.Ev
open Go An
set_option maxRecDepth 100000
set_option linter.unusedVariables false
set_option linter.unusedSimpArgs false
set_option linter.unnecessarySimpa false
theorem Bet(rec:List Ad→Option Int)(L:Nat)(a:List Ad)(c:Int):∀(k:List Ab) (i:Nat) (v:Int),(∀y∈k,∃n,Gp L y=some n)→∃w j,T0 rec L a c k i v=some (0,(w,j)):=by
 intro k
 induction k with
 |nil=>intro i v _;exact ⟨v,i,rfl⟩
 |cons x k ih=>
  intro i v h
  obtain ⟨n,hn⟩:=h x (by simp)
  rw [T0,hn,Option.bind_some]
  exact ih (i+1) _ fun y hy=>h y (by simp [hy])
theorem Bes(rec:List Ad→Option Int)(L:Nat)(a:List Ad)(ha:a.length≤maxLen):∀(k:List Ad) (i:Nat) (v:Int),a.drop i=k→(∀x∈k,SB L x∧(∃n,rec x.Body=some n)∧∃n,rec x.Else=some n)→∃w j,Tz rec L a k i v=some (0,(w,j)):=by
 intro k
 induction k with
 |nil=>intro i v _ _;exact ⟨v,i,rfl⟩
 |cons x k ih=>
  intro i v hk h
  obtain ⟨hi,hx,hk'⟩:=Pt hk
  obtain ⟨hs,⟨b,hb⟩,c,hc⟩:=h x (by simp)
  obtain ⟨d1,d2,d3,d4⟩:=hs.de
  have hM:=Bb
  have hlt:=hs.lt
  obtain ⟨w,j,hq⟩:=Bet rec L a (i:Int) x.Args 0 (B7 ((B7 ((B7 ((B7 ((B7 ((B7 ((B7 (v+1))+Aeh x.E))+Aeh x.F))+(x.Dist.Values.length:Int)))+(x.Dist.Weights.length:Int)))+b))+c)) fun y hy=>⟨_,Ali (hs.args y hy) L (d3 y hy)⟩
  rw [Tz,Ali hs.e L d1,Option.bind_some,Ali hs.f L d2,Option.bind_some,hb,Option.bind_some,hc,Option.bind_some,A74 rec L a (i:Int) L (by rw [Z8,hx];omega) (by rw [Z8,hx];omega),Z8,hx,hq,Option.bind_some,Gm]
  exact ih (i+1) w hk' fun y hy=>h y (by simp [hy])
theorem Bhp{l:List Ad}(hl:∀y∈l,B2 y):∀L,Fu L l→∃n,P4 L l=some n:=by
 refine Aa7 (M:=fun l=>∀L,Fu L l→∃n,P4 L l=some n) ?_ hl
 intro l ih L hF
 obtain ⟨L,rfl⟩:=hF.pos
 obtain ⟨n1,n2,n3⟩:=hF.len
 obtain ⟨w,j,hj⟩:=Bes (P4 L) L l n1 l 0 0 rfl fun x hx=>⟨hF.sb hx (ih x hx).1,(ih x hx).2.1 L (hF.kid hx).1,(ih x hx).2.2 L (hF.kid hx).2⟩
 exact ⟨w,by simp only [A6t,Aay,Awo,P4,Aay,aN,aB,A73 _ L l L n1 n2,hj,Option.bind_some,Gm]⟩
end Go.Proofs.YtofcpkmnhmnfcaaGreatR.Ev
