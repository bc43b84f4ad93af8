/-  CompileSizes, plainly. -/
import Derived.Test.YtgacplpjamkieaaGreatZG9b
import Derived.Test.YtgacplpjamkieaaGreatZEA
set_option maxRecDepth 100000
set_option linter.unusedVariables false
set_option linter.unusedSimpArgs false
set_option linter.unnecessarySimpa false
namespace Go.Proofs.YtgacplpjamkieaaGreat.Ev
open Go An
theorem A8x(l:List Ae)(hl:l.length<=1099511627776):(l++ [endI]).getD (Bb (((l++ [endI]).length:Int)-1)).toNat default=endI:=by
 rw[List.length_append,List.length_cons,List.length_nil,Iu (by omega) (by omega)];rw[show(((l.length+(0+1):Nat):Int)-1).toNat=l.length by omega];simp
theorem Aqs(m:Ag)(i k:Int)(hm:Uk m)(hi:okI .i64 i)(hk:okI .i64 k)(hb:Hi m<=1048576):∃L,Xp L m i k=some true:=by
 have h:MG m:=⟨hm,hb⟩;refine⟨P1,?_⟩;have hM:=Bp;obtain⟨b,hf⟩:=A5g h;have hsl:m.aD.length<=1048576:=(Akv hb).1;simp only[Xs,Xp,aN,aB,gD,hf,Option.bind_some,Tc,Bc];cases b with
 |false=>
  simp only[Bool.not_false,Bool.true_or,cond_true];rfl
 |true=>
  simp only[Bool.not_true,Bool.false_or];by_cases h1:i<0
  ·rw[decide_eq_true h1];rfl
  ·rw[decide_eq_false h1];by_cases h2:i>=(m.aD.length:Int)
   ·rw[decide_eq_true h2];rfl
   ·rw[decide_eq_false h2];by_cases h3:k<0
    ·rw[decide_eq_true h3];rfl
    ·rw[decide_eq_false h3];simp only[Bool.or_false,cond_false];obtain⟨i,rfl⟩:∃n:Nat,i=(n:Int):=⟨i.toNat,by omega⟩;obtain⟨k,rfl⟩:∃n:Nat,k=(n:Int):=⟨k.toNat,by omega⟩;rw[Jh (by omega),Jh (by omega)];simp only[toN];by_cases h4:(k:Int)>=((m.aD.getD i default).aA.length:Int)
     ·rw[decide_eq_true h4];rfl
     ·rw[decide_eq_false h4];simp only[Option.bind_some,cond_false];have hi':i<m.aD.length:=by omega
      have hk':k<(m.aD.getD i default).aA.length:=by omega
      obtain⟨r,e1,e2⟩:=Am6 h i k hi' hk';have hmm:m.aD.getD i default∈m.aD:=by rw[Hj _ i hi'];exact List.getElem_mem hi'
      have hr:(m.aD.getD i default).aA.getD k default∈(m.aD.getD i default).aA:=by rw[Hj _ k hk'];exact List.getElem_mem hk'
      obtain⟨o1,o2⟩:=h.routs hmm _ hr;generalize (m.aD.getD i default).aA.getD k default=rt at*
      obtain⟨b1,b2,b3⟩:=Aa7 o2;have hob:∀y∈rt.aK,B3 y:=o1.2.2.2.2;have hz:=Zg rt.aK;simp only[e1,Option.bind_some];rcases e2 with⟨n1,n2⟩|⟨n1,l,n,p,q,n2,n3,n4,n5⟩
      ·rw[Zs n1,n2];rfl
      ·rw[n1,n2];simp only[bne_self_eq_false,cond_false,Amh hob P1 (Aig Ah5 b3),Axe hob P1 (Aig Ah5 b3),Option.bind_some];have hl:(l++ [endI]).length=N8 rt.aK+1:=by rw[List.length_append,n3];rfl
       have hz2:Gq rt.aK+Qa rt.aK=N8 rt.aK:=rfl;have g1:=A8x l (by omega);have g2:Bb (((l++ [endI]).length:Int)-1)=(N8 rt.aK:Int):=by rw[hl,Iu (by omega) (by omega)];omega
       rw[g2]at g1;rw[g2,g1];have g3:Bb (Bb ((Gq rt.aK:Int)+(Qa rt.aK:Int))+1)=((l++ [endI]).length:Int):=by
        rw[hl,Iu (n:=(Gq rt.aK:Int)+(Qa rt.aK:Int)) (by omega) (by omega),Iu (by omega) (by omega)];omega
       have g4:Bb ((rt.aJ.length:Int)+(rt.aL.length:Int))=q:=by rw[n5,Iu (by omega) (by omega)]
       rw[g3,g4,n4,decide_eq_true (show((l++ [endI]).length:Int)>0 by omega)];simp only[cond_true,beq_self_eq_true]
       repeat rw[Jh (by omega)]
       rfl
end Go.Proofs.YtgacplpjamkieaaGreat.Ev
