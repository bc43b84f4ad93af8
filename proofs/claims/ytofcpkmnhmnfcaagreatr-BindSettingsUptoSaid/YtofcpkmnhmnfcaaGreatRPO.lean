/-  Chapter 14, plainly: statements, in the program and in the reference. -/
import Derived.Test.YtofcpkmnhmnfcaaGreatRQA
import Derived.Test.YtofcpkmnhmnfcaaGreatRPM
namespace Go.Proofs.YtofcpkmnhmnfcaaGreatR.Ev
open Go An
set_option maxRecDepth 100000
set_option linter.unusedVariables false
set_option linter.unusedSimpArgs false
set_option linter.unnecessarySimpa false
mutual
def tyS(m:Ac)(v:Au):Ad→Int
 | .mk a b c d e f g h i j=>if A5a m v (.mk a b c d e f g h i j)≠0 then A5a m v (.mk a b c d e f g h i j) else if Ad5 m v i≠0 then Ad5 m v i else Ad5 m v j
def Ad5(m:Ac)(v:Au):List Ad→Int
 | []=>0
 |x::k=>if tyS m v x≠0 then tyS m v x else Ad5 m v k
end
theorem Caw(m:Ac)(v:Au)(s:Ad):tyS m v s=if A5a m v s≠0 then A5a m v s else if Ad5 m v s.Body≠0 then Ad5 m v s.Body else Ad5 m v s.Else:=by cases s;rw [tyS];rfl
theorem MB.mono{L L':Nat}{m:Ac}{v:Au}(h:MB L m v)(hl:maxLen < L'):MB L' m v:=⟨hl,h.ev,h.st,h.sites,h.links,h.each⟩
theorem Ajs(rec:Am→List Ad→Option Int)(L:Nat)(r:Am)(a0:List Ad)(hm:MB L r.u_m r.u_env):∀(k:List Ad) (i:Nat) (v:Int),(∀x∈k,SB L x∧rec r x.Body=some (Ad5 r.u_m r.u_env x.Body)∧rec r x.Else=some (Ad5 r.u_m r.u_env x.Else))→∃j,Ec rec L r a0 k i v=some (bif Ad5 r.u_m r.u_env k != 0 then (0,(Ad5 r.u_m r.u_env k,j)) else (1,(v,j))):=by
 intro k
 induction k with
 |nil=>intro i v _;exact ⟨i,rfl⟩
 |cons x k ih=>
  intro i v h
  obtain ⟨h0,h1,h2⟩:=h x (by simp)
  obtain ⟨j,hj⟩:=ih (i+1) v fun y hy=>h y (by simp [hy])
  rw [Ec]
  simp only [Al6 L r x hm h0,h1,h2,hj,Option.bind_some,Ad5,Caw]
  by_cases e1:A5a r.u_m r.u_env x=0
  ·by_cases e2:Ad5 r.u_m r.u_env x.Body=0
   ·by_cases e3:Ad5 r.u_m r.u_env x.Else=0
    ·exact ⟨j,by simp [e1,e2,e3]⟩
    ·exact ⟨i,by simp [e1,e2,e3,ne0 e3]⟩
   ·exact ⟨i,by simp [e1,e2,ne0 e2]⟩
  ·exact ⟨i,by simp [e1,ne0 e1]⟩
theorem Ak8{l:List Ad}(hl:∀y∈l,Ct y)(r:Am)(hm:MB (maxLen+1) r.u_m r.u_env):∀L,Fu L l→Dr L r l=some (Ad5 r.u_m r.u_env l):=by
 refine Aju (M:=fun l=>∀L,Fu L l→Dr L r l=some (Ad5 r.u_m r.u_env l)) ?_ hl
 intro l ih L hF
 obtain ⟨L,rfl⟩:=hF.pos
 obtain ⟨n1,n2,n3⟩:=hF.len
 have hm':MB L r.u_m r.u_env:=hm.mono (by obtain ⟨f1,f2⟩:=hF;omega)
 obtain ⟨j,hj⟩:=Ajs (Dr L) L r l hm' l 0 0 fun x hx=>⟨hF.sb hx (ih x hx).1,(ih x hx).2.1 L (hF.kid hx).1,(ih x hx).2.2 L (hF.kid hx).2⟩
 simp only [t6,Hu,Tt,Dr,Hu,aN,aB,Agq _ L r l L n1 n2,hj,Option.bind_some]
 by_cases h:Ad5 r.u_m r.u_env l=0
 ·simp [h,Sr]
 ·simp [ne0 h,Nb]
def Axd(m:Ac)(site:Int)(locals:List Ao)(l:List Ad):Int:=
 if Asy l≠0 then Asy l else if site < 0∨(m.Sites.length:Int)≤site then 2 else Ad5 m ⟨m.Params,locals,m.Sites.getD site.toNat default⟩ l
theorem Bbd{m:Ac}(hb:Hw m≤1048576):m.Sites.length≤1048576∧m.Links.length≤1048576∧∀d∈m.Sites,D0 d+Gh Gf m.Params+4≤Hw m:=by
 unfold Hw at*
 have h1:m.Sites.length≤Gh D0 m.Sites:=Hv fun x=>by unfold D0;omega
 have h2:m.Links.length≤Gh Acd m.Links:=Hv fun x=>by unfold Acd;omega
 refine ⟨by omega,by omega,fun d hd=> ?_⟩
 have:=Agi (g:=D0) hd
 omega
theorem Brk{m:Ac}(ho:Z0 m)(hb:Hw m≤1048576){locals:List Ao}(hl:locals.length≤maxLen∧∀y∈locals,Pv y){i:Nat}(hi:i < m.Sites.length):MB (maxLen+1) m ⟨m.Params,locals,m.Sites.getD i default⟩:=by
 obtain ⟨s1,s2,s3⟩:=Bbd hb
 have each:∀d∈m.Sites,Ajp d 1099511627776:=fun d hd=>(Ba5 d).mono (by have:=s3 d hd;omega)
 have hd:m.Sites.getD i default∈m.Sites:=by rw [Iu _ i hi];exact List.getElem_mem hi
 exact ⟨by omega,⟨ho.2.1,hl,ho.2.2.1.2 _ hd⟩,each _ hd,by omega,by omega,each⟩
theorem Azm{m:Ac}(ho:Z0 m)(hb:Hw m≤1048576){locals:List Ao}(hc:locals.length≤maxLen∧∀y∈locals,Pv y)(site:Int){l:List Ad}(hl:∀y∈l,Ct y)(L:Nat)(hF:Fu L l):Rf L m site locals l=some (Axd m site locals l):=by
 simp only [Aeo,Rf,aN,aB,Aqw hl L hF,Option.bind_some,Zl,Axd]
 by_cases h0:Asy l=0
 ·simp only [h0,bne_self_eq_false,cond_false,ne_eq,not_true_eq_false,if_false]
  by_cases h1:site < 0∨(m.Sites.length:Int)≤site
  ·have:(decide (site < 0) || decide (site≥(m.Sites.length:Int)))=true:=by rcases h1 with h|h<;>simp [h]
   simp only [this,cond_true,if_pos h1]
  ·have h2:¬site < 0:=fun h=>h1 (.inl h)
   have h3:¬(m.Sites.length:Int)≤site:=fun h=>h1 (.inr h)
   have:(decide (site < 0) || decide (site≥(m.Sites.length:Int)))=false:=by simp;omega
   simp only [this,cond_false,if_neg h1]
   rw [ifp (by omega),ifp (by omega)]
   rw [Ak8 hl ⟨m,site,⟨m.Params,locals,m.Sites.getD site.toNat default⟩⟩ (Brk ho hb hc (by omega)) L hF,Option.bind_some]
 ·simp only [ne0 h0,cond_true,if_pos h0]
end Go.Proofs.YtofcpkmnhmnfcaaGreatR.Ev
