/-  Chapter 14, plainly: statements, in the program and in the reference. -/
import Derived.Test.YtfencmicmnhglaaGreatQA
import Derived.Test.YtfencmicmnhglaaGreatPM
namespace Go.Proofs.YtfencmicmnhglaaGreat.Ev
open Go An
set_option maxRecDepth 100000
set_option linter.unusedVariables false
set_option linter.unusedSimpArgs false
set_option linter.unnecessarySimpa false
mutual
def tyS(m:Ad)(v:Bf):Ac→Int
 | .mk a b c d e f g h i j=>if A48 m v (.mk a b c d e f g h i j)≠0 then A48 m v (.mk a b c d e f g h i j) else if Ahq m v i≠0 then Ahq m v i else Ahq m v j
def Ahq(m:Ad)(v:Bf):List Ac→Int
 | []=>0
 |x::k=>if tyS m v x≠0 then tyS m v x else Ahq m v k
end
theorem Bvt(m:Ad)(v:Bf)(s:Ac):tyS m v s=if A48 m v s≠0 then A48 m v s else if Ahq m v s.Body≠0 then Ahq m v s.Body else Ahq m v s.Else:=by cases s;rw [tyS];rfl
theorem MB.mono{L L':Nat}{m:Ad}{v:Bf}(h:MB L m v)(hl:maxLen < L'):MB L' m v:=⟨hl,h.ev,h.st,h.sites,h.links,h.each⟩
theorem Ae7(rec:Aj→List Ac→Option Int)(L:Nat)(r:Aj)(a0:List Ac)(hm:MB L r.u_m r.u_env):∀(k:List Ac) (i:Nat) (v:Int),(∀x∈k,SB L x∧rec r x.Body=some (Ahq r.u_m r.u_env x.Body)∧rec r x.Else=some (Ahq r.u_m r.u_env x.Else))→∃j,Eg rec L r a0 k i v=some (bif Ahq r.u_m r.u_env k != 0 then (0,(Ahq r.u_m r.u_env k,j)) else (1,(v,j))):=by
 intro k
 induction k with
 |nil=>intro i v _;exact ⟨i,rfl⟩
 |cons x k ih=>
  intro i v h
  obtain ⟨h0,h1,h2⟩:=h x (by simp)
  obtain ⟨j,hj⟩:=ih (i+1) v fun y hy=>h y (by simp [hy])
  rw [Eg]
  simp only [Aho L r x hm h0,h1,h2,hj,Option.bind_some,Ahq,Bvt]
  by_cases e1:A48 r.u_m r.u_env x=0
  ·by_cases e2:Ahq r.u_m r.u_env x.Body=0
   ·by_cases e3:Ahq r.u_m r.u_env x.Else=0
    ·exact ⟨j,by simp [e1,e2,e3]⟩
    ·exact ⟨i,by simp [e1,e2,e3,Zn e3]⟩
   ·exact ⟨i,by simp [e1,e2,Zn e2]⟩
  ·exact ⟨i,by simp [e1,Zn e1]⟩
theorem Ago{l:List Ac}(hl:∀y∈l,Cs y)(r:Aj)(hm:MB (maxLen+1) r.u_m r.u_env):∀L,Fu L l→Dx L r l=some (Ahq r.u_m r.u_env l):=by
 refine Ajh (M:=fun l=>∀L,Fu L l→Dx L r l=some (Ahq r.u_m r.u_env l)) ?_ hl
 intro l ih L hF
 obtain ⟨L,rfl⟩:=hF.pos
 obtain ⟨n1,n2,n3⟩:=hF.len
 have hm':MB L r.u_m r.u_env:=hm.mono (by obtain ⟨f1,f2⟩:=hF;omega)
 obtain ⟨j,hj⟩:=Ae7 (Dx L) L r l hm' l 0 0 fun x hx=>⟨hF.sb hx (ih x hx).1,(ih x hx).2.1 L (hF.kid hx).1,(ih x hx).2.2 L (hF.kid hx).2⟩
 simp only [Zr,Hi,Sz,Dx,Hi,aN,aB,Acv _ L r l L n1 n2,hj,Option.bind_some]
 by_cases h:Ahq r.u_m r.u_env l=0
 ·simp [h,n8]
 ·simp [Zn h,Lx]
def A54(m:Ad)(site:Int)(locals:List Ap)(l:List Ac):Int:=
 if Al8 l≠0 then Al8 l else if site < 0∨(m.Sites.length:Int)≤site then 2 else Ahq m ⟨m.Params,locals,m.Sites.getD site.toNat default⟩ l
theorem A20{m:Ad}(hb:Hl m≤1048576):m.Sites.length≤1048576∧m.Links.length≤1048576∧∀d∈m.Sites,C2 d+C3 Gt m.Params+4≤Hl m:=by
 unfold Hl at*
 have h1:m.Sites.length≤C3 C2 m.Sites:=Hj fun x=>by unfold C2;omega
 have h2:m.Links.length≤C3 Ri m.Links:=Hj fun x=>by unfold Ri;omega
 refine ⟨by omega,by omega,fun d hd=> ?_⟩
 have:=Ae9 (g:=C2) hd
 omega
theorem Bgo{m:Ad}(ho:Yb m)(hb:Hl m≤1048576){locals:List Ap}(hl:locals.length≤maxLen∧∀y∈locals,Om y){i:Nat}(hi:i < m.Sites.length):MB (maxLen+1) m ⟨m.Params,locals,m.Sites.getD i default⟩:=by
 obtain ⟨s1,s2,s3⟩:=A20 hb
 have each:∀d∈m.Sites,Ae2 d 1099511627776:=fun d hd=>(A2s d).mono (by have:=s3 d hd;omega)
 have hd:m.Sites.getD i default∈m.Sites:=by rw [Hm _ i hi];exact List.getElem_mem hi
 exact ⟨by omega,⟨ho.2.1,hl,ho.2.2.1.2 _ hd⟩,each _ hd,by omega,by omega,each⟩
theorem Arx{m:Ad}(ho:Yb m)(hb:Hl m≤1048576){locals:List Ap}(hc:locals.length≤maxLen∧∀y∈locals,Om y)(site:Int){l:List Ac}(hl:∀y∈l,Cs y)(L:Nat)(hF:Fu L l):Qb L m site locals l=some (A54 m site locals l):=by
 simp only [Ab5,Qb,aN,aB,Akr hl L hF,Option.bind_some,Xo,A54]
 by_cases h0:Al8 l=0
 ·simp only [h0,bne_self_eq_false,cond_false,ne_eq,not_true_eq_false,if_false]
  by_cases h1:site < 0∨(m.Sites.length:Int)≤site
  ·have:(decide (site < 0) || decide (site≥(m.Sites.length:Int)))=true:=by rcases h1 with h|h<;>simp [h]
   simp only [this,cond_true,if_pos h1]
  ·have h2:¬site < 0:=fun h=>h1 (.inl h)
   have h3:¬(m.Sites.length:Int)≤site:=fun h=>h1 (.inr h)
   have:(decide (site < 0) || decide (site≥(m.Sites.length:Int)))=false:=by simp;omega
   simp only [this,cond_false,if_neg h1]
   rw [ifp (by omega),ifp (by omega)]
   rw [Ago hl ⟨m,site,⟨m.Params,locals,m.Sites.getD site.toNat default⟩⟩ (Bgo ho hb hc (by omega)) L hF,Option.bind_some]
 ·simp only [Zn h0,cond_true,if_pos h0]
end Go.Proofs.YtfencmicmnhglaaGreat.Ev
