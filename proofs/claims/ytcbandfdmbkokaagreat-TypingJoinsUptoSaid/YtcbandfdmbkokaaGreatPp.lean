/-  Chapter 14, plainly: statements typed, in the program and in the reference; the size of a model. -/
import Derived.Test.YtcbandfdmbkokaaGreatQ1
import Derived.Test.YtcbandfdmbkokaaGreatQ3
import Derived.Test.YtcbandfdmbkokaaGreatQ5
import Derived.Test.YtcbandfdmbkokaaGreatPo
namespace Go.Proofs.YtcbandfdmbkokaaGreat.Ev
open Go
set_option maxRecDepth 100000
set_option linter.unusedVariables false
set_option linter.unusedSimpArgs false
set_option linter.unnecessarySimpa false
mutual
def tyS(m:Af)(v:Ai):Ab→Int
 | .mk a b c d e f g h i j=>if Aoy m v (.mk a b c d e f g h i j)≠0 then Aoy m v (.mk a b c d e f g h i j) else if R5 m v i≠0 then R5 m v i else R5 m v j
def R5(m:Af)(v:Ai):List Ab→Int
 | []=>0
 |x::k=>if tyS m v x≠0 then tyS m v x else R5 m v k
end
theorem A6w(m:Af)(v:Ai)(s:Ab):tyS m v s=if Aoy m v s≠0 then Aoy m v s else if R5 m v s.Body≠0 then R5 m v s.Body else R5 m v s.Else:=by cases s;rw [tyS];rfl
theorem MB.mono{L L':Nat}{m:Af}{v:Ai}(h:MB L m v)(hl:maxLen < L'):MB L' m v:=⟨hl,h.ev,h.st,h.sites,h.links,h.each⟩
theorem l8(rec:Ag→List Ab→Option Int)(L:Nat)(r:Ag)(a0:List Ab)(hm:MB L r.u_m r.u_env):∀(k:List Ab) (i:Nat) (v:Int),(∀x∈k,SB L x∧rec r x.Body=some (R5 r.u_m r.u_env x.Body)∧rec r x.Else=some (R5 r.u_m r.u_env x.Else))→∃j,Ef rec L r a0 k i v=some (bif R5 r.u_m r.u_env k != 0 then (0,(R5 r.u_m r.u_env k,j)) else (1,(v,j))):=by
 intro k
 induction k with
 |nil=>intro i v _;exact ⟨i,rfl⟩
 |cons x k ih=>
  intro i v h
  obtain ⟨h0,h1,h2⟩:=h x (by simp)
  obtain ⟨j,hj⟩:=ih (i+1) v fun y hy=>h y (by simp [hy])
  rw [Ef]
  simp only [Aaj L r x hm h0,h1,h2,hj,Option.bind_some,R5,A6w]
  by_cases e1:Aoy r.u_m r.u_env x=0
  ·by_cases e2:R5 r.u_m r.u_env x.Body=0
   ·by_cases e3:R5 r.u_m r.u_env x.Else=0
    ·exact ⟨j,by simp [e1,e2,e3]⟩
    ·exact ⟨i,by simp [e1,e2,e3,i4 e3]⟩
   ·exact ⟨i,by simp [e1,e2,i4 e2]⟩
  ·exact ⟨i,by simp [e1,i4 e1]⟩
theorem w3{l:List Ab}(hl:∀y∈l,Cj y)(r:Ag)(hm:MB (maxLen+1) r.u_m r.u_env):∀L,Fu L l→C8 L r l=some (R5 r.u_m r.u_env l):=by
 refine W0 (M:=fun l=>∀L,Fu L l→C8 L r l=some (R5 r.u_m r.u_env l)) ?_ hl
 intro l ih L hF
 obtain ⟨L,rfl⟩:=hF.pos
 obtain ⟨n1,n2,n3⟩:=hF.len
 have hm':MB L r.u_m r.u_env:=hm.mono (by obtain ⟨f1,f2⟩:=hF;omega)
 obtain ⟨j,hj⟩:=l8 (C8 L) L r l hm' l 0 0 fun x hx=>⟨hF.sb hx (ih x hx).1,(ih x hx).2.1 L (hF.kid hx).1,(ih x hx).2.2 L (hF.kid hx).2⟩
 simp only [Jy,Ju,C8,Ao,Au,Al,Am,Ar,Ap,Ak,Av,Aw,Aq,Ax,Y4 _ L r l L n1 n2,hj,Option.bind_some]
 by_cases h:R5 r.u_m r.u_env l=0
 ·simp [h,f6]
 ·simp [i4 h,P9]
theorem Ao9(rec:Af→Ai→List Ab→Option Int)(L:Nat)(m:Af)(w:Ai)(a0:List Ab)(hm:MB L m w):∀(k:List Ab) (i:Nat) (v:Int),(∀x∈k,SB L x∧rec m w x.Body=some (R5 m w x.Body)∧rec m w x.Else=some (R5 m w x.Else))→∃j,Hl rec L a0 m w k i v=some (bif R5 m w k != 0 then (0,(R5 m w k,j)) else (1,(v,j))):=by
 intro k
 induction k with
 |nil=>intro i v _;exact ⟨i,rfl⟩
 |cons x k ih=>
  intro i v h
  obtain ⟨h0,h1,h2⟩:=h x (by simp)
  obtain ⟨j,hj⟩:=ih (i+1) v fun y hy=>h y (by simp [hy])
  rw [Hl]
  simp only [Aw6 L m w x hm h0,h1,h2,hj,Option.bind_some,R5,A6w]
  by_cases e1:Aoy m w x=0
  ·by_cases e2:R5 m w x.Body=0
   ·by_cases e3:R5 m w x.Else=0
    ·exact ⟨j,by simp [e1,e2,e3]⟩
    ·exact ⟨i,by simp [e1,e2,e3,i4 e3]⟩
   ·exact ⟨i,by simp [e1,e2,i4 e2,beq_false_of_ne e2]⟩
  ·exact ⟨i,by simp [e1,i4 e1,beq_false_of_ne e1]⟩
theorem Atp{l:List Ab}(hl:∀y∈l,Cj y)(m:Af)(w:Ai)(hm:MB (maxLen+1) m w):∀L,Fu L l→Ky L m w l=some (R5 m w l):=by
 refine W0 (M:=fun l=>∀L,Fu L l→Ky L m w l=some (R5 m w l)) ?_ hl
 intro l ih L hF
 obtain ⟨L,rfl⟩:=hF.pos
 obtain ⟨n1,n2,n3⟩:=hF.len
 have hm':MB L m w:=hm.mono (by obtain ⟨f1,f2⟩:=hF;omega)
 obtain ⟨j,hj⟩:=Ao9 (Ky L) L m w l hm' l 0 0 fun x hx=>⟨hF.sb hx (ih x hx).1,(ih x hx).2.1 L (hF.kid hx).1,(ih x hx).2.2 L (hF.kid hx).2⟩
 simp only [Wm,V8,Ky,Ao,Au,Al,Am,Ar,Ap,Ak,Av,Aw,Aq,Ax,Ai6 _ L l m w L n1 n2,hj,Option.bind_some]
 by_cases h:R5 m w l=0
 ·simp [h,f6]
 ·simp [i4 h,P9]
def Ahp(m:Af)(site:Int)(locals:List Be)(l:List Ab):Int:=
 if Vg l≠0 then Vg l else if site < 0∨(m.Sites.length:Int)≤site then 2 else R5 m ⟨m.Params,locals,m.Sites.getD site.toNat default⟩ l
theorem Abg{m:Af}(hb:Ga m≤1048576):m.Sites.length≤1048576∧m.Links.length≤1048576∧∀d∈m.Sites,C3 d+Da Hq m.Params+4≤Ga m:=by
 unfold Ga at*
 have h1:m.Sites.length≤Da C3 m.Sites:=Mr fun x=>by unfold C3;omega
 have h2:m.Links.length≤Da Rh m.Links:=Mr fun x=>by unfold Rh;omega
 refine ⟨by omega,by omega,fun d hd=> ?_⟩
 have:=Af5 (g:=C3) hd
 omega
theorem Awr{m:Af}(ho:S9 m)(hb:Ga m≤1048576){locals:List Be}(hl:locals.length≤maxLen∧∀y∈locals,Mx y){i:Nat}(hi:i < m.Sites.length):MB (maxLen+1) m ⟨m.Params,locals,m.Sites.getD i default⟩:=by
 obtain ⟨s1,s2,s3⟩:=Abg hb
 have each:∀d∈m.Sites,Vr d 1099511627776:=fun d hd=>(Alp d).mono (by have:=s3 d hd;omega)
 have hd:m.Sites.getD i default∈m.Sites:=by rw [Ro _ i hi];exact List.getElem_mem hi
 exact ⟨by omega,⟨ho.2.1,hl,ho.2.2.1.2 _ hd⟩,each _ hd,by omega,by omega,each⟩
theorem Ty{m:Af}(ho:S9 m)(hb:Ga m≤1048576){locals:List Be}(hc:locals.length≤maxLen∧∀y∈locals,Mx y)(site:Int){l:List Ab}(hl:∀y∈l,Cj y)(L:Nat)(hF:Fu L l):El L m site locals l=some (Ahp m site locals l):=by
 simp only [U1,El,Ao,Au,Al,Am,Ar,Ap,Ak,Av,Aw,Aq,Ax,Ac3 hl L hF,Option.bind_some,O8,Ahp]
 by_cases h0:Vg l=0
 ·simp only [h0,bne_self_eq_false,cond_false,ne_eq,not_true_eq_false,if_false]
  by_cases h1:site < 0∨(m.Sites.length:Int)≤site
  ·have:(decide (site < 0) || decide (site≥(m.Sites.length:Int)))=true:=by rcases h1 with h|h<;>simp [h]
   simp only [this,cond_true,if_pos h1]
  ·have h2:¬site < 0:=fun h=>h1 (.inl h)
   have h3:¬(m.Sites.length:Int)≤site:=fun h=>h1 (.inr h)
   have:(decide (site < 0) || decide (site≥(m.Sites.length:Int)))=false:=by simp;omega
   simp only [this,cond_false,if_neg h1]
   rw [ifp (by omega),ifp (by omega)]
   rw [w3 hl ⟨m,site,⟨m.Params,locals,m.Sites.getD site.toNat default⟩⟩ (Awr ho hb hc (by omega)) L hF,Option.bind_some]
 ·simp only [i4 h0,cond_true,if_pos h0]
theorem Atm{m:Af}(ho:S9 m)(hb:Ga m≤1048576){locals:List Be}(hc:locals.length≤maxLen∧∀y∈locals,Mx y)(site:Int){l:List Ab}(hl:∀y∈l,Cj y)(L:Nat)(hF:Fu L l):Rb L m site locals l=some (Ahp m site locals l):=by
 simp only [Zh,Rb,Ao,Au,Al,Am,Ar,Ap,Ak,Av,Aw,Aq,Ax,Atj hl L hF,Option.bind_some,O8,Ahp]
 by_cases h0:Vg l=0
 ·simp only [h0,bne_self_eq_false,cond_false,ne_eq,not_true_eq_false,if_false]
  by_cases h1:site < 0∨(m.Sites.length:Int)≤site
  ·have:(decide (site < 0) || decide (site≥(m.Sites.length:Int)))=true:=by rcases h1 with h|h<;>simp [h]
   simp only [this,cond_true,if_pos h1]
  ·have h2:¬site < 0:=fun h=>h1 (.inl h)
   have h3:¬(m.Sites.length:Int)≤site:=fun h=>h1 (.inr h)
   have:(decide (site < 0) || decide (site≥(m.Sites.length:Int)))=false:=by simp;omega
   simp only [this,cond_false,if_neg h1]
   rw [ifp (by omega),ifp (by omega)]
   rw [Atp hl m ⟨m.Params,locals,m.Sites.getD site.toNat default⟩ (Awr ho hb hc (by omega)) L hF,Option.bind_some]
 ·simp only [i4 h0,cond_true,if_pos h0]
theorem Axb(L:Nat)(b:Bool)(i:Nat)(m:Af)(hi:i < m.Sites.length)(hc:∀x∈(m.Sites.getD i default).Routines,∃n,Fo L x.Body=some n)(hl:(m.Sites.getD i default).Routines.length≤1048576):∀(n j:Nat) (v:Int),(m.Sites.getD i default).Routines.length - j < n→∃w t,Rp L b (i:Int) m n v (j:Int)=some (0,(w,t)):=by
 intro n
 induction n with
 |zero=>intro j v h;omega
 |succ n ih=>
  intro j v h
  rw [Rp]
  unfold Te
  simp only [Ao,Au,Al,Am,Ar,Ap,Ak,Av,Aw,Aq,Ax]
  rw [ifp (by omega),ifp (by omega),Sr]
  by_cases hj:j < (m.Sites.getD i default).Routines.length
  ·rw [decide_eq_true (show (j:Int) < ((m.Sites.getD i default).Routines.length:Int) by omega),cond_true,ifp (by omega),ifp (by omega),ifp (by omega),ifp (by omega),Sr]
   obtain ⟨c,hx⟩:=hc ((m.Sites.getD i default).Routines.getD j default) (by rw [Ro _ j hj];exact List.getElem_mem hj)
   rw [hx,Option.bind_some,Vi (n:=(j:Int)+1) (by omega) (by omega)]
   exact ih (j+1) _ (by omega)
  ·rw [decide_eq_false (show¬(j:Int) < ((m.Sites.getD i default).Routines.length:Int) by omega),cond_false]
   exact ⟨_,_,rfl⟩
theorem Axa(L:Nat)(m:Af)(hb:Ga m≤1048576)(hL:1048576 < L)(hc:∀d∈m.Sites,∀x∈d.Routines,∃n,Fo L x.Body=some n):∀(k:List Ac) (i:Nat) (b:Bool) (v:Int),m.Sites.drop i=k→∃t c w j,Rq L m k i b v=some (t,(c,w,j))∧(t=0∨t=1):=by
 obtain ⟨s1,s2,s3⟩:=Abg hb
 intro k
 induction k with
 |nil=>intro i b v _;exact ⟨1,b,v,i,rfl,.inr rfl⟩
 |cons x k ih=>
  intro i b v h
  have hi:i < m.Sites.length:=by
   have:=congrArg List.length h
   rw [List.length_drop,List.length_cons] at this
   omega
  have hx:m.Sites.getD i default=x:=by
   rw [Zu m.Sites i hi] at h
   injection h
  have hk:m.Sites.drop (i+1)=k:=by
   rw [Zu m.Sites i hi] at h
   injection h
  have hxm:x∈m.Sites:=by rw [←hx,Ro _ i hi];exact List.getElem_mem hi
  have hxb:=s3 x hxm
  have hli:=Atc L ⟨m.Params,[],x⟩ (by unfold Ada;simp only [Da];omega)
  have hrl:x.Routines.length≤1048576:=((Alp x).mono (show C3 x≤1048576 by omega)).2.2.2.2.2.2.2.2.2
  rw [Rq,hli,Option.bind_some]
  cases Ayg ⟨m.Params,[],x⟩ with
  |false=>exact ⟨0,false,v,i,rfl,.inl rfl⟩
  |true=>
   obtain ⟨w,t,hw⟩:=Axb L b i m hi (by rw [hx];exact hc x hxm) (by rw [hx];exact hrl) L 0 v (by rw [hx];omega)
   simp only [Bool.not_true,cond_false]
   rw [show (0:Int)=((0:Nat):Int) from rfl,hw,Option.bind_some]
   exact ih (i+1) b w hk
theorem Ama{m:Af}(ho:S9 m)(hb:Ga m≤1048576)(L:Nat)(hL:maxLen+2097152 < L):∃b,R7 L m=some b:=by
 have hM:=Cf
 obtain ⟨s1,s2,s3⟩:=Abg hb
 have hc:∀d∈m.Sites,∀x∈d.Routines,∃n,Fo L x.Body=some n:=by
  intro d hd x hx
  have h1:=s3 d hd
  have h2:Gl x≤C3 d:=by
   have:=Af5 (g:=Gl) hx
   unfold C3
   omega
  have h3:Ct x.Body≤1048576:=by
   rw [Hp]
   unfold Gl at h2
   omega
  have h4:=r0 x.Body
  have h5:Um x:=by
   obtain ⟨_,_,_,_,_,_,_,_,_,_,h,_⟩:=ho.2.2.1.2 d hd
   exact h.2 x hx
  have h6:maxLen+1048576+Vl x.Body≤maxLen+2097152:=by rw [Nat.add_assoc];exact Nat.add_le_add_left (by omega) _
  exact ⟨_,Afg (show∀y∈x.Body,Cj y from h5.2.2.2.2) L ⟨Nat.lt_of_le_of_lt h6 hL,h3⟩⟩
 obtain ⟨t,c,w,j,hq,ht⟩:=Axa L m hb (by omega) hc m.Sites 0 false 0 rfl
 simp only [i6,R7,Ao,Au,Al,Am,Ar,Ap,Ak,Av,Aw,Aq,Ax,Aoj L m L (show m.Sites.length≤maxLen by omega) (by omega),hq,Option.bind_some,Dz]
 rcases ht with rfl|rfl
 ·exact ⟨_,rfl⟩
 ·exact ⟨_,rfl⟩
end Go.Proofs.YtcbandfdmbkokaaGreat.Ev
