/-  Chapters 7 and 9, plainly: the reference. -/
import Derived.Test.YtcbandfdmbkokaaGreatQ3
import Derived.Test.YtcbandfdmbkokaaGreatQ4
import Derived.Test.YtcbandfdmbkokaaGreatPc
namespace Go.Proofs.YtcbandfdmbkokaaGreat.Ev
open Go
set_option linter.unusedVariables false
set_option linter.unusedSimpArgs false
set_option linter.unnecessarySimpa false
def Av7(l:List ByteArray)(s:ByteArray):Int:=R2 (l.findIdx? fun x=>decide (x=s))
theorem Akk{α :Type}(l:List α)(p: α→Bool):decide (R2 (l.findIdx? p)≥0)=l.any p:=by
 have h:=List.findIdx?_isSome (xs:=l) (p:=p)
 rw [←h]
 cases l.findIdx? p with
 |none=>rfl
 |some i=>simp [R2]
theorem Z7(L:Nat)(z:Int):Ih L z=some (Aaf z):=by
 simp only [Xj,Ih,Ao,Au,Al,Am,Ar,Ap,Ak,Av,Aw,Aq,Ax,Aaf,Dz]
theorem Ajm(L:Nat):No L=some kws:=rfl
theorem Atx(L:Nat)(a0:List ByteArray)(a1:ByteArray):∀(k:List ByteArray) (i:Nat) (v:Int),P1 L a0 a1 k i v=some (match k.findIdx? (fun x=>x.toList == a1.toList) with|some j=>(0,(((i+j:Nat):Int),((i+j:Nat):Int)))|none=>(1,(v,((i+k.length:Nat):Int)))):=by
 intro k
 induction k with
 |nil=>intro i v;rfl
 |cons x k ih=>
  intro i v
  rw [P1,ih,List.findIdx?_cons]
  cases hc:(fun x=>x.toList == a1.toList) x with
  |true=>simp only [hc,cond_true,if_true];rfl
  |false=>
   simp only [hc,cond_false,if_false,Bool.false_eq_true]
   cases k.findIdx? (fun x=>x.toList == a1.toList) with
   |some j=>simp [Nat.add_assoc,Nat.add_comm 1]
   |none=>simp [Nat.add_assoc,Nat.add_comm 1]
theorem Abi(L:Nat)(l:List ByteArray)(s:ByteArray)(hl:l.length≤maxLen)(hL:l.length < L):G9 L l s=some (Av7 l s):=by
 simp only [X5,G9,Ao,Au,Al,Am,Ar,Ap,Ak,Av,Aw,Aq,Ax,Alr _ _ _ _ hl hL,Atx,G8,Option.bind_some,Av7]
 cases l.findIdx? fun x=>decide (x=s) with
 |none=>rfl
 |some i=>simp [R2,P9]
theorem Amb(L:Nat)(s:ByteArray)(hL:80 < L):Ic L s=some (Xu s):=by
 simp only [Vw,Ic,Ao,Au,Al,Am,Ar,Ap,Ak,Av,Aw,Aq,Ax,Ajm,Abi L kws s (by decide) (show kws.length < L from Nat.lt_trans (by decide) hL),Option.bind_some,Av7,Akk]
 simp only [Xu,eq_comm]
theorem Bqx(L:Nat)(a:ByteArray)(hs:a.size≤maxLen):∀(m i n:Nat) (v:Int),i+m=a.size→m < n→
  ∃j,K9 L a n v i=some (bif Qr a i m then (1,(v,j)) else (0,(3,j))):=by
 intro m
 induction m with
 |zero=>
  intro i n v hi hn
  obtain ⟨n,rfl⟩:∃k,n=k+1:=⟨n - 1,by omega⟩
  exact ⟨i,by simp only [K9,K5,Ao,Au,Al,Am,Ar,Ap,Ak,Av,Aw,Aq,Ax,Qr,L2 (show a.size≤i by omega),cond_true,cond_false]⟩
 |succ m ih=>
  intro i n v hi hn
  obtain ⟨n,rfl⟩:∃k,n=k+1:=⟨n - 1,by omega⟩
  have hlt:i < a.size:=by omega
  obtain ⟨j,hj⟩:=ih (i+1) n v (by omega) (by omega)
  have hb:=A74 hlt
  cases hc:okZ (w9 a i) with
  |true=>
   refine ⟨j,?_⟩
   have e:Qr a i (m+1)=Qr a (i+1) m:=by simp only [Qr,hc,Bool.true_and]
   simp only [K9,K5,Ao,Au,Al,Am,Ar,Ap,Ak,Av,Aw,Aq,Ax,Kq hlt,nn,Sr,if_true,hb,cond_true,Z7,Option.bind_some,Ch hlt hs,hj,e,D7,Dz,O8]
   rw [show ((!Aaf (C6 a[i]?) && C6 a[i]? != 95) && (decide (C6 a[i]? < 48) || decide (C6 a[i]? > 57)))=false from ?_]
   ·rfl
   ·revert hc;unfold okZ w9
    generalize C6 a[i]? =z
    cases Aaf z<;>simp<;>omega
  |false=>
   refine ⟨i,?_⟩
   have e:Qr a i (m+1)=false:=by simp only [Qr,hc,Bool.false_and]
   simp only [K9,K5,Ao,Au,Al,Am,Ar,Ap,Ak,Av,Aw,Aq,Ax,Kq hlt,nn,Sr,if_true,hb,cond_true,Z7,Option.bind_some,Ch hlt hs,hj,e,D7,Dz,O8]
   rw [show ((!Aaf (C6 a[i]?) && C6 a[i]? != 95) && (decide (C6 a[i]? < 48) || decide (C6 a[i]? > 57)))=true from ?_]
   ·rfl
   ·revert hc;unfold okZ w9
    generalize C6 a[i]? =z
    cases Aaf z<;>simp<;>omega
theorem v6(L:Nat)(s:ByteArray)(hs:okS s)(hL:s.size < L)(hL':80 < L):E2 L s=some (S6 s):=by
 obtain ⟨j,hj⟩:=Bqx L s hs s.size 0 L 0 (by omega) hL
 have e0:decide ((s.size:Int) > 24)= !decide (s.size≤24):=by
  by_cases h:s.size≤24
  ·rw [decide_eq_false (by omega),decide_eq_true h];rfl
  ·rw [decide_eq_true (by omega),decide_eq_false h];rfl
 have e2:decide ((s.size:Int) < 1)=decide (s.size=0):=decide_eq_decide.2 (by omega)
 simp only [We,E2,Ao,Au,Al,Am,Ar,Ap,Ak,Av,Aw,Aq,Ax,Z7,Amb L s hL',Option.bind_some,D7,O8,e0,e2]
 by_cases h0:s.size=0
 ·have:Z6 s=false:=by unfold Z6;rw [decide_eq_false (show¬1≤s.size by omega)];rfl
  simp [h0,S6,this]
 ·have hb:=A74 (show 0 < s.size by omega)
  have e1:Z6 s=(decide (s.size≤24) && Aaf (w9 s 0) && !Xu s && Qr s 0 s.size):=by unfold Z6;rw [decide_eq_true (show 1≤s.size by omega)];rfl
  simp only [Int.ofNat_zero,Int.natCast_zero] at hj
  simp only [h0,decide_false,Bool.false_or,Int.le_refl,Nat.le_refl,if_true,Int.toNat_zero,hb,cond_true,hj,Option.bind_some,S6,e1,w9]
  cases decide (s.size≤24)<;>cases Aaf (C6 s[0]?)<;>cases Xu s<;>cases Qr s 0 s.size<;>rfl
theorem Ao1(Ey:Aa→Option Int)(L:Nat)(a0:Aa):∀(k:List Aa) (i:Nat) (v:Int),(∀x∈k,Ey x=some (W9 x))→∃j,Oa Ey L a0 k i v=some (0,(Ag9 k v,j)):=by
 intro k
 induction k with
 |nil=>intro i v _;exact ⟨_,rfl⟩
 |cons x k ih=>
  intro i v h
  obtain ⟨j,hj⟩:=ih (i+1) (F9 (v+W9 x)) fun y hy=>h y (by simp [hy])
  exact ⟨j,by simp only [Oa,h x (by simp),Option.bind_some,hj,Ag9]⟩
theorem Ath{e:Aa}(h:Ce e):∀L,maxLen+dE e < L→Kv L e=some (W9 e):=by
 induction h with
 |mk a0 a1 a2 a3 h0 h1 h2 h3 h4 ih=>
  intro L hL
  obtain ⟨L,rfl⟩:∃k,L=k+1:=⟨L - 1,by omega⟩
  rw [dE] at hL
  have hr:∀x∈a3,Kv L x=some (W9 x):=fun x hx=>ih x hx L (by have:=Zs hx;omega)
  obtain ⟨j,hj⟩:=Ao1 (Kv L) L (.mk a0 a1 a2 a3) a3 0 1 hr
  simp only [Wg,V5,Kv,Ao,Au,Al,Am,Ar,Ap,Ak,Av,Aw,Aq,Ax,Aa.cp_eq,Aa.Op,Aa.Name,Aa.N,Aa.Kids,Aa.eta,Aiy _ _ (.mk a0 a1 a2 a3) _ h3 (show a3.length < L by omega),hj,Option.bind_some,P9,W9]
theorem Ao0(Ez:Aa→Option Int)(L:Nat)(a0:Aa):∀(k:List Aa) (i:Nat) (v:Int),(∀x∈k,Ez x=some (Tz x))→∃j,N9 Ez L a0 k i v=some (0,(Agn k v,j)):=by
 intro k
 induction k with
 |nil=>intro i v _;exact ⟨_,rfl⟩
 |cons x k ih=>
  intro i v h
  obtain ⟨j,hj⟩:=ih (i+1) (if Tz x > v then Tz x else v) fun y hy=>h y (by simp [hy])
  exact ⟨j,by simp only [N9,h x (by simp),Option.bind_some,hj,Agn]⟩
theorem Atg{e:Aa}(h:Ce e):∀L,maxLen+dE e < L→Ku L e=some (Tz e):=by
 induction h with
 |mk a0 a1 a2 a3 h0 h1 h2 h3 h4 ih=>
  intro L hL
  obtain ⟨L,rfl⟩:∃k,L=k+1:=⟨L - 1,by omega⟩
  rw [dE] at hL
  have hr:∀x∈a3,Ku L x=some (Tz x):=fun x hx=>ih x hx L (by have:=Zs hx;omega)
  obtain ⟨j,hj⟩:=Ao0 (Ku L) L (.mk a0 a1 a2 a3) a3 0 0 hr
  simp only [Wf,V4,Ku,Ao,Au,Al,Am,Ar,Ap,Ak,Av,Aw,Aq,Ax,Aa.cp_eq,Aa.Op,Aa.Name,Aa.N,Aa.Kids,Aa.eta,Aix _ _ (.mk a0 a1 a2 a3) _ h3 (show a3.length < L by omega),hj,Option.bind_some,P9,Tz]
theorem Atf(L:Nat)(op:Int):Q7 L op=some (Vk op):=by
 simp only [Zd,Q7,Ao,Au,Al,Am,Ar,Ap,Ak,Av,Aw,Aq,Ax,Vk,Dz,O8,D7]
 congr 1
 grind
theorem Aom(L:Nat)(op:Int):Ii L op=some (Afe op):=by
 simp only [Xk,Ii,Ao,Au,Al,Am,Ar,Ap,Ak,Av,Aw,Aq,Ax,Afe,Dz]
theorem A2d(L:Nat)(n:Int):Wb L n=some (inZ n):=by
 simp only [Ad9,Wb,Ao,Au,Al,Am,Ar,Ap,Ak,Av,Aw,Aq,Ax,inZ,Dz]
theorem Awv(L:Nat)(op:Int):J0 L op=some (if op=25 then 15 else if op=26 then 31 else 63):=by
 simp only [m9,J0,Ao,Au,Al,Am,Ar,Ap,Ak,Av,Aw,Aq,Ax,D7]
 congr 1
 grind
theorem Aty(E0:Aa→Bool→Option Int)(L:Nat)(a1:Aa)(c:Bool):∀(k:List Aa) (i:Nat) (v:Int),(∀x∈k,E0 x c=some (j9 c x))→∃j,Nd E0 L c a1 k i v=some (bif Aav c k != 0 then (0,(Aav c k,j)) else (1,(v,j))):=by
 intro k
 induction k with
 |nil=>intro i v _;exact ⟨i,rfl⟩
 |cons x k ih=>
  intro i v h
  obtain ⟨j,hj⟩:=ih (i+1) v fun y hy=>h y (by simp [hy])
  by_cases hx:j9 c x=0
  ·exact ⟨j,by simp [Nd,h x (by simp),hj,Aav,hx]⟩
  ·exact ⟨(i:Int),by simp [Nd,h x (by simp),hj,Aav,hx,i4 hx]⟩
theorem Aww{e:Aa}(h:Ce e)(c:Bool):∀L,maxLen+dE e < L→L6 L e c=some (j9 c e):=by
 induction h with
 |mk a0 a1 a2 a3 h0 h1 h2 h3 h4 ih=>
  intro L hL
  obtain ⟨L,rfl⟩:∃k,L=k+1:=⟨L - 1,by omega⟩
  rw [dE] at hL
  have hr:∀x∈a3,L6 L x c=some (j9 c x):=fun x hx=>ih x hx L (by have:=Zs hx;omega)
  obtain ⟨j,hj⟩:=Aty (L6 L) L (.mk a0 a1 a2 a3) c a3 0 0 hr
  have h1':a1.size≤maxLen:=h1
  have hm:(80:Nat) < maxLen:=by decide
  have hloop:(Option.bind (Kr (L6 L) L c (.mk a0 a1 a2 a3) L 0 0) fun o=>Acv o.1 [some o.2.1,some 0])=some (Aav c a3):=by
   rw [Als _ _ _ (.mk a0 a1 a2 a3) _ h3 (show a3.length < L by omega)]
   simp only [Aa.cp_eq,Aa.Op,Aa.Name,Aa.N,Aa.Kids,Aa.eta,hj,Option.bind_some]
   by_cases h':Aav c a3=0
   ·simp [h',f6]
   ·simp [P9,i4 h']
  simp only [Nj,Sd,Ni,Sc,Nh,Sb,Ng,Sa,Ac8,X3,L6,Ao,Au,Al,Am,Ar,Ap,Ak,Av,Aw,Aq,Ax,Aa.cp_eq,Aa.Op,Aa.Name,Aa.N,Aa.Kids,Aa.eta,hloop,Atf,Aom,A2d,Awv,v6 L a1 h1 (show a1.size < L by omega) (show 80 < L by omega),G8,Dz,O8,D7,Option.bind_some,j9]
  congr 1
  generalize Aav c a3=rest
  unfold Afc Ab9 Al6
  simp only [Aa.cp_eq,Aa.Op,Aa.Name,Aa.N,Aa.Kids,Aa.eta]
  clear hj hloop hr ih h4 h0 h1 h2 h3 h1' hL hm
  have hop:=Akn a0
  rcases hop with rfl|rfl|rfl|rfl|rfl|rfl|rfl|rfl|rfl|rfl|rfl|rfl|rfl|rfl|rfl|rfl|rfl|rfl|rfl|rfl|rfl|rfl|rfl|rfl|rfl|rfl|hop|hop<;>cases c
  all_goals first|(simp [Zx,u5,Afe,Vk];done)|(simp [Zx,u5,Afe,Vk];grind)|grind [Zx,u5,Afe,Vk]
theorem Ati{e:Aa}(h:Ce e)(c:Bool)(L:Nat)(hL:maxLen+dE e < L):Q8 L e c=some (E1 c e):=by
 simp only [Zf,Q8,Ao,Au,Al,Am,Ar,Ap,Ak,Av,Aw,Aq,Ax,Aa.cp_eq,Ath h L hL,Atg h L hL,Aww h c L hL,Option.bind_some,D7,E1]
 congr 1
 grind
theorem Xy{e:Aa}(h:Ce e)(L:Nat)(hL:maxLen+dE e < L):E3 L e=some (E1 false e):=by
 simp only [Ze,E3,Ao,Au,Al,Am,Ar,Ap,Ak,Av,Aw,Aq,Ax,Aa.cp_eq,Ati h _ L hL,Option.bind_some]
end Go.Proofs.YtcbandfdmbkokaaGreat.Ev
