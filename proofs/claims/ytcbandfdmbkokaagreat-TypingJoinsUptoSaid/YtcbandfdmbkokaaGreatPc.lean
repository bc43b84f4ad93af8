/-  Chapter 9, plainly: expressions of the program. -/
import Derived.Test.YtcbandfdmbkokaaGreatQ1
import Derived.Test.YtcbandfdmbkokaaGreatPb
import Derived.Test.YtcbandfdmbkokaaGreatR0
namespace Go.Proofs.YtcbandfdmbkokaaGreat.Ev
open Go
set_option linter.unusedVariables false
set_option linter.unusedSimpArgs false
set_option linter.unnecessarySimpa false
mutual
def dE:Aa→Nat
 | .mk _ _ _ k=>dEs k+1
def dEs:List Aa→Nat
 | []=>0
 |x::k=>max (dE x) (dEs k)
end
theorem Zs{x:Aa}{k:List Aa}(h:x∈k):dE x≤dEs k:=by
 induction k with
 |nil=>cases h
 |cons a k ih=>
  rw [dEs]
  rcases List.mem_cons.1 h with rfl|h
  ·omega
  ·have:=ih h;omega
mutual
def W9:Aa→Int
 | .mk _ _ _ k=>Ag9 k 1
def Ag9:List Aa→Int→Int
 | [],n=>n
 |x::k,n=>Ag9 k (F9 (n+W9 x))
end
mutual
def Tz:Aa→Int
 | .mk _ _ _ k=>F9 (Agn k 0+1)
def Agn:List Aa→Int→Int
 | [],n=>n
 |x::k,n=>Agn k (if Tz x > n then Tz x else n)
end
def Vk(op:Int):Int:=
 if op=1∨op=2∨op=3∨op=4 then 0 else if 5≤op∧op≤8 then 1 else if 9≤op∧op≤21 then 2 else if 22≤op∧op≤26 then 0 else -1
def Afe(op:Int):Bool:=decide (22≤op) && decide (op≤24)
def inZ(n:Int):Bool:=decide (-1000000000000≤n) && decide (n≤1000000000000)
def u5(c:Bool)(op:Int):Bool:=if op=3 then !c else if op=25∨op=26 then c else decide (0≤Vk op)
def Zx(c:Bool)(op:Int):Bool:=op == 3 || (Afe op && !c)
def Al6(c:Bool)(op:Int):Option Int:=if op=2 then some 1 else if op=25 then some 15 else if op=26 then some 31 else if Afe op && c then some 63 else none
def Ab9(c:Bool)(e:Aa):Bool:= !u5 c e.Op || decide ((e.Kids.length:Int)≠Vk e.Op) || (!decide (e.Name=⟨#[]⟩) && !Zx c e.Op)
def Afc(c:Bool)(e:Aa):Int:=
 if Ab9 c e=true then 1
 else if e.Op=1 then (if inZ e.N then 0 else 2)
 else match Al6 c e.Op with
  |none=>if e.N≠0 then 1 else if Zx c e.Op then S6 e.Name else 0
  |some hi=>if e.N < 0∨hi < e.N then 2 else if Zx c e.Op then S6 e.Name else 0
mutual
def j9(c:Bool):Aa→Int
 | .mk op nm n k=>if Afc c (.mk op nm n k)≠0 then Afc c (.mk op nm n k) else Aav c k
def Aav(c:Bool):List Aa→Int
 | []=>0
 |x::k=>if j9 c x≠0 then j9 c x else Aav c k
end
def E1(c:Bool)(e:Aa):Int:=if W9 e > 60 then 6 else if Tz e > 12 then 11 else j9 c e
theorem Akn(op:Int):op=1∨op=2∨op=3∨op=4∨op=5∨op=6∨op=7∨op=8∨op=9∨op=10∨op=11∨op=12∨op=13∨op=14∨op=15∨op=16∨op=17∨op=18∨op=19∨op=20∨op=21∨op=22∨op=23∨op=24∨op=25∨op=26∨op < 1∨26 < op:=by omega
theorem Afi(L:Nat)(op:Int):K2 L op=some (Vk op):=by
 simp only [Zl,K2,Ao,Au,Al,Am,Ar,Ap,Ak,Av,Aw,Aq,Ax,Vk,Dz,O8,D7]
 congr 1
 grind
theorem Abm(L:Nat)(op:Int):Hh L op=some (Afe op):=by
 simp only [Vz,Hh,Ao,Au,Al,Am,Ar,Ap,Ak,Av,Aw,Aq,Ax,Afe,Dz]
theorem Adx(L:Nat)(k:Bu)(op:Int):Hb L k op=some (u5 k.u_code op):=by
 simp only [Sm,Hb,Ao,Au,Al,Am,Ar,Ap,Ak,Av,Aw,Aq,Ax,u5,Afi,Option.bind_some,D7]
 congr 1
 grind
theorem Ady(L:Nat)(k:Bu)(op:Int):Eu L k op=some (Zx k.u_code op):=by
 simp only [Sn,Eu,Ao,Au,Al,Am,Ar,Ap,Ak,Av,Aw,Aq,Ax,Zx,Abm,Option.bind_some,D7,O8,Dz]
theorem A2e(L:Nat)(n:Int):Ui L n=some (inZ n):=by
 simp only [Aea,Ui,Ao,Au,Al,Am,Ar,Ap,Ak,Av,Aw,Aq,Ax,inZ,Dz]
theorem Abl(L:Nat)(k:Bu)(op:Int):Ek L k op=some (match Al6 k.u_code op with|some hi=>(0,hi,true)|none=>(0,0,false)):=by
 simp only [Qa,Ek,Ao,Au,Al,Am,Ar,Ap,Ak,Av,Aw,Aq,Ax,Al6,Abm,Option.bind_some,D7,Dz]
 congr 1
 grind
theorem Afj(L:Nat)(k:Bu)(e:Aa)(hn:okS e.Name)(hL:e.Name.size < L):Gx L k e=some (Afc k.u_code e):=by
 simp only [Ta,Gx,Ao,Au,Al,Am,Ar,Ap,Ak,Av,Aw,Aq,Ax,Adx,Afi,Ady,A2e,Abl,Option.bind_some,Yu L e.Name hn hL,D7,G8,Dz,O8,Afc,Ab9]
 congr 1
 cases Al6 k.u_code e.Op<;>grind
theorem Amn(Ey:Aa→Option Int)(L:Nat)(a0:Aa):∀(k:List Aa) (i:Nat) (v:Int),(∀x∈k,Ey x=some (W9 x))→∃j,Mk Ey L a0 k i v=some (0,(Ag9 k v,j)):=by
 intro k
 induction k with
 |nil=>intro i v _;exact ⟨_,rfl⟩
 |cons x k ih=>
  intro i v h
  obtain ⟨j,hj⟩:=ih (i+1) (F9 (v+W9 x)) fun y hy=>h y (by simp [hy])
  exact ⟨j,by simp only [Mk,h x (by simp),Option.bind_some,hj,Ag9]⟩
theorem Aor{e:Aa}(h:Ce e):∀L,maxLen+dE e < L→Il L e=some (W9 e):=by
 induction h with
 |mk a0 a1 a2 a3 h0 h1 h2 h3 h4 ih=>
  intro L hL
  obtain ⟨L,rfl⟩:∃k,L=k+1:=⟨L - 1,by omega⟩
  rw [dE] at hL
  have hr:∀x∈a3,Il L x=some (W9 x):=fun x hx=>ih x hx L (by have:=Zs hx;omega)
  obtain ⟨j,hj⟩:=Amn (Il L) L (.mk a0 a1 a2 a3) a3 0 1 hr
  simp only [Ut,Ud,Il,Ao,Au,Al,Am,Ar,Ap,Ak,Av,Aw,Aq,Ax,Aa.cp_eq,Aa.Op,Aa.Name,Aa.N,Aa.Kids,Aa.eta,Ags _ _ (.mk a0 a1 a2 a3) _ h3 (show a3.length < L by omega),hj,Option.bind_some,P9,W9]
theorem Amm(Ez:Aa→Option Int)(L:Nat)(a0:Aa):∀(k:List Aa) (i:Nat) (v:Int),(∀x∈k,Ez x=some (Tz x))→∃j,Mj Ez L a0 k i v=some (0,(Agn k v,j)):=by
 intro k
 induction k with
 |nil=>intro i v _;exact ⟨_,rfl⟩
 |cons x k ih=>
  intro i v h
  obtain ⟨j,hj⟩:=ih (i+1) (if Tz x > v then Tz x else v) fun y hy=>h y (by simp [hy])
  exact ⟨j,by simp only [Mj,h x (by simp),Option.bind_some,hj,Agn]⟩
theorem Aoq{e:Aa}(h:Ce e):∀L,maxLen+dE e < L→Ik L e=some (Tz e):=by
 induction h with
 |mk a0 a1 a2 a3 h0 h1 h2 h3 h4 ih=>
  intro L hL
  obtain ⟨L,rfl⟩:∃k,L=k+1:=⟨L - 1,by omega⟩
  rw [dE] at hL
  have hr:∀x∈a3,Ik L x=some (Tz x):=fun x hx=>ih x hx L (by have:=Zs hx;omega)
  obtain ⟨j,hj⟩:=Amm (Ik L) L (.mk a0 a1 a2 a3) a3 0 0 hr
  simp only [Us,Uc,Ik,Ao,Au,Al,Am,Ar,Ap,Ak,Av,Aw,Aq,Ax,Aa.cp_eq,Aa.Op,Aa.Name,Aa.N,Aa.Kids,Aa.eta,Agr _ _ (.mk a0 a1 a2 a3) _ h3 (show a3.length < L by omega),hj,Option.bind_some,P9,Tz]
theorem Acu(E0:Bu→Aa→Option Int)(L:Nat)(a1:Aa)(c:Bu):∀(k:List Aa) (i:Nat) (v:Int),(∀x∈k,E0 c x=some (j9 c.u_code x))→∃j,E6 E0 L a1 c k i v=some (bif Aav c.u_code k != 0 then (0,(Aav c.u_code k,j)) else (1,(v,j))):=by
 intro k
 induction k with
 |nil=>intro i v _;exact ⟨i,rfl⟩
 |cons x k ih=>
  intro i v h
  obtain ⟨j,hj⟩:=ih (i+1) v fun y hy=>h y (by simp [hy])
  by_cases hx:j9 c.u_code x=0
  ·exact ⟨j,by simp [E6,h x (by simp),hj,Aav,hx]⟩
  ·exact ⟨(i:Int),by simp [E6,h x (by simp),hj,Aav,hx,i4 hx]⟩
theorem Adz{e:Aa}(h:Ce e)(c:Bu):∀L,maxLen+dE e < L→D5 L c e=some (j9 c.u_code e):=by
 induction h with
 |mk a0 a1 a2 a3 h0 h1 h2 h3 h4 ih=>
  intro L hL
  obtain ⟨L,rfl⟩:∃k,L=k+1:=⟨L - 1,by omega⟩
  rw [dE] at hL
  have hr:∀x∈a3,D5 L c x=some (j9 c.u_code x):=fun x hx=>ih x hx L (by have:=Zs hx;omega)
  obtain ⟨j,hj⟩:=Acu (D5 L) L (.mk a0 a1 a2 a3) c a3 0 0 hr
  have h1':a1.size≤maxLen:=h1
  simp only [O5,Ov,D5,Ao,Au,Al,Am,Ar,Ap,Ak,Av,Aw,Aq,Ax,Aa.cp_eq,Aa.Op,Aa.Name,Aa.N,Aa.Kids,Aa.eta,Afj L c (.mk a0 a1 a2 a3) h1 (show a1.size < L by omega),Aag _ _ (.mk a0 a1 a2 a3) _ _ h3 (show a3.length < L by omega),hj,Option.bind_some,j9]
  by_cases h:Afc c.u_code (.mk a0 a1 a2 a3)=0
  ·by_cases h':Aav c.u_code a3=0
   ·simp [h,h',P9,f6]
   ·simp [h,h',P9,f6,i4 h']
  ·simp [h,i4 h]
theorem Adw{e:Aa}(h:Ce e)(c:Bu)(L:Nat)(hL:maxLen+dE e < L):Ha L c e=some (E1 c.u_code e):=by
 simp only [Sl,Ha,Ao,Au,Al,Am,Ar,Ap,Ak,Av,Aw,Aq,Ax,Aa.cp_eq,Aor h L hL,Aoq h L hL,Adz h c L hL,Option.bind_some,D7,E1]
 congr 1
 grind
theorem V3{e:Aa}(h:Ce e)(L:Nat)(hL:maxLen+dE e < L):Gw L e=some (E1 false e):=by
 simp only [Xn,Gw,Ao,Au,Al,Am,Ar,Ap,Ak,Av,Aw,Aq,Ax,Aa.cp_eq,Adw h _ L hL,Option.bind_some]
end Go.Proofs.YtcbandfdmbkokaaGreat.Ev
