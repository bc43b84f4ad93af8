/-  Chapter 9, plainly: expressions of the program. -/
import Derived.Test.YtmimkinjcfekmaaGreatQ1
import Derived.Test.YtmimkinjcfekmaaGreatPb
import Derived.Test.YtmimkinjcfekmaaGreatR0
namespace Go.Proofs.YtmimkinjcfekmaaGreat.Ev
open Go An
set_option maxRecDepth 100000
set_option linter.unusedVariables false
set_option linter.unusedSimpArgs false
set_option linter.unnecessarySimpa false
mutual
def dE:Aa→Nat
 | .mk _ _ _ k=>dEs k+1
def dEs:List Aa→Nat
 | []=>0
 |x::k=>max (dE x) (dEs k)
end
theorem Tf{x:Aa}{k:List Aa}(h:x∈k):dE x≤dEs k:=by
 induction k with
 |nil=>cases h
 |cons a k ih=>
  rw [dEs]
  rcases List.mem_cons.1 h with rfl|h
  ·omega
  ·have:=ih h;omega
mutual
def Pi:Aa→Int
 | .mk _ _ _ k=>Xe k 1
def Xe:List Aa→Int→Int
 | [],n=>n
 |x::k,n=>Xe k (Mu (n+Pi x))
end
mutual
def L4:Aa→Int
 | .mk _ _ _ k=>Mu (Wy k 0+1)
def Wy:List Aa→Int→Int
 | [],n=>n
 |x::k,n=>Wy k (if L4 x > n then L4 x else n)
end
def Sa(op:Int):Int:=
 if op=1∨op=2∨op=3∨op=4 then 0 else if 5≤op∧op≤8 then 1 else if 9≤op∧op≤21 then 2 else if 22≤op∧op≤26 then 0 else -1
def u4(op:Int):Bool:=decide (22≤op) && decide (op≤24)
def inZ(n:Int):Bool:=decide (-1000000000000≤n) && decide (n≤1000000000000)
def Th(c:Bool)(op:Int):Bool:=if op=3 then !c else if op=25∨op=26 then c else decide (0≤Sa op)
def Qq(c:Bool)(op:Int):Bool:=op == 3 || (u4 op && !c)
def Xc(c:Bool)(op:Int):Option Int:=if op=2 then some 1 else if op=25 then some 15 else if op=26 then some 31 else if u4 op && c then some 63 else none
def P6(c:Bool)(e:Aa):Bool:= !Th c e.Op || decide ((e.Kids.length:Int)≠Sa e.Op) || (!decide (e.Name=⟨#[]⟩) && !Qq c e.Op)
def Sk(c:Bool)(e:Aa):Int:=
 if P6 c e=true then 1
 else if e.Op=1 then (if inZ e.N then 0 else 2)
 else match Xc c e.Op with
  |none=>if e.N≠0 then 1 else if Qq c e.Op then Y7 e.Name else 0
  |some hi=>if e.N < 0∨hi < e.N then 2 else if Qq c e.Op then Y7 e.Name else 0
mutual
def Rf(c:Bool):Aa→Int
 | .mk op nm n k=>if Sk c (.mk op nm n k)≠0 then Sk c (.mk op nm n k) else U9 c k
def U9(c:Bool):List Aa→Int
 | []=>0
 |x::k=>if Rf c x≠0 then Rf c x else U9 c k
end
def Ih(c:Bool)(e:Aa):Int:=if Pi e > 60 then 6 else if L4 e > 12 then 11 else Rf c e
theorem Ae0(op:Int):op=1∨op=2∨op=3∨op=4∨op=5∨op=6∨op=7∨op=8∨op=9∨op=10∨op=11∨op=12∨op=13∨op=14∨op=15∨op=16∨op=17∨op=18∨op=19∨op=20∨op=21∨op=22∨op=23∨op=24∨op=25∨op=26∨op < 1∨26 < op:=by omega
theorem Qu(L:Nat)(op:Int):Hr L op=some (Sa op):=by
 simp only [M3,Hr,aN,aB,Sa,Jo,Ol,Ii]
 congr 1
 grind
theorem Nn(L:Nat)(op:Int):Gw L op=some (u4 op):=by
 simp only [K5,Gw,aN,aB,u4,Jo]
theorem Pl(L:Nat)(k:Ah)(op:Int):Eo L k op=some (Th k.u_code op):=by
 simp only [H9,Eo,aN,aB,Th,Qu,Option.bind_some,Ii]
 congr 1
 grind
theorem Pm(L:Nat)(k:Ah)(op:Int):Cw L k op=some (Qq k.u_code op):=by
 simp only [Ia,Cw,aN,aB,Qq,Nn,Option.bind_some,Ii,Ol,Jo]
theorem Aar(L:Nat)(n:Int):Mv L n=some (inZ n):=by
 simp only [Tn,Mv,aN,aB,inZ,Jo]
theorem Nm(L:Nat)(k:Ah)(op:Int):C2 L k op=some (match Xc k.u_code op with|some hi=>(0,hi,true)|none=>(0,0,false)):=by
 simp only [Gv,C2,aN,aB,Xc,Nn,Option.bind_some,Ii,Jo]
 congr 1
 grind
theorem Qv(L:Nat)(k:Ah)(e:Aa)(hn:Rs e.Name)(hL:e.Name.size < L):Fs L k e=some (Sk k.u_code e):=by
 simp only [Iw,Fs,aN,aB,Pl,Qu,Pm,Aar,Nm,Option.bind_some,Uj L e.Name hn hL,Ii,Hl,Jo,Ol,Sk,P6]
 congr 1
 cases Xc k.u_code e.Op<;>grind
theorem Un(Afv:Aa→Option Int)(L:Nat)(a0:Aa):∀(k:List Aa) (i:Nat) (v:Int),(∀x∈k,Afv x=some (Pi x))→∃j,C1 Afv L a0 k i v=some (0,(Xe k v,j)):=by
 intro k
 induction k with
 |nil=>intro i v _;exact ⟨_,rfl⟩
 |cons x k ih=>
  intro i v h
  obtain ⟨j,hj⟩:=ih (i+1) (Mu (v+Pi x)) fun y hy=>h y (by simp [hy])
  exact ⟨j,by simp only [C1,h x (by simp),Option.bind_some,hj,Xe]⟩
theorem Ve{e:Aa}(h:Bc e):∀L,maxLen+dE e < L→C6 L e=some (Pi e):=by
 induction h with
 |mk a0 a1 a2 a3 h0 h1 h2 h3 h4 ih=>
  intro L hL
  obtain ⟨L,rfl⟩:∃k,L=k+1:=⟨L - 1,by omega⟩
  rw [dE] at hL
  have hr:∀x∈a3,C6 L x=some (Pi x):=fun x hx=>ih x hx L (by have:=Tf hx;omega)
  obtain ⟨j,hj⟩:=Un (C6 L) L (.mk a0 a1 a2 a3) a3 0 1 hr
  simp only [Pz,Ei,Ls,C6,Ei,aN,aB,Aa.cp_eq,Aa.Op,Aa.Name,Aa.N,Aa.Kids,Aa.eta,Rn _ _ (.mk a0 a1 a2 a3) _ h3 (show a3.length < L by omega),hj,Option.bind_some,Uw,Pi]
theorem Um(Afw:Aa→Option Int)(L:Nat)(a0:Aa):∀(k:List Aa) (i:Nat) (v:Int),(∀x∈k,Afw x=some (L4 x))→∃j,C0 Afw L a0 k i v=some (0,(Wy k v,j)):=by
 intro k
 induction k with
 |nil=>intro i v _;exact ⟨_,rfl⟩
 |cons x k ih=>
  intro i v h
  obtain ⟨j,hj⟩:=ih (i+1) (if L4 x > v then L4 x else v) fun y hy=>h y (by simp [hy])
  exact ⟨j,by simp only [C0,h x (by simp),Option.bind_some,hj,Wy]⟩
theorem Vc{e:Aa}(h:Bc e):∀L,maxLen+dE e < L→C5 L e=some (L4 e):=by
 induction h with
 |mk a0 a1 a2 a3 h0 h1 h2 h3 h4 ih=>
  intro L hL
  obtain ⟨L,rfl⟩:∃k,L=k+1:=⟨L - 1,by omega⟩
  rw [dE] at hL
  have hr:∀x∈a3,C5 L x=some (L4 x):=fun x hx=>ih x hx L (by have:=Tf hx;omega)
  obtain ⟨j,hj⟩:=Um (C5 L) L (.mk a0 a1 a2 a3) a3 0 0 hr
  simp only [Py,Eh,Lr,C5,Eh,aN,aB,Aa.cp_eq,Aa.Op,Aa.Name,Aa.N,Aa.Kids,Aa.eta,Rm _ _ (.mk a0 a1 a2 a3) _ h3 (show a3.length < L by omega),hj,Option.bind_some,Uw,L4]
theorem Ob(Afx:Ah→Aa→Option Int)(L:Nat)(a1:Aa)(c:Ah):∀(k:List Aa) (i:Nat) (v:Int),(∀x∈k,Afx c x=some (Rf c.u_code x))→∃j,Be Afx L a1 c k i v=some (bif U9 c.u_code k != 0 then (0,(U9 c.u_code k,j)) else (1,(v,j))):=by
 intro k
 induction k with
 |nil=>intro i v _;exact ⟨i,rfl⟩
 |cons x k ih=>
  intro i v h
  obtain ⟨j,hj⟩:=ih (i+1) v fun y hy=>h y (by simp [hy])
  by_cases hx:Rf c.u_code x=0
  ·exact ⟨j,by simp [Be,h x (by simp),hj,U9,hx]⟩
  ·exact ⟨(i:Int),by simp [Be,h x (by simp),hj,U9,hx,ne0 hx]⟩
theorem Pn{e:Aa}(h:Bc e)(c:Ah):∀L,maxLen+dE e < L→Bh L c e=some (Rf c.u_code e):=by
 induction h with
 |mk a0 a1 a2 a3 h0 h1 h2 h3 h4 ih=>
  intro L hL
  obtain ⟨L,rfl⟩:∃k,L=k+1:=⟨L - 1,by omega⟩
  rw [dE] at hL
  have hr:∀x∈a3,Bh L c x=some (Rf c.u_code x):=fun x hx=>ih x hx L (by have:=Tf hx;omega)
  obtain ⟨j,hj⟩:=Ob (Bh L) L (.mk a0 a1 a2 a3) c a3 0 0 hr
  have h1':a1.size≤maxLen:=h1
  simp only [Ku,Dr,Cu,Hy,Bh,Dr,Cu,aN,aB,Aa.cp_eq,Aa.Op,Aa.Name,Aa.N,Aa.Kids,Aa.eta,Qv L c (.mk a0 a1 a2 a3) h1 (show a1.size < L by omega),Mp _ _ (.mk a0 a1 a2 a3) _ _ h3 (show a3.length < L by omega),hj,Option.bind_some,Rf]
  by_cases h:Sk c.u_code (.mk a0 a1 a2 a3)=0
  ·by_cases h':U9 c.u_code a3=0
   ·simp [h,h',Uw,Ac6]
   ·simp [h,h',Uw,Ac6,ne0 h']
  ·simp [h,ne0 h]
theorem Pk{e:Aa}(h:Bc e)(c:Ah)(L:Nat)(hL:maxLen+dE e < L):Em L c e=some (Ih c.u_code e):=by
 simp only [H8,Em,aN,aB,Aa.cp_eq,Ve h L hL,Vc h L hL,Pn h c L hL,Option.bind_some,Ii,Ih]
 congr 1
 grind
theorem Ot{e:Aa}(h:Bc e)(L:Nat)(hL:maxLen+dE e < L):D4 L e=some (Ih false e):=by
 simp only [Lv,D4,aN,aB,Aa.cp_eq,Pk h _ L hL,Option.bind_some]
end Go.Proofs.YtmimkinjcfekmaaGreat.Ev
