/-  Chapter 7, plainly: names. -/
import Derived.Test.YtogleahbpobaiaaGreatQA
import Derived.Test.YtogleahbpobaiaaGreatR0
namespace Go.Proofs.YtogleahbpobaiaaGreat.Ev
open Go An
set_option maxRecDepth 100000
set_option linter.unusedVariables false
set_option linter.unusedSimpArgs false
set_option linter.unnecessarySimpa false
def Ao0(z:Int):Bool:=decide (97≤z) && decide (z≤122)
def okZ(z:Int):Bool:=Ao0 z || z == 95 || (decide (48≤z) && decide (z≤57))
def Aom(a:ByteArray)(i:Nat):Int:=Eb a[i]?
def Sa(a:ByteArray):Nat→Nat→Bool
 |_,0=>true
 |i,m+1=>okZ (Aom a i) && Sa a (i+1) m
def kws:List ByteArray:= [(⟨#[97,100,100]⟩:ByteArray),(⟨#[97,102,116,101,114]⟩:ByteArray),(⟨#[97,110,100]⟩:ByteArray),(⟨#[97,116]⟩:ByteArray),(⟨#[98,101,108,116]⟩:ByteArray),(⟨#[98,111,111,108]⟩:ByteArray),(⟨#[99,111,110,115,101,114,118,101]⟩:ByteArray),(⟨#[99,111,110,115,116]⟩:ByteArray),(⟨#[99,111,117,110,116]⟩:ByteArray),(⟨#[99,121,99,108,101]⟩:ByteArray),(⟨#[100,111,119,110]⟩:ByteArray),(⟨#[100,114,97,119]⟩:ByteArray),(⟨#[100,117,114]⟩:ByteArray),(⟨#[101,108,115,101]⟩:ByteArray),(⟨#[101,110,100]⟩:ByteArray),(⟨#[101,118,101,114,121]⟩:ByteArray),(⟨#[102,97,108,115,101]⟩:ByteArray),(⟨#[102,97,117,108,116]⟩:ByteArray),(⟨#[102,105,102,111]⟩:ByteArray),(⟨#[102,114,101,101]⟩:ByteArray),(⟨#[102,114,111,109]⟩:ByteArray),(⟨#[103,101,111,109]⟩:ByteArray),(⟨#[103,101,116]⟩:ByteArray),(⟨#[104,111,108,100]⟩:ByteArray),(⟨#[105,102]⟩:ByteArray),(⟨#[105,110,116]⟩:ByteArray),(⟨#[105,110,116,111]⟩:ByteArray),(⟨#[108,101,97,115,116]⟩:ByteArray),(⟨#[108,101,118,101,108]⟩:ByteArray),(⟨#[108,105,102,111]⟩:ByteArray),(⟨#[108,105,110,107]⟩:ByteArray),(⟨#[108,111,99,97,108]⟩:ByteArray),(⟨#[109,97,120]⟩:ByteArray),(⟨#[109,105,110]⟩:ByteArray),(⟨#[109,111,100,101,108]⟩:ByteArray),(⟨#[110,111,116]⟩:ByteArray),(⟨#[110,111,119]⟩:ByteArray),(⟨#[111,98,115,101,114,118,101]⟩:ByteArray),(⟨#[111,114]⟩:ByteArray),(⟨#[112,97,114,97,109]⟩:ByteArray),(⟨#[112,114,101,101,109,112,116]⟩:ByteArray),(⟨#[112,114,105,111]⟩:ByteArray),(⟨#[112,117,116]⟩:ByteArray),(⟨#[113,117,101,117,101]⟩:ByteArray),(⟨#[114,101,108,101,97,115,101]⟩:ByteArray),(⟨#[114,101,115,111,117,114,99,101]⟩:ByteArray),(⟨#[114,105,100,101]⟩:ByteArray),(⟨#[114,111,117,116,105,110,101]⟩:ByteArray),(⟨#[115,101,105,122,101]⟩:ByteArray),(⟨#[115,101,110,100]⟩:ByteArray),(⟨#[115,101,116]⟩:ByteArray),(⟨#[115,104,105,102,116]⟩:ByteArray),(⟨#[115,105,103,110,97,108]⟩:ByteArray),(⟨#[115,105,116,101]⟩:ByteArray),(⟨#[115,105,122,101]⟩:ByteArray),(⟨#[115,112,97,119,110]⟩:ByteArray),(⟨#[115,116,97,114,116]⟩:ByteArray),(⟨#[115,116,111,112]⟩:ByteArray),(⟨#[115,116,111,114,101]⟩:ByteArray),(⟨#[115,116,114,101,97,109]⟩:ByteArray),(⟨#[115,117,109]⟩:ByteArray),(⟨#[116,97,98,108,101]⟩:ByteArray),(⟨#[116,97,108,108,121]⟩:ByteArray),(⟨#[116,105,99,107,115]⟩:ByteArray),(⟨#[116,105,109,101]⟩:ByteArray),(⟨#[116,114,117,101]⟩:ByteArray),(⟨#[117,110,105,102,111,114,109]⟩:ByteArray),(⟨#[117,110,116,105,108]⟩:ByteArray),(⟨#[117,112]⟩:ByteArray),(⟨#[118,97,114]⟩:ByteArray),(⟨#[119,97,105,116]⟩:ByteArray),(⟨#[119,97,105,116,105,110,103]⟩:ByteArray),(⟨#[119,104,105,108,101]⟩:ByteArray)]
def Ahi(s:ByteArray):Bool:=kws.any fun w=>decide (s=w)
def Aks(s:ByteArray):Bool:=decide (1≤s.size) && decide (s.size≤24) && Ao0 (Aom s 0) && !Ahi s && Sa s 0 s.size
def Qg(s:ByteArray):Int:=bif Aks s then 0 else 3
theorem Agq(L:Nat)(z:Int):Vg L z=some (Ao0 z):=by
 simp only [Ah8,Vg,aN,aB,Ao0,Di]
theorem B1a{c b:Bool}{X:Option Bool}(h:X=some b):(bif c then (bif c then some true else some false) else X)=some (c || b):=by cases c<;>simp [h]
theorem B50{c b:Bool}{X:Option Bool}(h:X=some b):(bif c then some true else X)=some (c || b):=by cases c<;>simp [h]
set_option maxRecDepth 10000 in
theorem Ax2(L:Nat)(s:ByteArray):Y4 L s=some (Ahi s):=by
 simp only [Af6,Y4,aN,aB,Em,Ahi,kws,List.any_cons,List.any_nil]
 repeat (first|exact B1a rfl|refine B1a ?_|refine B50 ?_)
 rfl
theorem Cfq(L:Nat)(a:ByteArray)(hs:a.size≤maxLen):∀(m i n:Nat) (v:Int),i+m=a.size→m < n→
  ∃j,Ke L a n v i=some (bif Sa a i m then (1,(v,j)) else (0,(3,j))):=by
 intro m
 induction m with
 |zero=>
  intro i n v hi hn
  obtain ⟨n,rfl⟩:∃k,n=k+1:=⟨n - 1,by omega⟩
  exact ⟨i,by simp only [Ke,R8,aN,aB,Sa,Eo (show a.size≤i by omega),cond_true,cond_false]⟩
 |succ m ih=>
  intro i n v hi hn
  obtain ⟨n,rfl⟩:∃k,n=k+1:=⟨n - 1,by omega⟩
  have hlt:i < a.size:=by omega
  obtain ⟨j,hj⟩:=ih (i+1) n v (by omega) (by omega)
  have hb:=Bw5 hlt
  cases hc:okZ (Aom a i) with
  |true=>
   refine ⟨j,?_⟩
   have e:Sa a i (m+1)=Sa a (i+1) m:=by simp only [Sa,hc,Bool.true_and]
   simp only [Ke,R8,aN,aB,Ed hlt,nn,Ix,if_true,hb,cond_true,Agq,Option.bind_some,Bb hlt hs,hj,e,Di,Kq]
   rw [show ((!Ao0 (Eb a[i]?) && (decide (Eb a[i]? < 48) || decide (Eb a[i]? > 57))) && Eb a[i]? != 95)=false from ?_]
   ·rfl
   ·revert hc;unfold okZ Aom
    generalize Eb a[i]? =z
    cases Ao0 z<;>simp<;>omega
  |false=>
   refine ⟨i,?_⟩
   have e:Sa a i (m+1)=false:=by simp only [Sa,hc,Bool.false_and]
   simp only [Ke,R8,aN,aB,Ed hlt,nn,Ix,if_true,hb,cond_true,Agq,Option.bind_some,Bb hlt hs,hj,e,Di,Kq]
   rw [show ((!Ao0 (Eb a[i]?) && (decide (Eb a[i]? < 48) || decide (Eb a[i]? > 57))) && Eb a[i]? != 95)=true from ?_]
   ·rfl
   ·revert hc;unfold okZ Aom
    generalize Eb a[i]? =z
    cases Ao0 z<;>simp<;>omega
theorem Vq(L:Nat)(s:ByteArray)(hs:okS s)(hL:s.size < L):De L s=some (Qg s):=by
 obtain ⟨j,hj⟩:=Cfq L s hs s.size 0 L 0 (by omega) hL
 have e0:decide ((s.size:Int) > 24)= !decide (s.size≤24):=by
  by_cases h:s.size≤24
  ·rw [decide_eq_false (by omega),decide_eq_true h];rfl
  ·rw [decide_eq_true (by omega),decide_eq_false h];rfl
 simp only [Asi,Ya,Su,De,Ya,Su,aN,aB,Em,A18,Agq,Ax2,Option.bind_some,Du,Kq,e0]
 by_cases h0:s.size=0
 ·have:Aks s=false:=by unfold Aks;rw [decide_eq_false (show¬1≤s.size by omega)];rfl
  simp [h0,Qg,this]
 ·have hb:=Bw5 (show 0 < s.size by omega)
  have e1:Aks s=(decide (s.size≤24) && Ao0 (Aom s 0) && !Ahi s && Sa s 0 s.size):=by unfold Aks;rw [decide_eq_true (show 1≤s.size by omega)];rfl
  simp only [Int.ofNat_zero,Int.natCast_zero] at hj
  simp only [h0,decide_false,Bool.false_or,Int.le_refl,Nat.le_refl,if_true,Int.toNat_zero,hb,cond_true,hj,Option.bind_some,Qg,e1,Aom]
  cases decide (s.size≤24)<;>cases Ao0 (Eb s[0]?)<;>cases Ahi s<;>cases Sa s 0 s.size<;>rfl
end Go.Proofs.YtogleahbpobaiaaGreat.Ev
namespace Go.Proofs.YtogleahbpobaiaaGreat.Ev
open Go An
set_option maxRecDepth 100000
set_option linter.unusedVariables false
set_option linter.unusedSimpArgs false
set_option linter.unnecessarySimpa false
mutual
def dE:Ab→Nat
 | .mk _ _ _ k=>dEs k+1
def dEs:List Ab→Nat
 | []=>0
 |x::k=>max (dE x) (dEs k)
end
theorem Ajt{x:Ab}{k:List Ab}(h:x∈k):dE x≤dEs k:=by
 induction k with
 |nil=>cases h
 |cons a k ih=>
  rw [dEs]
  rcases List.mem_cons.1 h with rfl|h
  ·omega
  ·have:=ih h;omega
mutual
def Ago:Ab→Int
 | .mk _ _ _ k=>Axy k 1
def Axy:List Ab→Int→Int
 | [],n=>n
 |x::k,n=>Axy k (Da (n+Ago x))
end
mutual
def f6:Ab→Int
 | .mk _ _ _ k=>Da (Awx k 0+1)
def Awx:List Ab→Int→Int
 | [],n=>n
 |x::k,n=>Awx k (if f6 x > n then f6 x else n)
end
def Ach(op:Int):Int:=
 if op=1∨op=2∨op=3∨op=4 then 0 else if 5≤op∧op≤8 then 1 else if 9≤op∧op≤21 then 2 else if 22≤op∧op≤26 then 0 else -1
def Av0(op:Int):Bool:=decide (22≤op) && decide (op≤24)
def inZ(n:Int):Bool:=decide (-1000000000000≤n) && decide (n≤1000000000000)
def Anz(c:Bool)(op:Int):Bool:=if op=3 then !c else if op=25∨op=26 then c else decide (0≤Ach op)
def Aj4(c:Bool)(op:Int):Bool:=op == 3 || (Av0 op && !c)
def A30(c:Bool)(op:Int):Option Int:=if op=2 then some 1 else if op=25 then some 15 else if op=26 then some 31 else if Av0 op && c then some 63 else none
def Arr(c:Bool)(e:Ab):Bool:= !Anz c e.Op || decide ((e.Kids.length:Int)≠Ach e.Op) || (!decide (e.Name=⟨#[]⟩) && !Aj4 c e.Op)
def Avy(c:Bool)(e:Ab):Int:=
 if Arr c e=true then 1
 else if e.Op=1 then (if inZ e.N then 0 else 2)
 else match A30 c e.Op with
  |none=>if e.N≠0 then 1 else if Aj4 c e.Op then Qg e.Name else 0
  |some hi=>if e.N < 0∨hi < e.N then 2 else if Aj4 c e.Op then Qg e.Name else 0
mutual
def Alm(c:Bool):Ab→Int
 | .mk op nm n k=>if Avy c (.mk op nm n k)≠0 then Avy c (.mk op nm n k) else Ap9 c k
def Ap9(c:Bool):List Ab→Int
 | []=>0
 |x::k=>if Alm c x≠0 then Alm c x else Ap9 c k
end
def E6(c:Bool)(e:Ab):Int:=if Ago e > 60 then 6 else if f6 e > 12 then 11 else Alm c e
theorem A1y(op:Int):op=1∨op=2∨op=3∨op=4∨op=5∨op=6∨op=7∨op=8∨op=9∨op=10∨op=11∨op=12∨op=13∨op=14∨op=15∨op=16∨op=17∨op=18∨op=19∨op=20∨op=21∨op=22∨op=23∨op=24∨op=25∨op=26∨op < 1∨26 < op:=by omega
theorem Av4(L:Nat)(op:Int):m3 L op=some (Ach op):=by
 simp only [Apz,m3,aN,aB,Ach,Di,Kq,Du]
 congr 1
 grind
theorem Aq3(L:Nat)(op:Int):Yq L op=some (Av0 op):=by
 simp only [Aki,Yq,aN,aB,Av0,Di]
theorem At1(L:Nat)(k:Bt)(op:Int):Uo L k op=some (Anz k.u_code op):=by
 simp only [u5,Uo,aN,aB,Anz,Av4,Option.bind_some,Du]
 congr 1
 grind
theorem At2(L:Nat)(k:Bt)(op:Int):Lu L k op=some (Aj4 k.u_code op):=by
 simp only [u6,Lu,aN,aB,Aj4,Aq3,Option.bind_some,Du,Kq,Di]
theorem Ax3(L:Nat)(n:Int):Ah3 L n=some (inZ n):=by
 simp only [A2q,Ah3,aN,aB,inZ,Di]
theorem Aq2(L:Nat)(k:Bt)(op:Int):Ms L k op=some (match A30 k.u_code op with|some hi=>(0,hi,true)|none=>(0,0,false)):=by
 simp only [Yk,Ms,aN,aB,A30,Aq3,Option.bind_some,Du,Di]
 congr 1
 grind
theorem Av5(L:Nat)(k:Bt)(e:Ab)(hn:okS e.Name)(hL:e.Name.size < L):Wk L k e=some (Avy k.u_code e):=by
 simp only [Acn,Wk,aN,aB,At1,Av4,At2,Ax3,Aq2,Option.bind_some,Vq L e.Name hn hL,Du,Em,Di,Kq,Avy,Arr]
 congr 1
 cases A30 k.u_code e.Op<;>grind
theorem A4j(Be5:Ab→Option Int)(L:Nat)(a0:Ab):∀(k:List Ab) (i:Nat) (v:Int),(∀x∈k,Be5 x=some (Ago x))→∃j,Ml Be5 L a0 k i v=some (0,(Axy k v,j)):=by
 intro k
 induction k with
 |nil=>intro i v _;exact ⟨_,rfl⟩
 |cons x k ih=>
  intro i v h
  obtain ⟨j,hj⟩:=ih (i+1) (Da (v+Ago x)) fun y hy=>h y (by simp [hy])
  exact ⟨j,by simp only [Ml,h x (by simp),Option.bind_some,hj,Axy]⟩
theorem A55{e:Ab}(h:Bv e):∀L,maxLen+dE e < L→M9 L e=some (Ago e):=by
 induction h with
 |mk a0 a1 a2 a3 h0 h1 h2 h3 h4 ih=>
  intro L hL
  obtain ⟨L,rfl⟩:∃k,L=k+1:=⟨L - 1,by omega⟩
  rw [dE] at hL
  have hr:∀x∈a3,M9 L x=some (Ago x):=fun x hx=>ih x hx L (by have:=Ajt hx;omega)
  obtain ⟨j,hj⟩:=A4j (M9 L) L (.mk a0 a1 a2 a3) a3 0 1 hr
  simp only [Aum,Zv,Tx,Amv,M9,Zv,Tx,aN,aB,Ab.cp_eq,Ab.Op,Ab.Name,Ab.N,Ab.Kids,Ab.eta,Axe _ _ (.mk a0 a1 a2 a3) _ h3 (show a3.length < L by omega),hj,Option.bind_some,H2,Ago]
theorem A4i(Be6:Ab→Option Int)(L:Nat)(a0:Ab):∀(k:List Ab) (i:Nat) (v:Int),(∀x∈k,Be6 x=some (f6 x))→∃j,Mk Be6 L a0 k i v=some (0,(Awx k v,j)):=by
 intro k
 induction k with
 |nil=>intro i v _;exact ⟨_,rfl⟩
 |cons x k ih=>
  intro i v h
  obtain ⟨j,hj⟩:=ih (i+1) (if f6 x > v then f6 x else v) fun y hy=>h y (by simp [hy])
  exact ⟨j,by simp only [Mk,h x (by simp),Option.bind_some,hj,Awx]⟩
theorem A54{e:Ab}(h:Bv e):∀L,maxLen+dE e < L→M8 L e=some (f6 e):=by
 induction h with
 |mk a0 a1 a2 a3 h0 h1 h2 h3 h4 ih=>
  intro L hL
  obtain ⟨L,rfl⟩:∃k,L=k+1:=⟨L - 1,by omega⟩
  rw [dE] at hL
  have hr:∀x∈a3,M8 L x=some (f6 x):=fun x hx=>ih x hx L (by have:=Ajt hx;omega)
  obtain ⟨j,hj⟩:=A4i (M8 L) L (.mk a0 a1 a2 a3) a3 0 0 hr
  simp only [Aul,Zu,Tw,Amu,M8,Zu,Tw,aN,aB,Ab.cp_eq,Ab.Op,Ab.Name,Ab.N,Ab.Kids,Ab.eta,Axd _ _ (.mk a0 a1 a2 a3) _ h3 (show a3.length < L by omega),hj,Option.bind_some,H2,f6]
theorem Ar9(Be7:Bt→Ab→Option Int)(L:Nat)(a1:Ab)(c:Bt):∀(k:List Ab) (i:Nat) (v:Int),(∀x∈k,Be7 c x=some (Alm c.u_code x))→∃j,E7 Be7 L a1 c k i v=some (bif Ap9 c.u_code k != 0 then (0,(Ap9 c.u_code k,j)) else (1,(v,j))):=by
 intro k
 induction k with
 |nil=>intro i v _;exact ⟨i,rfl⟩
 |cons x k ih=>
  intro i v h
  obtain ⟨j,hj⟩:=ih (i+1) v fun y hy=>h y (by simp [hy])
  by_cases hx:Alm c.u_code x=0
  ·exact ⟨j,by simp [E7,h x (by simp),hj,Ap9,hx]⟩
  ·exact ⟨(i:Int),by simp [E7,h x (by simp),hj,Ap9,hx,Um hx]⟩
theorem At3{e:Ab}(h:Bv e)(c:Bt):∀L,maxLen+dE e < L→Ga L c e=some (Alm c.u_code e):=by
 induction h with
 |mk a0 a1 a2 a3 h0 h1 h2 h3 h4 ih=>
  intro L hL
  obtain ⟨L,rfl⟩:∃k,L=k+1:=⟨L - 1,by omega⟩
  rw [dE] at hL
  have hr:∀x∈a3,Ga L c x=some (Alm c.u_code x):=fun x hx=>ih x hx L (by have:=Ajt hx;omega)
  obtain ⟨j,hj⟩:=Ar9 (Ga L) L (.mk a0 a1 a2 a3) c a3 0 0 hr
  have h1':a1.size≤maxLen:=h1
  simp only [Ajq,Qs,Lr,n7,Ga,Qs,Lr,aN,aB,Ab.cp_eq,Ab.Op,Ab.Name,Ab.N,Ab.Kids,Ab.eta,Av5 L c (.mk a0 a1 a2 a3) h1 (show a1.size < L by omega),Ao1 _ _ (.mk a0 a1 a2 a3) _ _ h3 (show a3.length < L by omega),hj,Option.bind_some,Alm]
  by_cases h:Avy c.u_code (.mk a0 a1 a2 a3)=0
  ·by_cases h':Ap9 c.u_code a3=0
   ·simp [h,h',H2,S0]
   ·simp [h,h',H2,S0,Um h']
  ·simp [h,Um h]
theorem At0{e:Ab}(h:Bv e)(c:Bt)(L:Nat)(hL:maxLen+dE e < L):Un L c e=some (E6 c.u_code e):=by
 simp only [u4,Un,aN,aB,Ab.cp_eq,A55 h L hL,A54 h L hL,At3 h c L hL,Option.bind_some,Du,E6]
 congr 1
 grind
theorem Ae3{e:Ab}(h:Bv e)(L:Nat)(hL:maxLen+dE e < L):P7 L e=some (E6 false e):=by
 simp only [Anc,P7,aN,aB,Ab.cp_eq,At0 h _ L hL,Option.bind_some]
end Go.Proofs.YtogleahbpobaiaaGreat.Ev
namespace Go.Proofs.YtogleahbpobaiaaGreat.Ev
open Go An
set_option maxRecDepth 100000
set_option linter.unusedVariables false
set_option linter.unusedSimpArgs false
set_option linter.unnecessarySimpa false
def A5v(l:List ByteArray)(s:ByteArray):Int:=Rq (l.findIdx? fun x=>decide (x=s))
theorem Anx{α :Type}(l:List α)(p: α→Bool):decide (Rq (l.findIdx? p)≥0)=l.any p:=by
 have h:=List.findIdx?_isSome (xs:=l) (p:=p)
 rw [←h]
 cases l.findIdx? p with
 |none=>rfl
 |some i=>simp [Rq]
theorem Akt(L:Nat)(z:Int):n9 L z=some (Ao0 z):=by
 simp only [Am5,n9,aN,aB,Ao0,Di]
theorem A0w(L:Nat):Ahx L=some kws:=rfl
theorem Bbd(L:Nat)(a0:List ByteArray)(a1:ByteArray):∀(k:List ByteArray) (i:Nat) (v:Int),Rf L a0 a1 k i v=some (match k.findIdx? (fun x=>x.toList == a1.toList) with|some j=>(0,(((i+j:Nat):Int),((i+j:Nat):Int)))|none=>(1,(v,((i+k.length:Nat):Int)))):=by
 intro k
 induction k with
 |nil=>intro i v;rfl
 |cons x k ih=>
  intro i v
  rw [Rf,ih,List.findIdx?_cons]
  cases hc:(fun x=>x.toList == a1.toList) x with
  |true=>simp only [hc,cond_true,if_true];rfl
  |false=>
   simp only [hc,cond_false,if_false,Bool.false_eq_true]
   cases k.findIdx? (fun x=>x.toList == a1.toList) with
   |some j=>simp [Nat.add_assoc,Nat.add_comm 1]
   |none=>simp [Nat.add_assoc,Nat.add_comm 1]
theorem Afx(L:Nat)(l:List ByteArray)(s:ByteArray)(hl:l.length≤maxLen)(hL:l.length < L):L2 L l s=some (A5v l s):=by
 simp only [A2g,Ae7,Yu,L2,Ae7,Yu,aN,aB,A3p _ _ _ _ hl hL,Bbd,Em,Option.bind_some,A5v]
 cases l.findIdx? fun x=>decide (x=s) with
 |none=>rfl
 |some i=>simp [Rq,H2]
theorem A34(L:Nat)(s:ByteArray)(hL:80 < L):Aei L s=some (Ahi s):=by
 simp only [Akf,Aei,aN,aB,A0w,Afx L kws s (by decide) (show kws.length < L from Nat.lt_trans (by decide) hL),Option.bind_some,A5v,Anx]
 simp only [Ahi,eq_comm]
theorem Chr(L:Nat)(a:ByteArray)(hs:a.size≤maxLen):∀(m i n:Nat) (v:Int),i+m=a.size→m < n→
  ∃j,N5 L a n v i=some (bif Sa a i m then (1,(v,j)) else (0,(3,j))):=by
 intro m
 induction m with
 |zero=>
  intro i n v hi hn
  obtain ⟨n,rfl⟩:∃k,n=k+1:=⟨n - 1,by omega⟩
  exact ⟨i,by simp only [N5,Vm,aN,aB,Sa,Eo (show a.size≤i by omega),cond_true,cond_false]⟩
 |succ m ih=>
  intro i n v hi hn
  obtain ⟨n,rfl⟩:∃k,n=k+1:=⟨n - 1,by omega⟩
  have hlt:i < a.size:=by omega
  obtain ⟨j,hj⟩:=ih (i+1) n v (by omega) (by omega)
  have hb:=Bw5 hlt
  cases hc:okZ (Aom a i) with
  |true=>
   refine ⟨j,?_⟩
   have e:Sa a i (m+1)=Sa a (i+1) m:=by simp only [Sa,hc,Bool.true_and]
   simp only [N5,Vm,aN,aB,Ed hlt,nn,Ix,if_true,hb,cond_true,Akt,Option.bind_some,Bb hlt hs,hj,e,Du,Di,Kq]
   rw [show ((!Ao0 (Eb a[i]?) && Eb a[i]? != 95) && (decide (Eb a[i]? < 48) || decide (Eb a[i]? > 57)))=false from ?_]
   ·rfl
   ·revert hc;unfold okZ Aom
    generalize Eb a[i]? =z
    cases Ao0 z<;>simp<;>omega
  |false=>
   refine ⟨i,?_⟩
   have e:Sa a i (m+1)=false:=by simp only [Sa,hc,Bool.false_and]
   simp only [N5,Vm,aN,aB,Ed hlt,nn,Ix,if_true,hb,cond_true,Akt,Option.bind_some,Bb hlt hs,hj,e,Du,Di,Kq]
   rw [show ((!Ao0 (Eb a[i]?) && Eb a[i]? != 95) && (decide (Eb a[i]? < 48) || decide (Eb a[i]? > 57)))=true from ?_]
   ·rfl
   ·revert hc;unfold okZ Aom
    generalize Eb a[i]? =z
    cases Ao0 z<;>simp<;>omega
theorem Aas(L:Nat)(s:ByteArray)(hs:okS s)(hL:s.size < L)(hL':80 < L):Py L s=some (Qg s):=by
 obtain ⟨j,hj⟩:=Chr L s hs s.size 0 L 0 (by omega) hL
 have e0:decide ((s.size:Int) > 24)= !decide (s.size≤24):=by
  by_cases h:s.size≤24
  ·rw [decide_eq_false (by omega),decide_eq_true h];rfl
  ·rw [decide_eq_true (by omega),decide_eq_false h];rfl
 have e2:decide ((s.size:Int) < 1)=decide (s.size=0):=decide_eq_decide.2 (by omega)
 simp only [Ayq,Abh,Vs,Py,Abh,Vs,aN,aB,Akt,A34 L s hL',Option.bind_some,Du,Kq,e0,e2]
 by_cases h0:s.size=0
 ·have:Aks s=false:=by unfold Aks;rw [decide_eq_false (show¬1≤s.size by omega)];rfl
  simp [h0,Qg,this]
 ·have hb:=Bw5 (show 0 < s.size by omega)
  have e1:Aks s=(decide (s.size≤24) && Ao0 (Aom s 0) && !Ahi s && Sa s 0 s.size):=by unfold Aks;rw [decide_eq_true (show 1≤s.size by omega)];rfl
  simp only [Int.ofNat_zero,Int.natCast_zero] at hj
  simp only [h0,decide_false,Bool.false_or,Int.le_refl,Nat.le_refl,if_true,Int.toNat_zero,hb,cond_true,hj,Option.bind_some,Qg,e1,Aom]
  cases decide (s.size≤24)<;>cases Ao0 (Eb s[0]?)<;>cases Ahi s<;>cases Sa s 0 s.size<;>rfl
theorem A6i(Be5:Ab→Option Int)(L:Nat)(a0:Ab):∀(k:List Ab) (i:Nat) (v:Int),(∀x∈k,Be5 x=some (Ago x))→∃j,Oq Be5 L a0 k i v=some (0,(Axy k v,j)):=by
 intro k
 induction k with
 |nil=>intro i v _;exact ⟨_,rfl⟩
 |cons x k ih=>
  intro i v h
  obtain ⟨j,hj⟩:=ih (i+1) (Da (v+Ago x)) fun y hy=>h y (by simp [hy])
  exact ⟨j,by simp only [Oq,h x (by simp),Option.bind_some,hj,Axy]⟩
theorem Bav{e:Ab}(h:Bv e):∀L,maxLen+dE e < L→P1 L e=some (Ago e):=by
 induction h with
 |mk a0 a1 a2 a3 h0 h1 h2 h3 h4 ih=>
  intro L hL
  obtain ⟨L,rfl⟩:∃k,L=k+1:=⟨L - 1,by omega⟩
  rw [dE] at hL
  have hr:∀x∈a3,P1 L x=some (Ago x):=fun x hx=>ih x hx L (by have:=Ajt hx;omega)
  obtain ⟨j,hj⟩:=A6i (P1 L) L (.mk a0 a1 a2 a3) a3 0 1 hr
  simp only [Ays,Abj,Vu,Ao7,P1,Abj,Vu,aN,aB,Ab.cp_eq,Ab.Op,Ab.Name,Ab.N,Ab.Kids,Ab.eta,A0g _ _ (.mk a0 a1 a2 a3) _ h3 (show a3.length < L by omega),hj,Option.bind_some,H2,Ago]
theorem A6h(Be6:Ab→Option Int)(L:Nat)(a0:Ab):∀(k:List Ab) (i:Nat) (v:Int),(∀x∈k,Be6 x=some (f6 x))→∃j,Oo Be6 L a0 k i v=some (0,(Awx k v,j)):=by
 intro k
 induction k with
 |nil=>intro i v _;exact ⟨_,rfl⟩
 |cons x k ih=>
  intro i v h
  obtain ⟨j,hj⟩:=ih (i+1) (if f6 x > v then f6 x else v) fun y hy=>h y (by simp [hy])
  exact ⟨j,by simp only [Oo,h x (by simp),Option.bind_some,hj,Awx]⟩
theorem Bau{e:Ab}(h:Bv e):∀L,maxLen+dE e < L→P0 L e=some (f6 e):=by
 induction h with
 |mk a0 a1 a2 a3 h0 h1 h2 h3 h4 ih=>
  intro L hL
  obtain ⟨L,rfl⟩:∃k,L=k+1:=⟨L - 1,by omega⟩
  rw [dE] at hL
  have hr:∀x∈a3,P0 L x=some (f6 x):=fun x hx=>ih x hx L (by have:=Ajt hx;omega)
  obtain ⟨j,hj⟩:=A6h (P0 L) L (.mk a0 a1 a2 a3) a3 0 0 hr
  simp only [Ayr,Abi,Vt,Ao6,P0,Abi,Vt,aN,aB,Ab.cp_eq,Ab.Op,Ab.Name,Ab.N,Ab.Kids,Ab.eta,A0f _ _ (.mk a0 a1 a2 a3) _ h3 (show a3.length < L by omega),hj,Option.bind_some,H2,f6]
theorem Bat(L:Nat)(op:Int):Ajf L op=some (Ach op):=by
 simp only [Apk,Ajf,aN,aB,Ach,Di,Kq,Du]
 congr 1
 grind
theorem A51(L:Nat)(op:Int):o0 L op=some (Av0 op):=by
 simp only [Am6,o0,aN,aB,Av0,Di]
theorem Axz(L:Nat)(n:Int):Alc L n=some (inZ n):=by
 simp only [A2f,Alc,aN,aB,inZ,Di]
theorem Bej(L:Nat)(op:Int):S5 L op=some (if op=25 then 15 else if op=26 then 31 else 63):=by
 simp only [As4,S5,aN,aB,Du]
 congr 1
 grind
theorem Bbe(Be7:Ab→Bool→Option Int)(L:Nat)(a1:Ab)(c:Bool):∀(k:List Ab) (i:Nat) (v:Int),(∀x∈k,Be7 x c=some (Alm c x))→∃j,Nr Be7 L c a1 k i v=some (bif Ap9 c k != 0 then (0,(Ap9 c k,j)) else (1,(v,j))):=by
 intro k
 induction k with
 |nil=>intro i v _;exact ⟨i,rfl⟩
 |cons x k ih=>
  intro i v h
  obtain ⟨j,hj⟩:=ih (i+1) v fun y hy=>h y (by simp [hy])
  by_cases hx:Alm c x=0
  ·exact ⟨j,by simp [Nr,h x (by simp),hj,Ap9,hx]⟩
  ·exact ⟨(i:Int),by simp [Nr,h x (by simp),hj,Ap9,hx,Um hx]⟩
theorem Bek{e:Ab}(h:Bv e)(c:Bool):∀L,maxLen+dE e < L→Qt L e c=some (Alm c e):=by
 induction h with
 |mk a0 a1 a2 a3 h0 h1 h2 h3 h4 ih=>
  intro L hL
  obtain ⟨L,rfl⟩:∃k,L=k+1:=⟨L - 1,by omega⟩
  rw [dE] at hL
  have hr:∀x∈a3,Qt L x c=some (Alm c x):=fun x hx=>ih x hx L (by have:=Ajt hx;omega)
  obtain ⟨j,hj⟩:=Bbe (Qt L) L (.mk a0 a1 a2 a3) c a3 0 0 hr
  have h1':a1.size≤maxLen:=h1
  have hm:(80:Nat) < maxLen:=by decide
  have hloop:(Option.bind (No (Qt L) L c (.mk a0 a1 a2 a3) L 0 0) fun o=>Arf o.1 [some o.2.1,some 0])=some (Ap9 c a3):=by
   rw [A3q _ _ _ (.mk a0 a1 a2 a3) _ h3 (show a3.length < L by omega)]
   simp only [Ab.cp_eq,Ab.Op,Ab.Name,Ab.N,Ab.Kids,Ab.eta,hj,Option.bind_some]
   by_cases h':Ap9 c a3=0
   ·simp [h',S0]
   ·simp [H2,Um h']
  simp only [Ak5,Ae8,Yv,sx_R09_node_3,Ak4,sx_R09_node_2,Ak3,sx_R09_node_1,Ak2,sx_R09_node_0,A2h,Asz,Qt,Ae8,Yv,aN,aB,Ab.cp_eq,Ab.Op,Ab.Name,Ab.N,Ab.Kids,Ab.eta,hloop,Bat,A51,Axz,Bej,Aas L a1 h1 (show a1.size < L by omega) (show 80 < L by omega),Em,Di,Kq,Du,Option.bind_some,Alm]
  congr 1
  generalize Ap9 c a3=rest
  unfold Avy Arr A30
  simp only [Ab.cp_eq,Ab.Op,Ab.Name,Ab.N,Ab.Kids,Ab.eta]
  clear hj hloop hr ih h4 h0 h1 h2 h3 h1' hL hm
  have hop:=A1y a0
  rcases hop with rfl|rfl|rfl|rfl|rfl|rfl|rfl|rfl|rfl|rfl|rfl|rfl|rfl|rfl|rfl|rfl|rfl|rfl|rfl|rfl|rfl|rfl|rfl|rfl|rfl|rfl|hop|hop<;>cases c
  all_goals first|(simp [Aj4,Anz,Av0,Ach];done)|(simp [Aj4,Anz,Av0,Ach];grind)|grind [Aj4,Anz,Av0,Ach]
theorem Baw{e:Ab}(h:Bv e)(c:Bool)(L:Nat)(hL:maxLen+dE e < L):Ajg L e c=some (E6 c e):=by
 simp only [Apm,Ajg,aN,aB,Ab.cp_eq,Bav h L hL,Bau h L hL,Bek h c L hL,Option.bind_some,Du,E6]
 congr 1
 grind
theorem Ahm{e:Ab}(h:Bv e)(L:Nat)(hL:maxLen+dE e < L):Pz L e=some (E6 false e):=by
 simp only [Apl,Pz,aN,aB,Ab.cp_eq,Baw h _ L hL,Option.bind_some]
end Go.Proofs.YtogleahbpobaiaaGreat.Ev
