/-  Numerals: the program's and the document's. -/
import Derived.Test.YthjhkpgonleelaaGreatDoorDQA
import Derived.Test.YthjhkpgonleelaaGreatDoorDRA
import Derived.Test.YthjhkpgonleelaaGreatDoorDCA
set_option maxRecDepth 100000
set_option linter.unusedVariables false
set_option linter.unusedSimpArgs false
set_option linter.unnecessarySimpa false
namespace Go.Proofs.YthjhkpgonleelaaGreatDoor.Ev
open Go An
def bs(l:List UInt8):Yb:=⟨l.toArray⟩
theorem Bn7{α :Type} [Inhabited α](l:List α)(i:Nat)(h:i<l.length):l.drop i=l.getD i default::l.drop (i+1):=by
 rw[List.drop_eq_getElem_cons h,Kj l i h]
theorem neI{a b:Int}(h:¬a=b):(a != b)=true:=bne_iff_ne.2 h
theorem A0d(L:Nat)(a0 a1:List Int):∀(k:List Int) (i:Nat) (v:Bool),i+k.length=a1.length->∃j,Io L a0 a1 k i v=some (bif decide (k=a1.drop i) then(1,(v,j)) else(0,(false,j))):=by
 intro k
 induction k with
 |nil=>
  intro i v h;refine⟨i,?_⟩;have:a1.drop i= []:=List.drop_eq_nil_of_le (by simp at h;omega);rw[this];rfl
 |cons x k ih=>
  intro i v h;rw[List.length_cons]at h;obtain⟨j,hj⟩:=ih (i+1) v (by omega);have hi:i<a1.length:=by omega
  rw[Io,Bn7 a1 i hi,ifp (show(i:Int)<(a1.length:Int) by omega),hj,toN];generalize a1.getD i default=y;by_cases hx:x=y
  ·refine⟨j,?_⟩;subst hx;simp
  ·exact⟨i,by simp[hx,neI hx]⟩
theorem Yw(L:Nat)(a b:List Int)(ha:a.length<=maxLen)(hL:a.length<L):Mw L a b=some (decide (a=b)):=by
 simp only[Arl,U3,Ut,Mw,U3,Ut,aN,aB,Avb L a b L ha (by omega)];by_cases h:(a.length:Int)=(b.length:Int)
 ·obtain⟨j,hj⟩:=A0d L a b a 0 false (by omega);rw[hj,List.drop_zero];by_cases hab:a=b
  ·simp[hab,S5]
  ·simp[hab,h,H4]
 ·have:a≠b:=by rintro rfl;exact h rfl
  simp[this,neI h]
def Bkv(a b:Ao):Bool:=a.Time == b.Time && a.bT == b.bT && decide (a.dZ=b.dZ) && decide (a.Held=b.Held) && decide (a.dB=b.dB) && decide (a.Items=b.Items)
theorem A91(a b:Ao):Bkv a b=true↔a=b:=by
 cases a;cases b
 simp only[Bkv,Ao.mk.injEq,Bool.and_eq_true,beq_iff_eq,decide_eq_true_eq,and_assoc]
def A0f(f:Ao)(n:Nat):Prop:=f.dZ.length<=n/\f.Held.length<=n/\f.dB.length<=n/\f.Items.length<=n
theorem Bsw(a b:Bool):(bif a then b else false)=(a && b):=by cases a<;>rfl
theorem A1s(L:Nat)(a b:Ao)(h:A0f a maxLen)(hL:A0f a (L-1))(h0:0<L):I5 L a b=some (Bkv a b):=by
 obtain⟨h1,h2,h3,h4⟩:=h;obtain⟨l1,l2,l3,l4⟩:=hL;simp only[Aus,I5,aN,aB,Yw L a.dZ b.dZ h1 (by omega),Yw L a.Held b.Held h2 (by omega),Yw L a.dB b.dB h3 (by omega),Yw L a.Items b.Items h4 (by omega),Co,Bkv,Bsw];generalize (a.Time == b.Time && a.bT == b.bT)=c0;generalize decide (a.dZ=b.dZ)=c1;generalize decide (a.Held=b.Held)=c2;generalize decide (a.dB=b.dB)=c3;generalize decide (a.Items=b.Items)=c4;cases c0<;>cases c1<;>cases c2<;>cases c3<;>cases c4<;>rfl
def Mz(op:Int):Bool:=decide (1<=op) && decide (op<=19)
def P2(op:Int):V7:=gl0.getD (Int.toNat op) default
def Ao7(i:Ar):Bool:=
 ((P2 i.Op).gB != 0 || i.A == 0) && ((P2 i.Op).gF != 0 || i.B == 0) && ((P2 i.Op).u_c || i.C == 0) && ((P2 i.Op).fI || Agi i.E) && ((P2 i.Op).fP || Agi i.F)
  && ((P2 i.Op).dF || decide (i.aP.length=0)) && ((P2 i.Op).bR || Ahl i.bF U9) && ((P2 i.Op).dV || !i.bY)
def D4(p:Ac)(s:Int):A9:=p.aA.getD (Int.toNat s) default
def Aqc(p:Ac)(s:Int)(c:Aq)(w to:Int):Int:=
 if w=1 then c.dD else if w=2 then((D4 p s).aL.bX.length:Int)else if w=3 then((D4 p s).aL.aZ.length:Int)else if w=4 then(c.aR.length:Int)
 else if w=5 then((D4 p s).aL.aG.length:Int)else if w=6 then((D4 p s).aL.aM.length:Int)else if w=7 then((D4 p s).aL.bL.length:Int)
 else if w=8 then((D4 p s).aL.bJ.length:Int)else if w=9 then(p.aA.length:Int)else if w=10 then((D4 p to).aD.length:Int)
 else if w=11 then((D4 p s).aL.bH.length:Int)else if w=12 then((D4 p s).aL.bP.length:Int)else if w=13 then((D4 p s).aL.bD.length:Int)else 1
def Zv(p:Ac)(s:Int)(c:Aq)(w n to:Int):Bool:=decide (0<=n) && decide (n<Aqc p s c w to)
def inP(p:Ac)(s:Int):Prop:=0<=s/\s<(p.aA.length:Int)
def Bp1(p:Ac)(s:Int)(c:Aq)(e:Ab):Bool:=
 if e.Op=25 then Zv p s c 1 e.N 0 else if e.Op=26 then Zv p s c 2 e.N 0 else if e.Op=22 then Zv p s c 5 e.N 0 else if e.Op=23 then Zv p s c 6 e.N 0
 else if e.Op=24 then decide (e.N<Bs (Aqc p s c 5 0+Aqc p s c 8 0))else true
mutual
def Aju(p:Ac)(s:Int)(c:Aq):Ab->Bool
 | .mk op nm n k=>Bp1 p s c (.mk op nm n k) && Ahn p s c k
def Ahn(p:Ac)(s:Int)(c:Aq):List Ab->Bool
 | []=>true
 |x::k=>Aju p s c x && Ahn p s c k
end
def A11(l:List Dt)(a b:Int):Option Int:=(l.find? λx=>x.aV == a && x.To == b).map (·.bU)
def Sq(i:Ar):List Ab:=(if(P2 i.Op).fI then[i.E] else[])++(if(P2 i.Op).fP then[i.F] else[])++(if(P2 i.Op).dF then i.aP else[])
def Amw(p:Ac)(s:Int)(c:Aq)(e:Ab):Int:=fE (D5 true e) (R6 (Aju p s c e) 2)
def Aym(p:Ac)(to:Int)(i:Ar):Int:=
 if Zv p 0 default 10 i.B to=false then 2 else R6 ((i.aP.length:Int) == ((D4 p to).aD.getD (Int.toNat i.B) default).aJ) 8
def Bl9(p:Ac)(s:Int)(c:Aq)(i:Ar):Int:=
 if(Zv p s c (P2 i.Op).gB i.A 0 || (P2 i.Op).gB == 0)=false then 2
 else if i.Op=14 then(if A11 p.aH s i.A=some i.C then Aym p i.A i else 16)
 else if i.Op=15 then Aym p s i
 else if(Zv p s c (P2 i.Op).gF i.B 0 || (P2 i.Op).gF == 0)=false then 2 else 0
def Ajd(p:Ac)(s:Int)(c:Aq)(i:Ar):Int:=
 if(Mz i.Op && Ao7 i)=false then 1
 else fE (Bl9 p s c i) (fE (Ri (Amw p s c) (Sq i)) (if(P2 i.Op).bR then Ap7 i.bF else 0))
def Ar4(p:Ac)(s:Int)(c:Aq):Int:=
 if decide (s<0) || decide (s>=(p.aA.length:Int))then 2
 else fE (Jt c.aF) (if c.aJ<0\/c.aJ>c.dD\/c.aJ>6\/c.dD>16 then 2 else if c.aR.length=0 then 7 else if 1000<c.aR.length then 6
  else fE (Ri (Ajd p s c) c.aR) (R6 (decide ((c.aR.getD (c.aR.length-1) default).Op=19) || decide ((c.aR.getD (c.aR.length-1) default).Op=4)) 8))
def Ao1(s:A9):Bool:=decide (s.aD.length=s.aL.aD.length) && (s.aD.zip s.aL.aD).all λx=>decide (x.1.aF=x.2.aF) && x.1.aJ == (x.2.aJ.length:Int) && decide (x.2.bE.length=0)
def B1e(p:Ac)(seen:List Dt)(a:Dt):Int:=
 if a.aV<0\/a.aV>=(p.aA.length:Int)\/a.To<0\/a.To>=(p.aA.length:Int)\/a.aV=a.To\/a.bU<1\/a.bU>1000000000 then 2
 else R6 (!seen.any λx=>x.aV == a.aV && x.To == a.To) 4
def Ap4(p:Ac):List Dt->List Dt->Int
 |_,[]=>0
 |seen,l::k=>fE (B1e p seen l) (Ap4 p (seen++ [l]) k)
def A4n(p:Ac):Int:=if 32<p.aH.length then 6 else Ap4 p [] p.aH
def Al8(p:Ac)(s:A9):Aj:=⟨p.aF,[],[s.aL],[]⟩
def Xw(tm:Aa->Bd->Int)(p:Ac):List Yb->List A9->Int
 |_,[]=>0
 |seen,s::k=>fE (Alu tm (Al8 p s)) (fE (R6 (!seen.any λx=>decide (x=s.aL.aF)) 4) (fE (R6 (Ao1 s) 8) (Xw tm p (seen++ [s.aL.aF]) k)))
def Ar5(p:Ac):Nat->List A9->Int
 |_,[]=>0
 |i,s::k=>fE (Ri (Ar4 p (i:Int)) s.aD) (Ar5 p (i+1) k)
def Acp(tm:Aa->Bd->Int)(p:Ac):Int:=
 fE (Jt p.aF) (if p.aA.length=0 then 7 else if 16<p.aA.length then 6 else fE (Xw tm p [] p.aA) (fE (A4n p) (Ar5 p 0 p.aA)))
theorem At7(L:Nat)(op:Int):m0 L op=some (Mz op):=by
 simp only[Aow,m0,aN,aB,Mz,Du,ge_iff_le]
theorem Ss{op:Int} :Mz op=true↔1<=op/\op<=19:=by simp[Mz]
theorem Bbe:gl0.length=20:=rfl
theorem Bca(L:Nat)(e:Ab)(hL:1<L):Afs L e=some (Agi e):=by
 simp only[Arr,Afs,aN,aB,Ab.cp_eq,Aly L e hL,Co]
structure InG (i:Ar):Prop where
 ok:Ahv i
 bk:Ow i<=1048576
theorem A7s(L:Nat)(i:Ar)(hk:Mz i.Op=true)(hd:okD i.bF)(hL:maxLen<L):j9 L i=some (Ao7 i):=by
 obtain⟨h1,h2⟩:=Ss.1 hk;have hl:(1:Nat)<L:=by unfold maxLen at hL;omega
 have e0:((i.aP.length:Int) == 0)=decide (i.aP.length=0):=by
  by_cases h:i.aP.length=0
  ·rw[h];rfl
  ·rw[decide_eq_false h];exact beq_eq_false_iff_ne.2 (by omega)
 simp only[Aov,j9,aN,aB,Ab.cp_eq,Bca L _ hl,Ah8 L i.bF U9 hd hL,show(⟨0,0,0,0,[],[]⟩:Bk)=U9 from rfl,Co,e0];rw[if_pos (show(0:Int)<=i.Op by omega),if_pos (show i.Op<((gl0.length:Nat):Int) by rw[Bbe];omega)];show _=some (Ao7 i)
 unfold Ao7;rw[show gl0.getD (Int.toNat i.Op) default=P2 i.Op from rfl];generalize ((P2 i.Op).gB != 0)=b1;generalize (i.A == 0)=b2;generalize ((P2 i.Op).gF != 0)=b3;generalize (i.B == 0)=b4;generalize ((P2 i.Op).u_c)=b5;generalize (i.C == 0)=b6;generalize ((P2 i.Op).fI)=b7;generalize Agi i.E=b8;generalize ((P2 i.Op).fP)=b9;generalize Agi i.F=b10;generalize ((P2 i.Op).dF)=b11;generalize decide (i.aP.length=0)=b12;generalize ((P2 i.Op).bR)=b13;generalize Ahl i.bF U9=b14;generalize ((P2 i.Op).dV)=b15;generalize i.bY=b16;have key:∀a b:Bool,(bif a then true else b)=(a || b):=by decide
 have key2:∀a b:Bool,(bif a then b else false)=(a && b):=by decide
 simp only[key,key2];cases (b1 || b2)<;>cases (b3 || b4)<;>cases (b5 || b6)<;>cases b7<;>cases b8<;>cases b9<;>cases b10<;>cases (b11 || b12)<;>cases b13<;>cases b14<;>cases b15<;>cases b16<;>rfl
theorem Ajl(L:Nat)(x:Av)(w to:Int)(hs:inP x.bM x.aS)(ht:w=10->inP x.bM to):Hj L x w to=some (Aqc x.bM x.aS x.u_c w to):=by
 have e:∀(a b:Int),(a == b)=decide (a=b):=λ_ _=>rfl;simp only[m9,Hj,aN,aB,e];rw[if_pos hs.1,if_pos hs.2];unfold Aqc D4;by_cases h1:w=1<;>simp only[h1,decide_true,decide_false,cond_true,cond_false,if_true,if_false]
 by_cases h2:w=2<;>simp only[h2,decide_true,decide_false,cond_true,cond_false,if_true,if_false]
 by_cases h3:w=3<;>simp only[h3,decide_true,decide_false,cond_true,cond_false,if_true,if_false]
 by_cases h4:w=4<;>simp only[h4,decide_true,decide_false,cond_true,cond_false,if_true,if_false]
 by_cases h5:w=5<;>simp only[h5,decide_true,decide_false,cond_true,cond_false,if_true,if_false]
 by_cases h6:w=6<;>simp only[h6,decide_true,decide_false,cond_true,cond_false,if_true,if_false]
 by_cases h7:w=7<;>simp only[h7,decide_true,decide_false,cond_true,cond_false,if_true,if_false]
 by_cases h8:w=8<;>simp only[h8,decide_true,decide_false,cond_true,cond_false,if_true,if_false]
 by_cases h9:w=9<;>simp only[h9,decide_true,decide_false,cond_true,cond_false,if_true,if_false]
 by_cases h10:w=10
 ·simp only[h10,decide_true,cond_true,if_true,if_pos (ht h10).1,if_pos (ht h10).2]
 simp only[h10,decide_false,cond_false,if_false];by_cases h11:w=11<;>simp only[h11,decide_true,decide_false,cond_true,cond_false,if_true,if_false]
 by_cases h12:w=12<;>simp only[h12,decide_true,decide_false,cond_true,cond_false,if_true,if_false]
 by_cases h13:w=13<;>simp only[h13,decide_true,decide_false,cond_true,cond_false,if_true,if_false]
theorem Aal(L:Nat)(x:Av)(w n to:Int)(hs:inP x.bM x.aS)(ht:w=10->inP x.bM to):C0 L x w n to=some (Zv x.bM x.aS x.u_c w n to):=by
 have e:=Ajl L x w to hs ht;simp only[Acw,C0,aN,aB,Zv];rw[show Hj L ⟨⟨x.bM.aF,x.bM.aA,x.bM.aH⟩,x.aS,x.u_c⟩ w to=some (Aqc x.bM x.aS x.u_c w to)from e];by_cases h:0<=n
 ·simp[h]
 ·simp[h]
theorem A9e{α :Type} [Inhabited α](l:List α)(i:Nat)(h:i<l.length):l.drop i=l.getD i default::l.drop (i+1):=by
 rw[List.drop_eq_getElem_cons h,Kj l i h]
theorem Bft(rec:Av->Ab->Option Bool)(L:Nat)(l:List Ab)(x:Av)(e:Ab):∀(k:List Ab) (i:Nat) (v:Int),(∀y∈k,rec x y=some (Aju x.bM x.aS x.u_c y))->
  ∃n:Nat,Eo rec L l x e k i v=some (bif Ahn x.bM x.aS x.u_c k then(1,(v,(n:Int))) else(0,((n:Int),(n:Int)))):=by
 intro k
 induction k with
 |nil=>intro i v _;exact⟨i,by rw[Eo,Ahn];rfl⟩
 |cons y k ih=>
  intro i v h;obtain⟨n,hn⟩:=ih (i+1) v λz hz=>h z (by simp[hz]);rw[Eo,show rec ⟨⟨x.bM.aF,x.bM.aA,x.bM.aH⟩,x.aS,x.u_c⟩ y=_ from h y (by simp),Co,Ahn];cases Aju x.bM x.aS x.u_c y with
  |true=>exact⟨n,by rw[Bool.not_true,cond_false,hn,Bool.true_and]⟩
  |false=>exact⟨i,rfl⟩
theorem Ave{e:Ab}(h:B1 e)(x:Av)(hs:inP x.bM x.aS):∀L,maxLen+dE e<L->C5 L x e=some (Aju x.bM x.aS x.u_c e):=by
 induction h with
 |mk a0 a1 a2 a3 h0 h1 h2 h3 h4 ih=>
  intro L hL;obtain⟨L,rfl⟩:∃k,L=k+1:=⟨L-1,by omega⟩;rw[dE]at hL;have hr:∀y∈a3,C5 L x y=some (Aju x.bM x.aS x.u_c y):=λy hy=>ih y hy L (by have:=Akl hy;omega);obtain⟨n,hn⟩:=Bft (C5 L) L a3 x (.mk a0 a1 a2 a3) a3 0 0 hr;have hic:D0 (C5 L) L a3 x (.mk a0 a1 a2 a3)=some (bif Ahn x.bM x.aS x.u_c a3 then -1 else(n:Int)):=by
   simp only[D0,Af1,Vw,aN,aB,Aqo _ _ a3 x (.mk a0 a1 a2 a3) _ h3 (show a3.length<L by omega),hn,Co];cases Ahn x.bM x.aS x.u_c a3<;>rfl
  have hz:(!decide ((bif Ahn x.bM x.aS x.u_c a3 then(-1:Int) else(n:Int))>=0))=Ahn x.bM x.aS x.u_c a3:=by
   cases Ahn x.bM x.aS x.u_c a3 with
   |true=>rfl
   |false=>rw[cond_false,decide_eq_true (show(n:Int)>=0 by omega)];rfl
  have hh:∀w,w≠10->C0 L ⟨⟨x.bM.aF,x.bM.aA,x.bM.aH⟩,x.aS,x.u_c⟩ w a2 0=some (Zv x.bM x.aS x.u_c w a2 0):=λw hw=>Aal L x w a2 0 hs λh=>absurd h hw;have hm:∀w,w≠10->Hj L ⟨⟨x.bM.aF,x.bM.aA,x.bM.aH⟩,x.aS,x.u_c⟩ w 0=some (Aqc x.bM x.aS x.u_c w 0):=λw hw=>Ajl L x w 0 hs λh=>absurd h hw;have eq:∀(a b:Int),(a == b)=decide (a=b):=λ_ _=>rfl;simp only[Akg,P0,Po,Pp,Pq,Pr,Ps,Pt,d9,C5,P0,Po,Pp,Pq,Pr,Ps,Pt,aN,aB,Ab.cp_eq,Ab.Op,Ab.aF,Ab.N,Ab.aY,Ab.eta,hh 1 (by decide),hh 2 (by decide),hh 5 (by decide),hh 6 (by decide),hm 5 (by decide),hm 8 (by decide),hic,Co,hz,Aju,Bp1,eq];by_cases e1:a0=25
  ·simp only[e1,decide_true,cond_true,if_true];cases Zv x.bM x.aS x.u_c 1 a2 0<;>rfl
  by_cases e2:a0=26
  ·simp only[e1,e2,decide_true,decide_false,cond_true,cond_false,if_true,if_false];cases Zv x.bM x.aS x.u_c 2 a2 0<;>rfl
  by_cases e3:a0=22
  ·simp only[e1,e2,e3,decide_true,decide_false,cond_true,cond_false,if_true,if_false];cases Zv x.bM x.aS x.u_c 5 a2 0<;>rfl
  by_cases e4:a0=23
  ·simp only[e1,e2,e3,e4,decide_true,decide_false,cond_true,cond_false,if_true,if_false];cases Zv x.bM x.aS x.u_c 6 a2 0<;>rfl
  by_cases e5:a0=24
  ·subst e5;generalize Ahn x.bM x.aS x.u_c a3=r;by_cases hq:a2<Bs (Aqc x.bM x.aS x.u_c 5 0+Aqc x.bM x.aS x.u_c 8 0)<;>simp[hq]
  ·simp only[e1,e2,e3,e4,e5,decide_false,cond_false,if_false,Bool.true_and]
theorem Bcj(L:Nat)(l:List Dt)(p:Ac)(a b:Int):∀(k:List Dt) (i:Nat) (v:Int),Qo L l p a b k i v=
  some (match k.findIdx? (λx=>x.aV == a && x.To == b) with|some j=>(0,(((i+j:Nat):Int),((i+j:Nat):Int)))|none=>(1,(v,((i+k.length:Nat):Int)))):=by
 intro k
 induction k with
 |nil=>intro i v;rfl
 |cons x k ih=>
  intro i v;rw[Qo,ih,List.findIdx?_cons,Du];cases hc:(x.aV == a && x.To == b) with
  |true=>rfl
  |false=>
   simp only[cond_false,Bool.false_eq_true,if_false];cases k.findIdx? (λx=>x.aV == a && x.To == b) with
   |some j=>simp[Nat.add_assoc,Nat.add_comm 1]
   |none=>simp[Nat.add_assoc,Nat.add_comm 1]
theorem Bss(l:List Dt)(a b:Int):A11 l a b=(l.findIdx? λx=>x.aV == a && x.To == b).map λj=>(l.getD j default).bU:=by
 unfold A11
 induction l with
 |nil=>rfl
 |cons x l ih=>
  rw[List.find?_cons,List.findIdx?_cons];cases hc:(x.aV == a && x.To == b) with
  |true=>rfl
  |false=>
   simp only[Bool.false_eq_true,if_false];rw[ih];cases l.findIdx? (λx=>x.aV == a && x.To == b)<;>rfl
theorem Bfi(L:Nat)(p:Ac)(a b:Int)(hl:p.aH.length<=maxLen)(hL:maxLen<L):Aip L p a b=some (match A11 p.aH a b with|some d=>(d,true)|none=>(0,false)):=by
 rw[Bss];have hic:Aen L p.aH p a b=some (d8 (p.aH.findIdx? λx=>x.aV == a && x.To == b)):=by
  simp only[Aen,At3,Al7,aN,aB,A5u L p.aH p a b L hl (by omega),Bcj,Co];cases p.aH.findIdx? (λx=>x.aV == a && x.To == b) with
  |none=>rfl
  |some i=>simp[d8,H4]
 simp only[A4h,Afc,Aip,Afc,aN,aB,hic,Co];cases hf:p.aH.findIdx? (λx=>x.aV == a && x.To == b) with
 |none=>rfl
 |some i=>
  have hi:i<p.aH.length:=(List.findIdx?_eq_some_iff_getElem.1 hf).1;show(bif decide ((i:Int)<0)then _ else _)=_
  rw[decide_eq_false (show¬(i:Int)<0 by omega),cond_false];show(if(0:Int)<=(i:Int) then(if(i:Int)<((p.aH.length:Nat):Int)then _ else none)else none)=_
  rw[if_pos (show(0:Int)<=(i:Int) by omega),if_pos (show(i:Int)<((p.aH.length:Nat):Int) by omega)];show some ((p.aH.getD (Int.toNat (i:Int)) default).bU,true)=_
  rw[toN];rfl
theorem Ahj(L:Nat)(i:Ar)(hk:Mz i.Op=true)(hl:i.aP.length<=1048576):Es L i=some (Sq i):=by
 obtain⟨h1,h2⟩:=Ss.1 hk;simp only[Zr,Es,aN,aB,Ab.cp_eq,At7,hk,Co,Bool.not_true,cond_false];rw[if_pos (show(0:Int)<=i.Op by omega),if_pos (show i.Op<((gl0.length:Nat):Int) by rw[Bbe];omega)];rw[show gl0.getD (Int.toNat i.Op) default=P2 i.Op from rfl];unfold Sq;cases (P2 i.Op).fI<;>cases (P2 i.Op).fP<;>cases (P2 i.Op).dF<;>simp only[cond_true,cond_false,if_true,if_false,List.length_cons,List.length_nil,List.length_append,List.nil_append,List.append_nil,Bool.false_eq_true,List.cons_append]
 all_goals (unfold maxLen;repeat (first|rw[if_pos (by omega)]|rfl))
theorem By0{op:Int}(h:Mz op=true):(P2 op).gB≠10:=by
 obtain⟨h1,h2⟩:=Ss.1 h;obtain⟨n,rfl⟩:∃n:Nat,op=(n:Int):=⟨op.toNat,by omega⟩;have:∀k:Fin 20,(P2 (k.val:Int)).gB≠10:=by decide
 exact this ⟨n,by omega⟩
theorem By1{op:Int}(h:Mz op=true)(h14:op≠14)(h15:op≠15):(P2 op).gF≠10:=by
 obtain⟨h1,h2⟩:=Ss.1 h;obtain⟨n,rfl⟩:∃n:Nat,op=(n:Int):=⟨op.toNat,by omega⟩;have:∀k:Fin 20,(k.val:Int)≠14->(k.val:Int)≠15->(P2 (k.val:Int)).gF≠10:=by decide
 exact this ⟨n,by omega⟩ h14 h15
theorem Axr{e:Ab}(h:B1 e)(L:Nat)(hL:maxLen+dE e<L):I7 L e=some (D5 true e):=by
 simp only[Acx,I7,aN,aB,Ab.cp_eq,Ajm h ⟨true⟩ L hL,Co]
theorem Bck(L:Nat)(l:List Ab)(x:Av)(i:Ar)(hs:inP x.bM x.aS)(k:List Ab)(hk:∀e∈k,B1 e/\maxLen+dE e<L)(j:Nat)(v:Int):
  ∃m,Ea L l x i k j v=some (if Ri (Amw x.bM x.aS x.u_c) k=0 then(1,(v,m)) else(0,(Ri (Amw x.bM x.aS x.u_c) k,m))):=by
 refine Bdn (lq:=Ea L l x i) (bd:=λe=>(I7 L e).bind λr=>bif r != 0 then some r else(C5 L x e).bind λq=>bif !q then some 2 else some 0) (λ_ _=>rfl) (λe k j v=>?_) k j v λe he=>?_
 ·rw[Ea];show(I7 L e).bind _=_
  rw[Option.bind_assoc]
  congr 1
  funext r
  cases hr:r != 0 with
  |true=>simp only[cond_true,Co,hr]
  |false=>
   simp only[cond_false,Option.bind_assoc];show(C5 L x e).bind _=_
   congr 1
   funext q
   cases q<;>rfl
 ·obtain⟨h1,h2⟩:=hk e he;rw[Axr h1 L h2,Co,Ave h1 x hs L h2,Co];unfold Amw;by_cases h0:D5 true e=0
  ·rw[h0,H8];cases Aju x.bM x.aS x.u_c e<;>rfl
  ·rw[Gk h0,Xv h0];rfl
theorem Bum(p:Ac)(s:Int)(c:Aq)(n to:Int):Zv p s c 10 n to=Zv p 0 default 10 n to:=rfl
theorem Be2(p:Ac)(s:Int)(c:Aq)(to:Int):Aqc p s c 10 to=((D4 p to).aD.length:Int):=rfl
theorem InG.exprs{i:Ar}(h:InG i):∀e∈Sq i,B1 e/\dE e<=1048576:=by
 obtain⟨⟨_,_,_,_,hE,hF,⟨_,hA⟩,_,_⟩,hb⟩:=h;have b:B5 i.E+(B5 i.F+(Ga B5 i.aP))<=1048576:=by unfold Ow at hb;omega
 intro e he;unfold Sq at he;rcases List.mem_append.1 he with he|he
 ·rcases List.mem_append.1 he with he|he
  ·split at he
   ·obtain rfl:=List.mem_singleton.1 he;exact⟨hE,Nat.le_trans (A4x _) (by omega)⟩
   ·cases he
  ·split at he
   ·obtain rfl:=List.mem_singleton.1 he;exact⟨hF,Nat.le_trans (A4x _) (by omega)⟩
   ·cases he
 ·split at he
  ·exact⟨hA e he,Nat.le_trans (A4x _) (Nat.le_trans (Ya (g:=B5) he) (by omega))⟩
  ·cases he
theorem A0o{α :Type}{g: α->Nat}(hg:∀x,1<=g x)(l:List α):l.length<=Ga g l:=by
 induction l with
 |nil=>exact Nat.zero_le _
 |cons x l ih=>
  have:=hg x;show l.length+1<=g x+Ga g l
  omega
theorem Bsx(e:Ab):1<=B5 e:=by cases e;rw[B5];omega
theorem InG.args{i:Ar}(h:InG i):i.aP.length<=1048576:=by
 have hb:=h.bk;have:=A0o Bsx i.aP;unfold Ow at hb;omega
theorem InG.dist{i:Ar}(h:InG i):okD i.bF:=A5y (by have hb:=h.bk;unfold Ow at hb;omega)
theorem A43{i:Ar}(h:InG i):(Sq i).length<=1048578:=by
 have:=h.args;unfold Sq;split<;>split<;>split<;>simp<;>omega
def Bkt(p:Ac)(s:Int)(c:Aq)(i:Ar):Int:=fE (Ri (Amw p s c) (Sq i)) (if(P2 i.Op).bR then Ap7 i.bF else 0)
theorem A83(L:Nat)(x:Av)(i:Ar)(hi:InG i)(hs:inP x.bM x.aS)(hL:Ko<=L)(v:Int){T:Nat×(Int×Int)->Option Int}(hT:∀o,T o=Apw o.1 [some o.2.1,bif (P2 i.Op).bR then(F7 L i.bF).bind λr=>some r else some 0]):
  ((Cx L (Sq i) x i L 0 0).bind T)=some (Bkt x.bM x.aS x.u_c i):=by
 have hl:=Hk hL;have hbig:maxLen+4194304<=L:=hL;have hle:=A43 hi;obtain⟨m,hm⟩:=Bck L (Sq i) x i hs (Sq i) (λe he=>⟨(hi.exprs e he).1,by have:=(hi.exprs e he).2;omega⟩) 0 0;rw[Aph L (Sq i) x i L (by unfold maxLen;omega) (by omega),hm,Co,hT];unfold Bkt;by_cases h0:Ri (Amw x.bM x.aS x.u_c) (Sq i)=0
 ·rw[if_pos h0,h0,H8];show(bif (P2 i.Op).bR then(F7 L i.bF).bind λr=>some r else some 0)=_
  rw[Ae0 L i.bF hi.dist hl,Co];cases (P2 i.Op).bR<;>rfl
 ·rw[if_neg h0,Gk h0];rfl
theorem A4o(L:Nat)(x:Av)(i:Ar)(hi:InG i)(hk:Mz i.Op=true)(hs:inP x.bM x.aS)(hL:Ko<=L)(to:Int)(hto:inP x.bM to){T:Nat×(Int×Int)->Option Int}
  (hT:∀o,T o=Apw o.1 [some o.2.1,bif (P2 i.Op).bR then(F7 L i.bF).bind λr=>some r else some 0]):
  ((C0 L ⟨⟨x.bM.aF,x.bM.aA,x.bM.aH⟩,x.aS,x.u_c⟩ 10 i.B to).bind λr8=>bif !r8 then some 2 else
   if 0<=to then if to<((x.bM.aA.length:Nat):Int)then if 0<=i.B then if i.B<((((x.bM.aA.getD (Int.toNat to) default).aD).length:Nat):Int) then
    bif (i.aP.length:Int) != (((x.bM.aA.getD (Int.toNat to) default).aD).getD (Int.toNat i.B) default).aJ then some 8 else
     (Es L ⟨i.Op,i.A,i.B,i.C,i.E,i.F,i.aP,i.bF,i.bY⟩).bind λr9=>(Cx L r9 x i L 0 0).bind T else none else none else none else none)
   =some (fE (Aym x.bM to i) (Bkt x.bM x.aS x.u_c i)):=by
 rw[show C0 L ⟨⟨x.bM.aF,x.bM.aA,x.bM.aH⟩,x.aS,x.u_c⟩ 10 i.B to=_ from Aal L x 10 i.B to hs λ_=>hto,Co,Bum];unfold Aym;cases hB:Zv x.bM 0 default 10 i.B to with
 |false=>rfl
 |true=>
  have hB':=hB;simp only[Zv,Be2,Bool.and_eq_true,decide_eq_true_eq]at hB';simp only[Bool.not_true,cond_false,Bool.true_eq_false,if_false];rw[if_pos hto.1,if_pos hto.2,if_pos hB'.1,if_pos (show i.B<((((x.bM.aA.getD (Int.toNat to) default).aD).length:Nat):Int)from of_decide_eq_true hB'.2)];rw[show Es L ⟨i.Op,i.A,i.B,i.C,i.E,i.F,i.aP,i.bF,i.bY⟩=_ from Ahj L i hk hi.args,Co,A83 L x i hi hs hL 0 hT];show(bif !((i.aP.length:Int) == (((D4 x.bM to).aD.getD (Int.toNat i.B) default).aJ))then some 8 else _)=_
  cases (i.aP.length:Int) == (((D4 x.bM to).aD.getD (Int.toNat i.B) default).aJ)<;>rfl
theorem Atj(L:Nat)(x:Av)(i:Ar)(hi:InG i)(hs:inP x.bM x.aS)(hlk:x.bM.aH.length<=maxLen)(hL:Ko<=L):I6 L x i=some (Ajd x.bM x.aS x.u_c i):=by
 have hl:=Hk hL;unfold I6 Aix;simp only[T3,aN,aB,Ab.cp_eq,At7,Co];unfold Ajd;cases hk:Mz i.Op with
 |false=>rfl
 |true=>
  have hc:j9 L ⟨i.Op,i.A,i.B,i.C,i.E,i.F,i.aP,i.bF,i.bY⟩=_:=A7s L i hk hi.dist hl;have hex:Es L ⟨i.Op,i.A,i.B,i.C,i.E,i.F,i.aP,i.bF,i.bY⟩=_:=Ahj L i hk hi.args;have hh:∀w n to,(w=10->inP x.bM to)->C0 L ⟨⟨x.bM.aF,x.bM.aA,x.bM.aH⟩,x.aS,x.u_c⟩ w n to=some (Zv x.bM x.aS x.u_c w n to):=λw n to ht=>Aal L x w n to hs ht;obtain⟨h1,h2⟩:=Ss.1 hk;simp only[Bool.not_true,cond_false,hc,Co];cases hcl:Ao7 i with
  |false=>rfl
  |true=>
   simp only[Bool.not_true,cond_false,Bool.and_self,Bool.true_eq_false,if_false];rw[if_pos (show(0:Int)<=i.Op by omega),if_pos (show i.Op<((gl0.length:Nat):Int) by rw[Bbe];omega)];rw[show gl0.getD (Int.toNat i.Op) default=P2 i.Op from rfl];rw[hh _ _ _ λh=>absurd h (By0 hk),Co];show _=some (fE (Bl9 x.bM x.aS x.u_c i) (Bkt x.bM x.aS x.u_c i))
   unfold Bl9;generalize hga:Zv x.bM x.aS x.u_c (P2 i.Op).gB i.A 0=ga;have e5:(bif !ga then(P2 i.Op).gB != 0 else false)= !(ga || (P2 i.Op).gB == 0):=by cases ga<;>rfl
   rw[e5];cases hgb:(ga || (P2 i.Op).gB == 0) with
   |false=>rfl
   |true=>
    simp only[Bool.not_true,cond_false,Bool.true_eq_false,if_false];by_cases h14:i.Op=14
    ·have hA:inP x.bM i.A:=by
      have hfa:(P2 i.Op).gB=9:=by rw[h14];rfl
      rw[hfa]at hga hgb;have hgt:ga=true:=by simpa using hgb
      rw[hgt]at hga;simp only[Zv,Bool.and_eq_true,decide_eq_true_eq]at hga;exact hga
     have e14:(i.Op == 14)=true:=beq_iff_eq.2 h14;rw[e14,cond_true,if_pos h14,show Aip L ⟨x.bM.aF,x.bM.aA,x.bM.aH⟩ x.aS i.A=_ from Bfi L x.bM x.aS i.A hlk hl,Co];cases ha:A11 x.bM.aH x.aS i.A with
     |none=>rfl
     |some d=>
      by_cases hd:d=i.C
      ·have e7:(d != i.C)=false:=by rw[hd];simp
       simp only[Bool.not_true,cond_false,e7];rw[if_pos (show some d=some i.C by rw[hd])];exact A4o L x i hi hk hs hL i.A hA λo=>rfl
      ·have e7:(d != i.C)=true:=bne_iff_ne.2 hd;simp only[Bool.not_true,cond_false,e7,cond_true];rw[if_neg (λh=>hd (Option.some.inj h)),Gk (by decide)]
    ·have e14:(i.Op == 14)=false:=beq_eq_false_iff_ne.2 h14;rw[e14,cond_false,if_neg h14];by_cases h15:i.Op=15
     ·have e15:(i.Op == 15)=true:=beq_iff_eq.2 h15;rw[e15,cond_true,if_pos h15];exact A4o L x i hi hk hs hL x.aS hs λo=>rfl
     ·have e15:(i.Op == 15)=false:=beq_eq_false_iff_ne.2 h15;rw[e15,cond_false,if_neg h15];rw[hh _ _ _ λh=>absurd h (By1 hk h14 h15),Co,hex,Co];generalize Zv x.bM x.aS x.u_c (P2 i.Op).gF i.B 0=gb;have hR:=A83 L x i hi hs hL 0 (T:=λo=>(T0 L i o:Option Int)) λo=>rfl;rw[hR];have nz:((P2 i.Op).gF != 0)= !((P2 i.Op).gF == 0):=rfl;rw[nz];cases gb<;>cases ((P2 i.Op).gF == 0)<;>rfl
theorem A6g(L:Nat)(c:Aq)(p:Ac)(s:Int)(hs:inP p s)(hlk:p.aH.length<=maxLen)(hL:Ko<=L)(k:List Ar)(hk:∀i∈k,InG i)(j:Nat)(v:Int):
  ∃m,Iq L c p s k j v=some (if Ri (Ajd p s c) k=0 then(1,(v,m)) else(0,(Ri (Ajd p s c) k,m))):=
 Bdn (lq:=Iq L c p s) (bd:=λi=>I6 L ⟨p,s,c⟩ i) (λ_ _=>rfl) (λ_ _ _ _=>rfl) k j v λi hi=>Atj L ⟨p,s,c⟩ i (hk i hi) hs hlk hL
structure CoG (c:Aq):Prop where
 ok:Ake c
 bk:Sb c<=1048576
theorem CoG.ins{c:Aq}(h:CoG c):∀i∈c.aR,InG i:=λi hi=>⟨h.ok.2.2.2.2 i hi,by have:=Ya (g:=Ow) hi;have hb:=h.bk;unfold Sb at hb;omega⟩
theorem A2x(L:Nat)(p:Ac)(s:Int)(c:Aq)(hc:CoG c)(hlk:p.aH.length<=maxLen)(hL:Ko<=L):Rc L p s c=some (Ar4 p s c):=by
 have hl:=Hk hL;obtain⟨hn,hP,hS,hI,_⟩:=hc.ok;have hnm:c.aF.size<L:=Nat.lt_of_le_of_lt hn hl;have e0:((c.aR.length:Int) == 0)=decide (c.aR.length=0):=by
  by_cases h:c.aR.length=0
  ·rw[h];rfl
  ·rw[decide_eq_false h];exact beq_eq_false_iff_ne.2 (by omega)
 have e1000:decide ((c.aR.length:Int)>1000)=decide (1000<c.aR.length):=gtN _ 1000;simp only[Arq,U5,Uw,Rc,U5,Uw,aN,aB,Nu L c.aF hn hnm,Co,e0,e1000];unfold Ar4;cases hs:(decide (s<0) || decide (s>=(p.aA.length:Int))) with
 |true=>rw[Hu,hs];rfl
 |false=>
  rw[Hu,hs];rw[Bool.or_eq_false_iff,decide_eq_false_iff_not,decide_eq_false_iff_not]at hs;have hin:inP p s:=⟨by omega,by omega⟩;simp only[cond_false,Bool.false_eq_true,if_false];by_cases h0:Jt c.aF=0
  ·rw[h0,H8];have eP:(bif bif bif decide (c.aJ<0)then true else decide (c.aJ>c.dD)then true else decide (c.aJ>6)then true else decide (c.dD>16))=decide (c.aJ<0\/c.aJ>c.dD\/c.aJ>6\/c.dD>16):=by
    simp only[Hu,Bool.decide_or,Bool.or_assoc]
   simp only[bne_self_eq_false,cond_false,eP];by_cases hp:c.aJ<0\/c.aJ>c.dD\/c.aJ>6\/c.dD>16
   ·rw[decide_eq_true hp,if_pos hp];rfl
   ·rw[decide_eq_false hp,if_neg hp,cond_false];by_cases hz:c.aR.length=0
    ·rw[decide_eq_true hz,if_pos hz];rfl
    ·rw[decide_eq_false hz,if_neg hz,cond_false];by_cases hm:1000<c.aR.length
     ·rw[decide_eq_true hm,if_pos hm];rfl
     ·rw[decide_eq_false hm,if_neg hm,cond_false];obtain⟨m,hq⟩:=A6g L c p s hin hlk hL c.aR hc.ins 0 0;rw[Avd L c p s L hI (by omega),hq,Co];have ew:Bs ((c.aR.length:Int)-1)=((c.aR.length-1:Nat):Int):=by rw[H7 (by omega) (by omega)];omega
      by_cases ha:Ri (Ajd p s c) c.aR=0
      ·rw[if_pos ha,ha,H8];simp only[S5,ew,toN];rw[if_pos (by omega),if_pos (by omega)];have e1:∀(a b:Int),(a != b)= !decide (a=b):=λ_ _=>rfl;simp only[e1];cases decide ((c.aR.getD (c.aR.length-1) default).Op=19)<;>cases decide ((c.aR.getD (c.aR.length-1) default).Op=4)<;>rfl
      ·rw[if_neg ha,Gk ha];rfl
  ·rw[Gk h0,Xv h0];rfl
def agP(c:Aq)(r:Am):Bool:=decide (c.aF=r.aF) && c.aJ == (r.aJ.length:Int) && decide (r.bE.length=0)
def agL:List Aq->List Am->Bool
 |c::k,r::m=>agP c r && agL k m
 |_,_=>true
theorem A4l(s:A9):Ao1 s=(decide (s.aD.length=s.aL.aD.length) && agL s.aD s.aL.aD):=by
 unfold Ao1
 congr 1
 generalize s.aD=k;generalize s.aL.aD=m
 induction k generalizing m with
 |nil=>cases m<;>rfl
 |cons c k ih=>cases m with
  |nil=>rfl
  |cons r m=>rw[List.zip_cons_cons,List.all_cons,ih,agL];rfl
theorem A8n(L:Nat)(m:List Am)(l:List Aq)(s:A9):∀(k:List Aq) (i:Nat) (v:Bool),i+k.length=m.length->
  ∃j,Jq L m l s k i v=some (bif agL k (m.drop i) then(1,(v,j)) else(0,(false,j))):=by
 intro k
 induction k with
 |nil=>intro i v _;exact⟨i,rfl⟩
 |cons c k ih=>
  intro i v h;rw[List.length_cons]at h;obtain⟨j,hj⟩:=ih (i+1) v (by omega);have hi:i<m.length:=by omega
  rw[Jq,A9e m i hi,if_pos (show(i:Int)<((m.length:Nat):Int) by omega),hj,toN,agL];generalize m.getD i default=r;have e0:((r.bE.length:Int) == 0)=decide (r.bE.length=0):=by
   by_cases h:r.bE.length=0
   ·rw[h];rfl
   ·rw[decide_eq_false h];exact beq_eq_false_iff_ne.2 (by omega)
  rw[Iu,e0];unfold agP;cases decide (c.aF=r.aF)<;>cases (c.aJ == (r.aJ.length:Int))<;>cases decide (r.bE.length=0)
  all_goals first|exact⟨j,rfl⟩|exact⟨i,rfl⟩
theorem A55(L:Nat)(s:A9)(hl:s.aD.length<=maxLen)(hL:maxLen<L):L5 L s=some (Ao1 s):=by
 rw[A4l];have hic:V8 L s.aD s.aL.aD s=some (decide (s.aD.length=s.aL.aD.length) && agL s.aD s.aL.aD):=by
  simp only[V8,Amz,Xb,Wr,Xb,Wr,aN,aB,Axc L s.aL.aD s.aD s L hl (by omega)];by_cases h:s.aD.length=s.aL.aD.length
  ·obtain⟨j,hj⟩:=A8n L s.aL.aD s.aD s s.aD 0 false (by omega);rw[hj,Co,List.drop_zero,decide_eq_true h,show((s.aD.length:Int) != (s.aL.aD.length:Int))=false by rw[h];simp];cases agL s.aD s.aL.aD<;>rfl
  ·rw[decide_eq_false h,show((s.aD.length:Int) != (s.aL.aD.length:Int))=true from bne_iff_ne.2 (by omega)];rfl
 simp only[Atu,Ws,L5,Ws,aN,aB,hic,Co]
def A68(l:List Dt):List Ec:=l.map λx=>(⟨x.aV,x.To⟩:Ec)
theorem Bqu(seen:List Dt)(x:Dt):((A68 seen).any λb=>x.aV == b.a0 && x.To == b.a1)=seen.any λy=>y.aV == x.aV && y.To == x.To:=by
 unfold A68;rw[List.any_map]
 congr 1
 funext y
 show(x.aV == y.aV && x.To == y.To)=_
 rw[Bool.beq_comm (a:=x.aV),Bool.beq_comm (a:=x.To)]
theorem Bfs(L:Nat)(p:Ac):∀(k:List Dt) (i:Nat) (v:Int) (seen:List Dt),
  ∃j a b,Dq L p k i v (A68 seen) (tr (A68 seen))=some (if Ap4 p seen k=0 then(1,(v,(j,a,b))) else(0,(Ap4 p seen k,(j,a,b)))):=by
 intro k
 induction k with
 |nil=>intro i v seen;exact⟨i,_,_,rfl⟩
 |cons x k ih=>
  intro i v seen;obtain⟨j,a,b,hj⟩:=ih (i+1) v (seen++ [x]);have hw:A68 (seen++ [x])=A68 seen++ [(⟨x.aV,x.To⟩:Ec)]:=by unfold A68;rw[List.map_append];rfl
  have hsn:=Ax8 (A68 seen) (⟨x.aV,x.To⟩:Ec);rw[hw]at hj;have e1:(bif (bif decide ((if x.To<x.aV then x.To else x.aV)<0)then true else decide ((if x.To>x.aV then x.To else x.aV)>=(p.aA.length:Int)))then true else(x.aV == x.To))=decide (x.aV<0\/x.aV>=(p.aA.length:Int)\/x.To<0\/x.To>=(p.aA.length:Int)\/x.aV=x.To):=by
   rw[Hu,Hu,show(x.aV == x.To)=decide (x.aV=x.To)from rfl,<-Bool.decide_or,<-Bool.decide_or];refine decide_eq_decide.2 ?_;split<;>split<;>omega
  have e2:(bif decide (x.bU<1)then true else decide (x.bU>1000000000))=decide (x.bU<1\/x.bU>1000000000):=by rw[Hu,<-Bool.decide_or]
  rw[Dq,Ap4];simp only[e1,e2];unfold B1e;by_cases h1:x.aV<0\/x.aV>=(p.aA.length:Int)\/x.To<0\/x.To>=(p.aA.length:Int)\/x.aV=x.To
  ·rw[decide_eq_true h1,if_pos (by omega),Gk (by decide)];exact⟨i,_,_,rfl⟩
  ·by_cases h2:x.bU<1\/x.bU>1000000000
   ·rw[decide_eq_false h1,decide_eq_true h2,if_pos (by omega),Gk (by decide)];exact⟨i,_,_,rfl⟩
   ·rw[decide_eq_false h1,decide_eq_false h2,if_neg (by omega),<-Bqu];simp only[cond_false];cases hf:(A68 seen).findIdx? λb=>x.aV == b.a0 && x.To == b.a1 with
    |some n=>
     rw[Aif hf];obtain⟨h3,_⟩:=List.findIdx?_eq_some_iff_getElem.1 hf;simp only[fko,Bc2 h3,cond_true,Bool.not_true];refine⟨i,A68 seen,tr (A68 seen),?_⟩;rw[show R6 false 4=4 from rfl,Gk (by decide)];rfl
    |none=>
     rw[Amx hf];simp only[fko,Bool.not_false];rw[hsn,show R6 true 4=0 from rfl,H8];exact⟨j,a,b,hj⟩
theorem Bb9(L:Nat)(p:Ac)(hl:p.aH.length<=maxLen)(hL:maxLen<L):Afr L p=some (A4n p):=by
 obtain⟨j,a,b,hj⟩:=Bfs L p p.aH 0 0 [];have hj':Dq L p p.aH 0 0 [] []=_:=hj;have e32:decide ((p.aH.length:Int)>32)=decide (32<p.aH.length):=gtN _ 32;simp only[A09,Acb,Abg,Afr,Acb,Abg,aN,aB,e32,A2s L p L hl (by omega),hj',Co,A4n];by_cases h:32<p.aH.length
 ·rw[decide_eq_true h,if_pos h];rfl
 ·rw[decide_eq_false h,if_neg h,cond_false];by_cases h0:Ap4 p [] p.aH=0
  ·rw[if_pos h0,S5,h0]
  ·rw[if_neg h0,H4]
structure PG (p:Ac):Prop where
 ok:Ait p
 bk:Rj p<=1048576
theorem PG.site{p:Ac}(h:PG p):∀s∈p.aA,MG (Al8 p s)/\s.aD.length<=maxLen/\∀c∈s.aD,CoG c:=by
 intro s hs;obtain⟨hn,⟨hl,hS⟩,hL⟩:=h.ok;obtain⟨hD,hR⟩:=hS s hs;have hb:=h.bk;have h1:=Ya (g:=Ey) hs;have h2:Ey s<=1048576:=by unfold Rj at hb;omega
 refine⟨⟨?_,?_⟩,hR.1,λc hc=>⟨hR.2 c hc,?_⟩⟩
 ·unfold Av3 Al8;exact⟨hn,⟨Nat.zero_le _,λy hy=>by cases hy⟩,⟨by show 1<=maxLen;unfold maxLen;omega,λy hy=>by rw[List.mem_singleton.1 hy];exact hD⟩,⟨Nat.zero_le _,λy hy=>by cases hy⟩⟩
 ·unfold Rj at hb;generalize Ga Ey p.aA=S at h1 hb;unfold Ey at h1 h2;unfold Ao5 Al8;have e:Ga Dm [s.aL]=Dm s.aL:=by show Dm s.aL+0=_;omega
  rw[e];show(p.aF.size+1)+((0+1)+((Dm s.aL+1)+(0+1)))+1<=1048576
  omega
 ·have h3:=Ya (g:=Sb) hc;unfold Ey at h2;omega
theorem A6d(L:Nat)(p:Ac)(hL:Ko<=L):∀(k:List A9) (i:Nat) (v:Int) (seen:List Yb),(∀s∈k,MG (Al8 p s)/\s.aD.length<=maxLen)->
  ∃j a b,Ez L p k i v seen (tr seen)=some (if Xw Hv p seen k=0 then(1,(v,(j,a,b))) else(0,(Xw Hv p seen k,(j,a,b)))):=by
 intro k
 induction k with
 |nil=>intro i v seen _;exact⟨i,_,_,rfl⟩
 |cons s k ih=>
  intro i v seen h;obtain⟨hM,hR⟩:=h s (by simp);obtain⟨j,a,b,hj⟩:=ih (i+1) v (seen++ [s.aL.aF]) λy hy=>h y (by simp[hy]);have hsn:=Ax8 seen s.aL.aF;have hag:L5 L ⟨s.aL,s.aD⟩=_:=A55 L s hR (Hk hL);have eb:∀x,(s.aL.aF == x)=decide (x=s.aL.aF):=λx=>A29 _ _;rw[Ez,show Tq L ⟨p.aF,[],[s.aL],[]⟩=_ from A57 L (Al8 p s) hM hL,Co,Xw];by_cases h0:Alu Hv (Al8 p s)=0
  ·rw[h0,H8];simp only[bne_self_eq_false,cond_false,hag,Co,eb];cases hf:seen.findIdx? λx=>decide (x=s.aL.aF) with
   |some n=>
    rw[Aif hf];obtain⟨h3,_⟩:=List.findIdx?_eq_some_iff_getElem.1 hf;simp only[fko,Bc2 h3,cond_true,Bool.not_true];refine⟨i,seen,tr seen,?_⟩;rw[show R6 false 4=4 from rfl,Gk (by decide)];rfl
   |none=>
    rw[Amx hf];simp only[fko,Bool.not_false];rw[show R6 true 4=0 from rfl,H8];cases Ao1 s with
    |false=>exact⟨i,_,_,rfl⟩
    |true=>
     rw[show R6 true 8=0 from rfl,H8,hsn];exact⟨j,a,b,hj⟩
  ·rw[Gk h0,Xv h0];exact⟨i,_,_,by rw[if_neg h0];rfl⟩
theorem A6f(L:Nat)(s:Int)(p:Ac)(o:Nat×(Int×Int×List Yb×List Bool))(hlk:p.aH.length<=maxLen)(hL:Ko<=L)(k:List Aq)(hk:∀c∈k,CoG c)(j:Nat)(v:Int):
  ∃m,Lf L s p o k j v=some (if Ri (Ar4 p s) k=0 then(1,(v,m)) else(0,(Ri (Ar4 p s) k,m))):=
 Bdn (lq:=Lf L s p o) (bd:=λc=>Rc L p s c) (λ_ _=>rfl) (λ_ _ _ _=>rfl) k j v λc hc=>A2x L p s c (hk c hc) hlk hL
theorem A6e(L:Nat)(p:Ac)(o:Nat×(Int×Int×List Yb×List Bool))(hlk:p.aH.length<=maxLen)(hL:Ko<=L)(hS:∀s∈p.aA,s.aD.length<=maxLen/\∀c∈s.aD,CoG c):
  ∀(k:List A9) (i:Nat) (v:Int),p.aA.drop i=k->∃m,Lc L p o k i v=some (if Ar5 p i k=0 then(1,(v,m)) else(0,(Ar5 p i k,m))):=by
 intro k
 induction k with
 |nil=>intro i v _;exact⟨i,rfl⟩
 |cons s k ih=>
  intro i v hd;obtain⟨hi,hg,hd'⟩:=I8 hd;have hs:s∈p.aA:=List.mem_of_mem_drop (by rw[hd];simp);obtain⟨h1,h2⟩:=hS s hs;obtain⟨m,hm⟩:=A6f L (i:Int) p o hlk hL s.aD h2 0 v;obtain⟨j,hj⟩:=ih (i+1) v hd';have hg':(p.aA.getD (Int.toNat (i:Int)) default)=s:=by rw[toN];exact hg
  rw[Lc,Azc L (i:Int) p o L (by rw[hg'];exact h1) (by rw[hg'];have:=Hk hL;omega),hg',hm,Co,Ar5];by_cases h0:Ri (Ar4 p (i:Int)) s.aD=0
  ·rw[if_pos h0,h0,H8,S5];exact⟨j,hj⟩
  ·rw[if_neg h0,Gk h0,H4];exact⟨i,by rw[if_neg h0]⟩
theorem At6(L:Nat)(p:Ac)(h:PG p)(hL:Ko<=L):Sj L p=some (Acp Hv p):=by
 have hl:=Hk hL;obtain⟨hn,⟨hSl,_⟩,⟨hLl,_⟩⟩:=h.ok;have hS:=h.site;have hnm:p.aF.size<L:=Nat.lt_of_le_of_lt hn hl;have e0:((p.aA.length:Int) == 0)=decide (p.aA.length=0):=by
  by_cases h:p.aA.length=0
  ·rw[h];rfl
  ·rw[decide_eq_false h];exact beq_eq_false_iff_ne.2 (by omega)
 have e16:decide ((p.aA.length:Int)>16)=decide (16<p.aA.length):=gtN _ 16;simp only[Av5,Ze,Aha,Zg,Yz,Sj,Ze,Aha,Zg,Yz,aN,aB,Nu L p.aF hn hnm,Co,e0,e16];unfold Acp;by_cases h0:Jt p.aF=0
 ·rw[h0,H8];simp only[bne_self_eq_false,cond_false];by_cases hz:p.aA.length=0
  ·rw[decide_eq_true hz,if_pos hz];rfl
  ·rw[decide_eq_false hz,if_neg hz,cond_false];by_cases hm:16<p.aA.length
   ·rw[decide_eq_true hm,if_pos hm];rfl
   ·rw[decide_eq_false hm,if_neg hm,cond_false];obtain⟨j,a,b,hj⟩:=A6d L p hL p.aA 0 0 [] λs hs=>⟨(hS s hs).1,(hS s hs).2.1⟩;have hj':Ez L p p.aA 0 0 [] []=_:=hj;rw[Aza L p L hSl (by omega),hj',Co];by_cases hs:Xw Hv p [] p.aA=0
    ·rw[if_pos hs,hs,H8];simp only[S5];rw[show Afr L ⟨p.aF,p.aA,p.aH⟩=_ from Bb9 L p hLl hl,Co];by_cases ha:A4n p=0
     ·rw[ha,H8];simp only[bne_self_eq_false,cond_false];obtain⟨m,hm⟩:=A6e L p (1,(0,(j,a,b))) hLl hL (λs hs=>⟨(hS s hs).2.1,(hS s hs).2.2⟩) p.aA 0 0 rfl;rw[Azb L p (1,(0,(j,a,b))) L hSl (by omega),hm,Co];by_cases hc:Ar5 p 0 p.aA=0
      ·rw[if_pos hc,hc,S5]
      ·rw[if_neg hc,H4]
     ·rw[Gk ha,Xv ha];rfl
    ·rw[if_neg hs,Gk hs];rfl
 ·rw[Gk h0,Xv h0];rfl
def Aux(ks:List Ah)(a b:Int):List Ah:=match ks.findIdx? (λc=>a == c.bG && b == c.aK) with
 |some i=>ks.take i++ks.drop (i+1)
 |none=>ks
def Atl(ks:List Ah)(a b:Int):List Ah:=match ks.findIdx? (λc=>a == c.bG && b == c.aK) with
 |some _=>ks
 |none=>ks++ [⟨a,b⟩]
def s7(a:Int):Nat->Nat->List Ah->List Ah
 |_,0,ks=>ks
 |i,d+1,ks=>s7 a (i+1) d (Aux ks a (i:Int))
theorem B6a(ks:List Ah)(i:Nat)(h:i<ks.length):(tr ks).take i++(tr ks).drop (i+1)=tr (ks.take i++ks.drop (i+1)):=by
 unfold tr;rw[List.take_replicate,List.drop_replicate,List.replicate_append_replicate]
 congr 1
 rw[List.length_append,List.length_take,List.length_drop]
theorem B6b(ks:List Ah)(i:Nat):(tr ks).set i true=tr ks:=by
 unfold tr;apply List.ext_getElem?;intro j;rw[List.getElem?_set];split
 ·rename_i h;subst h;split
  ·rename_i h;rw[List.getElem?_eq_getElem (by simpa using h),List.getElem_replicate]
  ·rename_i h;rw[List.getElem?_eq_none (by simpa using h)]
 ·rfl
theorem Bbd{R:Type}(ks:List Ah)(a b:Int)(F:List Ah->List Bool->Option R):
  fko (ks.findIdx? λc=>a == c.bG && b == c.aK) (λi=>F ((ks.take i).drop 0++(ks.take ks.length).drop (i+1)) (((tr ks).take i).drop 0++((tr ks).take (tr ks).length).drop (i+1))) (F ks (tr ks))=F (Aux ks a b) (tr (Aux ks a b)):=by
 unfold Aux;cases h:ks.findIdx? λc=>a == c.bG && b == c.aK with
 |none=>rfl
 |some i=>
  have hi:=(List.findIdx?_eq_some_iff_getElem.1 h).1;simp only[fko,List.drop_zero,List.take_length,B6a ks i hi]
theorem Bj5{R:Type}(ks:List Ah)(a b:Int)(F:List Ah->List Bool->Option R):
  fko (ks.findIdx? λc=>a == c.bG && b == c.aK) (λi=>F ks ((tr ks).set i true)) (F (ks++ [(⟨a,b⟩:Ah)]) (tr ks++ [true]))=F (Atl ks a b) (tr (Atl ks a b)):=by
 unfold Atl;cases h:ks.findIdx? λc=>a == c.bG && b == c.aK with
 |none=>simp only[fko];rw[Ax8]
 |some i=>simp only[fko,B6b]
theorem Bpi(L:Nat)(m:Nat)(y:Ap)(a b:Int)(c d' e:Nat)(P:List Int)(x:Ap)(H W I:List Int)(hl:m<=maxLen):∀(d i n:Nat) (ks:List Ah),i+d=m->d<n->
  El L m y a b c d' e P x H W I n (i:Int) ks (tr ks)=some (0,((m:Int),s7 x.bI i d ks,tr (s7 x.bI i d ks))):=by
 intro d
 induction d with
 |zero=>
  intro i n ks h hn;obtain⟨n,rfl⟩:∃k,n=k+1:=⟨n-1,by omega⟩;rw[El,O1];simp only[aN,aB,Dr (show m<=i by omega),cond_false,s7];rw[show i=m by omega]
 |succ d ih=>
  intro i n ks h hn;obtain⟨n,rfl⟩:∃k,n=k+1:=⟨n-1,by omega⟩;rw[El,O1];simp only[aN,aB,Dn (show i<m by omega),cond_true,Az (show i<m by omega) hl,s7];rw[Bbd ks _ (i:Int) (λa' b'=>El L m y a b c d' e P x H W I n ((i+1:Nat):Int) a' b')];exact ih (i+1) n _ (by omega) (by omega)
theorem Bpj(L:Nat)(m:Nat)(y:Ap)(a b:Int)(c d' e:Nat)(P H W I:List Int)(x:Ap)(hl:m<=maxLen):∀(d i n:Nat) (ks:List Ah),i+d=m->d<n->
  Em L m y a b c d' e P H W I x n (i:Int) ks (tr ks)=some (0,((m:Int),s7 x.bI i d ks,tr (s7 x.bI i d ks))):=by
 intro d
 induction d with
 |zero=>
  intro i n ks h hn;obtain⟨n,rfl⟩:∃k,n=k+1:=⟨n-1,by omega⟩;rw[Em,O2];simp only[aN,aB,Dr (show m<=i by omega),cond_false,s7];rw[show i=m by omega]
 |succ d ih=>
  intro i n ks h hn;obtain⟨n,rfl⟩:∃k,n=k+1:=⟨n-1,by omega⟩;rw[Em,O2];simp only[aN,aB,Dn (show i<m by omega),cond_true,Az (show i<m by omega) hl,s7];rw[Bbd ks _ (i:Int) (λa' b'=>Em L m y a b c d' e P H W I x n ((i+1:Nat):Int) a' b')];exact ih (i+1) n _ (by omega) (by omega)
def Atn(s t:Int)(x:Ap):Bool:=x.bT == s && decide (x.Time<=t)
def Va(m:Nat)(l:List Int)(ix d:Int):List Int:=if 0<=ix/\ix<(m:Int)then l.set (Int.toNat ix) (Bs (l.getD (Int.toNat ix) default+d))else l
structure Dim where
 r:Nat
 h:Nat
 i:Nat
def Mj(p:Ac)(s:Int):Dim:=⟨(D4 p s).aD.length,(D4 p s).aL.aG.length,(D4 p s).aL.aM.length⟩
def Vy(n:Int):Bool:=decide (1<=n) && decide (n<=1000)
structure Pic where
 ks:List Ah
 P:List Int
 H:List Int
 I:List Int
def Aho(m:Dim)(x:Ap)(v:Pic):Pic:=
 if x.aO=1 then { v with P:=Va m.r v.P x.aI 1 }
 else if x.aO=2 then { v with ks:=s7 x.bI 0 m.h v.ks,P:=Va m.r v.P x.aI (-1) }
 else if x.aO=8 then { v with I:=Va m.i v.I x.aI 1 }
 else if x.aO=9 then { v with I:=Va m.i v.I x.aI (-1) }
 else if 0<=x.aI/\x.aI<(m.h:Int) then
  if x.aO=5 then { v with ks:=Atl v.ks x.bI x.aI }
  else if Vy x.Value=false then v
  else if x.aO=4 then { v with ks:=Aux v.ks x.bI x.aI,H:=Va m.h v.H x.aI x.Value }
  else if x.aO=6 then { v with H:=Va m.h v.H x.aI (Bs (0-x.Value)) }
  else if x.aO=7 then { v with ks:=Atl v.ks x.bI x.aI,H:=Va m.h v.H x.aI (Bs (0-x.Value)) }
  else v
 else v
def Aco(m:Dim)(s t:Int):List Ap->Pic->Pic
 | [],v=>v
 |x::k,v=>Aco m s t k (bif Atn s t x then Aho m x v else v)
def A4u(h:Nat)(x:Ap)(ks:List Ah)(H:List Int):List Ah×List Int:=
 if 0<=x.aI/\x.aI<(h:Int) then
  if x.aO=5 then(Atl ks x.bI x.aI,H)
  else if Vy x.Value=false then(ks,H)
  else if x.aO=4 then(Aux ks x.bI x.aI,Va h H x.aI x.Value)
  else if x.aO=6 then(ks,Va h H x.aI (Bs (0-x.Value)))
  else if x.aO=7 then(Atl ks x.bI x.aI,Va h H x.aI (Bs (0-x.Value)))
  else(ks,H)
 else(ks,H)
theorem Bmc(L:Nat)(x y z:Ap)(ks:List Ah)(s t:Int)(r nh h2 i:Nat)(P H W I:List Int):
  Gm L x y ks (tr ks) t s r nh h2 i P H W I z=some ((A4u nh x ks H).1,tr (A4u nh x ks H).1,(A4u nh x ks H).2):=by
 simp only[Gm,Vp,aN,aB];unfold A4u Va;by_cases hin:0<=x.aI/\x.aI<(nh:Int)
 ·have a1:(0<=x.aI)=True:=eq_true hin.1;have a2:(x.aI<(nh:Int))=True:=eq_true hin.2;have a3:(x.aI<0)=False:=eq_false (by omega);have a4:(x.aI>=(nh:Int))=False:=eq_false (by omega);have a5:(x.aI>=0)=True:=eq_true (by omega);simp only[a1,a2,a3,a4,a5,and_self,if_true,decide_true,decide_false,Bool.and_self,cond_true,cond_false];have ub:Vy x.Value=(!decide (x.Value<1) && !decide (x.Value>1000)):=by
   unfold Vy;rw[Bool.eq_iff_iff];simp only[Bool.and_eq_true,decide_eq_true_eq,Bool.not_eq_true',decide_eq_false_iff_not];omega
  rw[ub];by_cases w5:x.aO=5
  ·simp only[w5,show((5:Int) == 4)=false from rfl,show((5:Int) == 6)=false from rfl,show((5:Int) == 7)=false from rfl,show((5:Int) == 5)=true from rfl,show((5:Int) != 5)=false from rfl,cond_true,cond_false,if_true];exact Bj5 ks x.bI x.aI λa b=>some (a,b,H)
  ·have n5:(x.aO == 5)=false:=beq_eq_false_iff_ne.2 w5;have n5':(x.aO != 5)=true:=bne_iff_ne.2 w5;simp only[n5,n5',w5,cond_true,cond_false,if_false];cases hv1:decide (x.Value<1) with
   |true=>simp only[Bool.not_true,Bool.false_and,cond_true,if_true]
   |false=>
    cases hv2:decide (x.Value>1000) with
    |true=>simp only[Bool.not_true,Bool.not_false,Bool.and_false,cond_true,cond_false,if_true]
    |false=>
     simp only[Bool.not_false,Bool.and_self,cond_false,Bool.true_eq_false,if_false];by_cases w4:x.aO=4
     ·simp only[w4,show((4:Int) == 4)=true from rfl,cond_true,if_true];exact Bbd ks x.bI x.aI λa b=>some (a,b,H.set (Int.toNat x.aI) (Bs (H.getD (Int.toNat x.aI) default+x.Value)))
     ·have n4:(x.aO == 4)=false:=beq_eq_false_iff_ne.2 w4;by_cases w6:x.aO=6
      ·simp only[w6,show((6:Int) == 4)=false from rfl,show((6:Int) == 6)=true from rfl,show((6:Int)=4)=False from by simp,cond_true,cond_false,if_true,if_false]
      ·have n6:(x.aO == 6)=false:=beq_eq_false_iff_ne.2 w6;by_cases w7:x.aO=7
       ·simp only[w7,show((7:Int) == 4)=false from rfl,show((7:Int) == 6)=false from rfl,show((7:Int) == 7)=true from rfl,show((7:Int)=4)=False from by simp,show((7:Int)=6)=False from by simp,cond_true,cond_false,if_true,if_false];exact Bj5 ks x.bI x.aI λa b=>some (a,b,H.set (Int.toNat x.aI) (Bs (H.getD (Int.toNat x.aI) default+Bs (0-x.Value))))
       ·have n7:(x.aO == 7)=false:=beq_eq_false_iff_ne.2 w7;simp only[n4,n6,n7,w4,w6,w7,cond_false,if_false]
 ·have hor:decide (x.aI<0)=true\/decide (x.aI>=(nh:Int))=true:=by
   by_cases h:x.aI<0
   ·exact .inl (decide_eq_true h)
   ·exact .inr (decide_eq_true (by omega))
  rw[if_neg hin];rcases hor with h|h
  ·simp only[h,cond_true]
  ·simp only[h,cond_true];cases decide (x.aI<0)<;>rfl
theorem Bpn(L:Nat)(x y:Ap)(s t:Int)(m:Dim)(v:Pic)(W:List Int)(hm:m.h<=maxLen)(hL:m.h<L):
  H1 L x y v.ks (tr v.ks) t s m.r m.h m.h m.i v.P v.H W v.I=some ((Aho m x v).ks,tr (Aho m x v).ks,(Aho m x v).P,(Aho m x v).H,(Aho m x v).I):=by
 have h2:El L m.h y t s m.r m.h m.i v.P x v.H W v.I L 0 v.ks (tr v.ks)=_:=Bpi L m.h y t s m.r m.h m.i v.P x v.H W v.I hm _ 0 L v.ks (Nat.zero_add _) hL;have h3:Em L m.h y t s m.r m.h m.i v.P v.H W v.I x L 0 v.ks (tr v.ks)=_:=Bpj L m.h y t s m.r m.h m.i v.P v.H W v.I x hm _ 0 L v.ks (Nat.zero_add _) hL;simp only[H1,Af0,Pz,O8,O9,Ph,Ny,Nz,N0,Pz,O8,O9,Ph,Ny,Nz,N0,aN,aB,h2,h3,Bmc,Co,H4];obtain⟨ks,P,H,I⟩:=v;unfold Aho A4u Va;simp only;by_cases w1:x.aO=1
 ·simp only[w1,show((1:Int) == 1)=true from rfl,cond_true,if_true];by_cases a1:0<=x.aI<;>by_cases a2:x.aI<(m.r:Int)<;>simp only[ge_iff_le,a1,a2,decide_true,decide_false,cond_true,cond_false,if_true,if_false,and_self,and_false,false_and,true_and]
 by_cases w2:x.aO=2
 ·simp only[w2,show((2:Int) == 1)=false from rfl,show((2:Int) == 2)=true from rfl,show((2:Int)=1)=False from by simp,cond_true,cond_false,if_true,if_false];by_cases a1:0<=x.aI<;>by_cases a2:x.aI<(m.r:Int)<;>simp only[ge_iff_le,a1,a2,decide_true,decide_false,cond_true,cond_false,if_true,if_false,and_self,and_false,false_and,true_and]
 by_cases w8:x.aO=8
 ·simp only[w8,show((8:Int) == 1)=false from rfl,show((8:Int) == 2)=false from rfl,show((8:Int) == 8)=true from rfl,show((8:Int)=1)=False from by simp,show((8:Int)=2)=False from by simp,cond_true,cond_false,if_true,if_false];by_cases a1:0<=x.aI<;>by_cases a2:x.aI<(m.i:Int)<;>simp only[ge_iff_le,a1,a2,decide_true,decide_false,cond_true,cond_false,if_true,if_false,and_self,and_false,false_and,true_and]
 by_cases w9:x.aO=9
 ·simp only[w9,show((9:Int) == 1)=false from rfl,show((9:Int) == 2)=false from rfl,show((9:Int) == 8)=false from rfl,show((9:Int) == 9)=true from rfl,show((9:Int)=1)=False from by simp,show((9:Int)=2)=False from by simp,show((9:Int)=8)=False from by simp,cond_true,cond_false,if_true,if_false];by_cases a1:0<=x.aI<;>by_cases a2:x.aI<(m.i:Int)<;>simp only[ge_iff_le,a1,a2,decide_true,decide_false,cond_true,cond_false,if_true,if_false,and_self,and_false,false_and,true_and]
 have n1:(x.aO == 1)=false:=beq_eq_false_iff_ne.2 w1;have n2:(x.aO == 2)=false:=beq_eq_false_iff_ne.2 w2;have n8:(x.aO == 8)=false:=beq_eq_false_iff_ne.2 w8;have n9:(x.aO == 9)=false:=beq_eq_false_iff_ne.2 w9;simp only[n1,n2,n8,n9,w1,w2,w8,w9,cond_false,if_false];by_cases hin:0<=x.aI/\x.aI<(m.h:Int)
 ·simp only[if_pos hin];by_cases w4:x.aO=4
  ·simp only[w4,show((4:Int) == 4)=true from rfl,show((4:Int)=5)=False from by simp,cond_true,if_true,if_false];cases Vy x.Value<;>rfl
  by_cases w6:x.aO=6
  ·simp only[w6,show((6:Int) == 4)=false from rfl,show((6:Int) == 6)=true from rfl,show((6:Int)=5)=False from by simp,show((6:Int)=4)=False from by simp,cond_true,cond_false,if_true,if_false];cases Vy x.Value<;>rfl
  by_cases w7:x.aO=7
  ·simp only[w7,show((7:Int) == 4)=false from rfl,show((7:Int) == 6)=false from rfl,show((7:Int) == 7)=true from rfl,show((7:Int)=5)=False from by simp,show((7:Int)=4)=False from by simp,show((7:Int)=6)=False from by simp,cond_true,cond_false,if_true,if_false];cases Vy x.Value<;>rfl
  by_cases w5:x.aO=5
  ·simp only[w5,show((5:Int) == 4)=false from rfl,show((5:Int) == 6)=false from rfl,show((5:Int) == 7)=false from rfl,show((5:Int) == 5)=true from rfl,cond_true,cond_false,if_true]
  ·have n4:(x.aO == 4)=false:=beq_eq_false_iff_ne.2 w4;have n5:(x.aO == 5)=false:=beq_eq_false_iff_ne.2 w5;have n6:(x.aO == 6)=false:=beq_eq_false_iff_ne.2 w6;have n7:(x.aO == 7)=false:=beq_eq_false_iff_ne.2 w7;simp only[n4,n5,n6,n7,w4,w5,w6,w7,cond_false,if_false];cases Vy x.Value<;>rfl
 ·simp only[if_neg hin];cases (x.aO == 4)<;>cases (x.aO == 6)<;>cases (x.aO == 7)<;>cases (x.aO == 5)<;>rfl
theorem Bmk(L:Nat)(s t:Int)(l:List Ap)(p:Ac)(hm:(D4 p s).aL.aG.length<=maxLen)(hL:(D4 p s).aL.aG.length<L):∀(k:List Ap) (i:Nat) (v:Pic),l.drop i=k->
  D1 L s t l p k i v.ks (tr v.ks) v.P v.H v.I=some (0,(((i+k.length:Nat):Int),(Aco (Mj p s) s t k v).ks,tr (Aco (Mj p s) s t k v).ks,(Aco (Mj p s) s t k v).P,(Aco (Mj p s) s t k v).H,(Aco (Mj p s) s t k v).I)):=by
 intro k
 induction k with
 |nil=>intro i v _;rfl
 |cons x k ih=>
  intro i v hd;obtain⟨_,hx,hd'⟩:=I8 hd;rw[D1,Aco,List.length_cons,show i+(k.length+1)=i+1+k.length by omega];have e1:(bif x.bT == s then decide (x.Time<=t)else false)=Atn s t x:=by unfold Atn;rw[Du]
  show(bif (bif x.bT == s then decide (x.Time<=t)else false)then _ else _)=_
  rw[e1];cases Atn s t x with
  |false=>exact ih (i+1) v hd'
  |true=>
   have:=Bpn L x x s t (Mj p s) v (List.replicate (Mj p s).h 0) hm hL;simp only[cond_true,toN];rw[show H1 L x x v.ks (tr v.ks) t s ((p.aA.getD (Int.toNat s) default).aD.length) ((p.aA.getD (Int.toNat s) default).aL.aG.length) ((p.aA.getD (Int.toNat s) default).aL.aG.length) ((p.aA.getD (Int.toNat s) default).aL.aM.length) v.P v.H (List.replicate ((p.aA.getD (Int.toNat s) default).aL.aG.length) 0) v.I=_ from this,Co];exact ih (i+1) (Aho (Mj p s) x v) hd'
def A67(m:Nat)(ks:List Ah):List Int:=ks.foldl (λv c=>Awn c.aK (m:Int) v) (List.replicate m 0)
theorem Bhl{α β :Type} [Inhabited α](l:List α)(g: α->β->β)(F:Nat->β->Option β)(hF:∀i v,F i v=some (g (l.getD i default) v)):∀(k:List α) (i:Nat) (v: β),l.drop i=k->Ai7 F (List.range' i k.length) v=some (k.foldl (λv c=>g c v) v):=by
 intro k
 induction k with
 |nil=>intro i v _;rfl
 |cons x k ih=>
  intro i v hd;obtain⟨_,hx,hd'⟩:=I8 hd;rw[List.length_cons,List.range'_succ,Ai7,hF,hx,Co,ih (i+1) _ hd'];rfl
def Atk(m:Dim):Pic:=⟨[],List.replicate m.r 0,List.replicate m.h 0,List.replicate m.i 0⟩
def Awv(s t:Int)(m:Dim)(v:Pic):Ao:=⟨t,s,v.P,v.H,A67 m.h v.ks,v.I⟩
def A74(p:Ac)(l:List Ap)(s t:Int):Ao:=Awv s t (Mj p s) (Aco (Mj p s) s t l (Atk (Mj p s)))
def A85(m:Dim)(n:Nat):Prop:=m.r<=n/\m.h<=n/\m.i<=n
theorem Bjx(ks:List Ah)(a b:Int):(Aux ks a b).length<=ks.length:=by
 unfold Aux;split
 ·rw[List.length_append,List.length_take,List.length_drop];omega
 ·exact Nat.le_refl _
theorem Bw1(ks:List Ah)(a b:Int):(Atl ks a b).length<=ks.length+1:=by
 unfold Atl;split
 ·omega
 ·rw[List.length_append];simp
theorem Bdy(a:Int):∀(d i:Nat) (ks:List Ah),(s7 a i d ks).length<=ks.length
 |0,i,ks=>Nat.le_refl _
 |d+1,i,ks=>by rw[s7];exact Nat.le_trans (Bdy a d (i+1) _) (Bjx ks a _)
theorem Byl(m:Dim)(x:Ap)(v:Pic):(Aho m x v).ks.length<=v.ks.length+1:=by
 unfold Aho;have h1:=Bdy x.bI m.h 0 v.ks;have h2:=Bw1 v.ks x.bI x.aI;have h3:=Bjx v.ks x.bI x.aI
 repeat' split
 all_goals first|omega|(simp only;omega)
theorem Bko(m:Dim)(s t:Int):∀(k:List Ap) (v:Pic),(Aco m s t k v).ks.length<=v.ks.length+k.length
 | [],v=>Nat.le_refl _
 |x::k,v=>by
  rw[Aco];have h1:=Bko m s t k (bif Atn s t x then Aho m x v else v);have h2:(bif Atn s t x then Aho m x v else v).ks.length<=v.ks.length+1:=by
   cases Atn s t x with
   |true=>exact Byl m x v
   |false=>show v.ks.length<=_;omega
  rw[List.length_cons];omega
theorem A4r(m:Nat)(l:List Int)(a d:Int):(Va m l a d).length=l.length:=by
 unfold Va;split
 ·rw[List.length_set]
 ·rfl
structure Bam (m:Dim) (v:Pic):Prop where
 p:v.P.length=m.r
 h:v.H.length=m.h
 i:v.I.length=m.i
theorem Bqi(m:Dim)(x:Ap)(v:Pic)(h:Bam m v):Bam m (Aho m x v):=by
 obtain⟨h1,h2,h3⟩:=h;unfold Aho
 repeat' split
 all_goals exact⟨by simp only[A4r,h1],by simp only[A4r,h2],by simp only[A4r,h3]⟩
theorem Bfl(m:Dim)(s t:Int):∀(k:List Ap) (v:Pic),Bam m v->Bam m (Aco m s t k v)
 | [],v,h=>h
 |x::k,v,h=>by
  rw[Aco];refine Bfl m s t k _ ?_;cases Atn s t x with
  |true=>exact Bqi m x v h
  |false=>exact h
theorem Bqt(m:Nat)(ks:List Ah):(A67 m ks).length=m:=by
 unfold A67;have:∀(ks:List Ah) (v:List Int),(ks.foldl (λv c=>Awn c.aK (m:Int) v) v).length=v.length:=by
  intro ks
  induction ks with
  |nil=>intro v;rfl
  |cons c ks ih=>intro v;rw[List.foldl_cons,ih];unfold Awn;split<;>simp
 rw[this,List.length_replicate]
theorem Bkn(p:Ac)(l:List Ap)(s t:Int)(n:Nat)(h:A85 (Mj p s) n):A0f (A74 p l s t) n:=by
 have h1:=Bfl (Mj p s) s t l (Atk (Mj p s)) ⟨by simp[Atk],by simp[Atk],by simp[Atk]⟩;obtain⟨a,b,c⟩:=h;refine⟨?_,?_,?_,?_⟩
 ·show(Aco _ s t l _).P.length<=n;rw[h1.p];exact a
 ·show(Aco _ s t l _).H.length<=n;rw[h1.h];exact b
 ·show(A67 _ _).length<=n;rw[Bqt];exact b
 ·show(Aco _ s t l _).I.length<=n;rw[h1.i];exact c
theorem Ajk(L:Nat)(p:Ac)(l:List Ap)(s t:Int)(hs:inP p s)(hd:A85 (Mj p s) 1048576)(hl:l.length<=1048576)(hL:maxLen<L):Ic L p l s t=some (A74 p l s t):=by
 obtain⟨d1,d2,d3⟩:=hd;have d1:(D4 p s).aD.length<=1048576:=d1;have d2:(D4 p s).aL.aG.length<=1048576:=d2;have d3:(D4 p s).aL.aM.length<=1048576:=d3;have hmx:1048577<maxLen:=by unfold maxLen;omega
 have hq:D1 L s t l p l 0 [] [] (List.replicate (D4 p s).aD.length 0) (List.replicate (D4 p s).aL.aG.length 0) (List.replicate (D4 p s).aL.aM.length 0)=_:=
  Bmk L s t l p (by omega) (by omega) l 0 (Atk (Mj p s)) rfl
 have hk:=Bko (Mj p s) s t l (Atk (Mj p s));unfold Ic Akf;simp only[T1,Acq,T2,Tz,aN,aB,show p.aA.getD (Int.toNat s) default=D4 p s from rfl,toN];rw[if_pos hs.1,if_pos hs.2]
 repeat rw[if_pos (by omega)]
 rw[Aqn L s t l p L (by omega) (by omega),hq,Co,H4];generalize hv:Aco (Mj p s) s t l (Atk (Mj p s))=v;rw[hv]at hk;have hk':v.ks.length<=1048576:=by
  have:(Atk (Mj p s)).ks.length=0:=rfl;omega
 unfold Vu;simp only;rw[if_pos (show v.ks.length<L by omega)];have hf:=Bhl v.ks (λc w=>Awn c.aK ((D4 p s).aL.aG.length:Int) w) (λi0 w=>(Dk L (0,(((0+l.length:Nat):Int),v.ks,tr v.ks,v.P,v.H,v.I)) t s p i0 w:Option (List Int))) (λi w=>by
  rw[Bpu];simp only[show gD p.aA s=D4 p s from rfl,show p.aA.getD (Int.toNat s) default=D4 p s from rfl,toN]) v.ks 0 (List.replicate (D4 p s).aL.aG.length 0) rfl
 rw[List.range_eq_range',hf,Co];unfold A74 Awv;rw[hv];rfl
def Bzy:Ao:=⟨0,0,[],[],[],[]⟩
def A7f(p:Ac)(s t:Int):Bool:=decide (s<0) || decide (s>=(p.aA.length:Int)) || decide (t<0) || decide (t>1000000000)
theorem Asl(L:Nat)(p:Ac)(s t:Int):P5 L p s t=some (A7f p s t):=by
 simp only[Alh,P5,aN,aB,A7f,Hu]
def atF(p:Ac)(l:List Ap)(s t:Int):Ao×Int:=if Acp Hv p≠0 then(Bzy,Acp Hv p)else bif A7f p s t then(Bzy,2) else(A74 p l s t,0)
theorem PG.dim{p:Ac}(h:PG p){s:Int}(hs:inP p s):A85 (Mj p s) 1048576:=by
 have hm:D4 p s∈p.aA:=by
  unfold D4;have hl:Int.toNat s<p.aA.length:=by have:=hs.1;have:=hs.2;omega
  rw[Kj _ _ hl];exact List.getElem_mem hl
 obtain⟨hM,_,_⟩:=h.site _ hm;have hS:SG (D4 p s).aL:=hM.site _ (by show _∈ [(D4 p s).aL];simp);have hb:=h.bk;have h1:=Ya (g:=Ey) hm;have h2:Ey (D4 p s)<=1048576:=by unfold Rj at hb;omega
 have hr:=A0o (g:=Sb) (λx=>by unfold Sb;omega) (D4 p s).aD;unfold Ey at h2;have hln:Ajj (D4 p s).aL (Dm (D4 p s).aL):=A5f _;refine⟨by show(D4 p s).aD.length<=_;omega,?_,?_⟩
 ·have:=hln.2.1;show(D4 p s).aL.aG.length<=_;omega
 ·have:=hln.2.2.1;show(D4 p s).aL.aM.length<=_;omega
theorem A28{p:Ac}{s t:Int}(h:A7f p s t=false):inP p s/\0<=t/\t<=1000000000:=by
 simp only[A7f,Bool.or_eq_false_iff,decide_eq_false_iff_not]at h;exact⟨⟨by omega,by omega⟩,by omega,by omega⟩
theorem A7r(L:Nat)(p:Ac)(l:List Ap)(s t:Int)(h:PG p)(hl:l.length<=1048576)(hL:Ko<=L):Oo L p l s t=some (atF p l s t):=by
 have e1:Sj L ⟨p.aF,p.aA,p.aH⟩=_:=At6 L p h hL;have e2:P5 L ⟨p.aF,p.aA,p.aH⟩ s t=_:=Asl L p s t;simp only[Aou,Oo,aN,aB,e1,e2,Co,atF];by_cases h0:Acp Hv p=0
 ·rw[h0,if_neg (by simp)];simp only[bne_self_eq_false,cond_false];cases hb:A7f p s t with
  |true=>rfl
  |false=>
   obtain⟨hs,_⟩:=A28 hb;rw[cond_false,show Ic L ⟨p.aF,p.aA,p.aH⟩ l s t=_ from Ajk L p l s t hs (h.dim hs) hl (Hk hL)];rfl
 ·rw[if_pos h0,Xv h0];rfl
def Abm(p:Ac)(l:List Ap)(s f d:Int):Nat->List Ao
 |0=> []
 |n+1=>Abm p l s f d n++ [A74 p l s (f+(n:Int)*d)]
theorem Apx(p:Ac)(l:List Ap)(s f d:Int):∀n,(Abm p l s f d n).length=n
 |0=>rfl
 |n+1=>by rw[Abm,List.length_append,Apx p l s f d n];rfl
theorem Bl5(L:Nat)(p:Ac)(l:List Ap)(s f d n:Int)(m:Nat)(hn:n=(m:Int))(hm:m<=1000)(hs:inP p s)(hD:A85 (Mj p s) 1048576)(hl:l.length<=1048576)(hL:maxLen<L)(hf:0<=f/\f<=1000000000)(hd:1<=d/\d<=1000000000):
  ∀(r i k:Nat),i+r=m->r<k->Hh L l s f d n p k (Abm p l s f d i) (i:Int)=some (0,(Abm p l s f d m,(m:Int))):=by
 intro r
 induction r with
 |zero=>
  intro i k h hk;obtain⟨k,rfl⟩:∃j,k=j+1:=⟨k-1,by omega⟩;rw[Hh,Qx];simp only[aN,aB,hn,Dr (show m<=i by omega),cond_false];rw[show i=m by omega]
 |succ r ih=>
  intro i k h hk;obtain⟨k,rfl⟩:∃j,k=j+1:=⟨k-1,by omega⟩;have hi:i<m:=by omega
  have hid:0<=(i:Int)*d/\(i:Int)*d<=1000*1000000000:=by
   refine⟨Int.mul_nonneg (by omega) (by omega),?_⟩;exact Int.mul_le_mul (by omega) hd.2 (by omega) (by omega)
  rw[Hh,Qx];simp only[aN,aB,hn,Dn hi,cond_true];rw[H7 (n:=(i:Int)*d) (by omega) (by omega),H7 (n:=f+(i:Int)*d) (by omega) (by omega)];rw[show Ic L ⟨p.aF,p.aA,p.aH⟩ l s (f+(i:Int)*d)=_ from Ajk L p l s _ hs hD hl hL,Co,Apx];rw[if_pos (by simp;omega),if_pos (by simp;unfold maxLen;omega),Az (n:=m) hi (by unfold maxLen;omega)];have:=ih (i+1) k (by omega) (by omega);rw[Abm]at this;rw[show n=(m:Int)from hn]at this;exact this
def Bdp(p:Ac)(s f d n:Int):Bool:=A7f p s f || decide (d<1) || decide (d>1000000000) || decide (n<0) || decide (n>1000) || decide (Bs (f+Bs (Bs (n-1)*d))>1000000000)
def Apf(p:Ac)(l:List Ap)(s f d n:Int):List Ao×Int:=if Acp Hv p≠0 then([],Acp Hv p)else bif Bdp p s f d n then([],2) else(Abm p l s f d n.toNat,0)
theorem Bau{p:Ac}{s f d n:Int}(h:Bdp p s f d n=false):inP p s/\(0<=f/\f<=1000000000)/\(1<=d/\d<=1000000000)/\(0<=n/\n<=1000)/\f+(n-1)*d<=1000000000:=by
 simp only[Bdp,Bool.or_eq_false_iff,decide_eq_false_iff_not]at h;obtain⟨⟨⟨⟨⟨h1,h2⟩,h3⟩,h4⟩,h5⟩,h6⟩:=h;obtain⟨hs,ht⟩:=A28 h1;have hd:1<=d/\d<=1000000000:=by omega
 have hn:0<=n/\n<=1000:=by omega
 have hm:(n-1)*d<=1000*1000000000:=by
  by_cases h:n=0
  ·subst h;omega
  ·exact Int.mul_le_mul (by omega) hd.2 (by omega) (by omega)
 have hm': -1000000000<=(n-1)*d:=by
  by_cases h:n=0
  ·subst h;omega
  ·have:=Int.mul_nonneg (show 0<=n-1 by omega) (show 0<=d by omega);omega
 rw[H7 (n:=n-1) (by omega) (by omega),H7 (n:=(n-1)*d) (by omega) (by omega),H7 (n:=f+(n-1)*d) (by omega) (by omega)]at h6;exact⟨hs,by omega,hd,hn,by omega⟩
theorem Axq(L:Nat)(p:Ac)(l:List Ap)(s f d n:Int)(h:PG p)(hl:l.length<=1048576)(hL:Ko<=L):Mi L p l s f d n=some (Apf p l s f d n):=by
 have e1:Sj L ⟨p.aF,p.aA,p.aH⟩=_:=At6 L p h hL;have e2:P5 L ⟨p.aF,p.aA,p.aH⟩ s f=_:=Asl L p s f;have hl':=Hk hL;have hbig:1048576<maxLen:=by unfold maxLen;omega
 simp only[Amo,Ra,Qz,Mi,Ra,Qz,aN,aB,e1,e2,Co,Apf];by_cases h0:Acp Hv p=0
 ·rw[h0,if_neg (by simp)];simp only[bne_self_eq_false,cond_false,Hu];show(bif Bdp p s f d n then _ else _)=_
  cases hb:Bdp p s f d n with
  |true=>rfl
  |false=>
   obtain⟨hs,hf,hd,hn,_⟩:=Bau hb;have:=Bl5 L p l s f d n n.toNat (by omega) (by omega) hs (h.dim hs) hl hl' hf hd n.toNat 0 L (by omega) (by omega);rw[cond_false,show Hh L l s f d n p L [] 0=_ from this,Co,H4];rfl
 ·rw[if_pos h0,Xv h0];rfl
theorem Bs3{c:Ie}(h:Aq2 c)(hb:Afv c<=1048576):PG c.P/\c.bQ.length<=1048576:=by
 unfold Afv at hb;have:=A0o (g:=Ai2) (λx=>by unfold Ai2;omega) c.bQ;exact⟨⟨h.1,by omega⟩,by omega⟩
theorem Bqn{α :Type} [Inhabited α]{lp:Nat->Int->Int->Option (Nat×(Int×Int))}{l:List α}{i:Nat}{p: α->Bool}{e:Int}
  (h1:∀n v (c:Nat),c<i->lp (n+1) v (c:Int)=bif p (l.getD c default)then some (0,(e,(c:Int)))else lp n v ((c+1:Nat):Int))
  (h0:∀n v,lp (n+1) v (i:Int)=some (1,(v,(i:Int))))(hi:i<=l.length):
  ∀(d c n:Nat) (v:Int),c+d=i->d<n->∃j,lp n v (c:Int)=some (bif ((l.take i).drop c).any p then(0,(e,j)) else(1,(v,j))):=by
 intro d
 induction d with
 |zero=>
  intro c n v hc hn;obtain⟨n,rfl⟩:∃k,n=k+1:=⟨n-1,by omega⟩;obtain rfl:c=i:=by omega
  exact⟨c,by rw[h0,List.drop_eq_nil_of_le (by rw[List.length_take];omega)];rfl⟩
 |succ d ih=>
  intro c n v hc hn;obtain⟨n,rfl⟩:∃k,n=k+1:=⟨n-1,by omega⟩;obtain⟨j,hj⟩:=ih (c+1) n v (by omega) (by omega);have hl:c<(l.take i).length:=by rw[List.length_take];omega
  rw[h1 n v c (by omega),List.drop_eq_getElem_cons hl,List.any_cons,List.getElem_take,Kj l c (by omega)];cases p l[c] with
  |true=>exact⟨c,rfl⟩
  |false=>exact⟨j,by rw[cond_false,Bool.false_or,hj]⟩
theorem Bbv(L:Nat)(k:List Ab)(hL:1<L):L3 L k []=some (decide (k.length=0)):=by
 obtain⟨L,rfl⟩:∃n,L=n+1:=⟨L-1,by omega⟩;show Aeg (Mv L) (L3 L) L k []=_
 unfold Aeg Atq Ad7;simp only[aN,aB];cases k with
 |nil=>
  rw[Aw5 _ _ L [] [] L (Nat.zero_le _) (show 0<L by omega)];rfl
 |cons x k=>
  have:(((x::k).length:Int) != (([]:List Ab).length:Int))=true:=Asf (by simp only[List.length_cons,List.length_nil];omega);rw[this];rfl
theorem Bbu(L:Nat)(e:Ab)(hL:2<L):Mv L e (.mk 0 ⟨#[]⟩ 0 [])=some (Agi e):=by
 obtain⟨L,rfl⟩:∃n,L=n+1:=⟨L-1,by omega⟩;show Aod (Mv L) (L3 L) L e _=_
 unfold Aod Auo;cases e with
 |mk a b c k=>
  simp only[aN,aB,Ab.cp_eq,Ab.Op,Ab.aF,Ab.N,Ab.aY,Ab.eta,Bbv L k (by omega),Iu,Hu,Co,Agi];by_cases h1:a=0
  ·by_cases h2:b=⟨#[]⟩
   ·by_cases h3:c=0
    ·simp[h1,h2,h3]
    ·simp[h1,h2,h3,Asf h3]
   ·simp[h1,h2]
  ·simp[Asf h1,h1]
def Apq:List Ct:=(Z2 0).getD []
theorem Apn(L:Nat):Z2 L=some Apq:=rfl
def frR(op:Int):Ct:=Apq.getD (Int.toNat op) default
theorem Avn:Apq.length=20:=rfl
def wS(w:Int):Yb:=
 if w=1 then⟨#[115,108,111,116]⟩else if w=2 then⟨#[118,97,114]⟩else if w=3 then⟨#[115,116,114,101,97,109]⟩else if w=4 then⟨#[105,110,115,116,114]⟩
 else if w=5 then⟨#[114,101,115,111,117,114,99,101]⟩else if w=6 then⟨#[115,116,111,114,101]⟩else if w=7 then⟨#[98,101,108,116]⟩else if w=8 then⟨#[113,117,101,117,101]⟩
 else if w=9 then⟨#[115,105,116,101]⟩else if w=10 then⟨#[114,111,117,116,105,110,101]⟩else if w=11 then⟨#[116,97,108,108,121]⟩else if w=12 then⟨#[108,101,118,101,108]⟩
 else if w=13 then⟨#[99,111,117,110,116]⟩ else⟨#[]⟩
theorem Bpp{op:Int}(h:Mz op=true):op=1\/op=2\/op=3\/op=4\/op=5\/op=6\/op=7\/op=8\/op=9\/op=10\/op=11\/op=12\/op=13\/op=14\/op=15\/op=16\/op=17\/op=18\/op=19:=by
 obtain⟨h1,h2⟩:=Ss.1 h;omega
theorem Bho{op:Int}(h:Mz op=true):frR op=⟨(frR op).Word,wS (P2 op).gB,wS (P2 op).gF,(P2 op).u_c,(P2 op).fI,(P2 op).fP,(P2 op).dV,(P2 op).dF,(P2 op).bR⟩:=by
 rcases Bpp h with rfl|rfl|rfl|rfl|rfl|rfl|rfl|rfl|rfl|rfl|rfl|rfl|rfl|rfl|rfl|rfl|rfl|rfl|rfl<;>rfl
theorem Byy{op:Int}(h:Mz op=true):decide (wS (P2 op).gB=⟨#[]⟩)=((P2 op).gB == 0):=by
 rcases Bpp h with rfl|rfl|rfl|rfl|rfl|rfl|rfl|rfl|rfl|rfl|rfl|rfl|rfl|rfl|rfl|rfl|rfl|rfl|rfl<;>rfl
theorem Byz{op:Int}(h:Mz op=true):decide (wS (P2 op).gF=⟨#[]⟩)=((P2 op).gF == 0):=by
 rcases Bpp h with rfl|rfl|rfl|rfl|rfl|rfl|rfl|rfl|rfl|rfl|rfl|rfl|rfl|rfl|rfl|rfl|rfl|rfl|rfl<;>rfl
theorem B8z{op:Int}(h:Mz op=true):(op == 3)=(P2 op).bR:=by
 rcases Bpp h with rfl|rfl|rfl|rfl|rfl|rfl|rfl|rfl|rfl|rfl|rfl|rfl|rfl|rfl|rfl|rfl|rfl|rfl|rfl<;>rfl
theorem B1v{op:Int}(h:Mz op=true):0<=(P2 op).gB/\(P2 op).gB<=13/\0<=(P2 op).gF/\(P2 op).gF<=13:=by
 rcases Bpp h with rfl|rfl|rfl|rfl|rfl|rfl|rfl|rfl|rfl|rfl|rfl|rfl|rfl|rfl|rfl|rfl|rfl|rfl|rfl<;>decide
theorem Axp(L:Nat)(op:Int):Afp L op=some (Mz op):=by
 simp only[Ark,Afp,aN,aB,Mz,Du,ge_iff_le]
theorem Bb7(L:Nat)(i:Ar)(hk:Mz i.Op=true)(hd:okD i.bF)(hL:maxLen<L):Afq L i=some (Ao7 i):=by
 obtain⟨h1,h2⟩:=Ss.1 hk;have hl:(2:Nat)<L:=by unfold maxLen at hL;omega
 have e0:decide ((i.aP.length:Int)>0)= !decide (i.aP.length=0):=by
  by_cases h:i.aP.length=0
  ·rw[h];rfl
  ·rw[decide_eq_false h,decide_eq_true (by omega)];rfl
 simp only[Abp,sx_R17_plain_2,Ajw,sx_R17_plain_0,A08,Afq,aN,aB,Ab.cp_eq,Apn,Bbu L _ hl,Akw L i.bF U9 hd hL,show(⟨0,0,0,0,[],[]⟩:Bk)=U9 from rfl,Co,e0];rw[if_pos (show(0:Int)<=i.Op by omega),if_pos (show i.Op<((Apq.length:Nat):Int) by rw[Avn];omega)];rw[show Apq.getD (Int.toNat i.Op) default=frR i.Op from rfl,Bho hk];simp only[Iu,Byy hk,Byz hk];show _=some (Ao7 i)
 unfold Ao7;rw[show((P2 i.Op).gB != 0)= !((P2 i.Op).gB == 0)from rfl,show((P2 i.Op).gF != 0)= !((P2 i.Op).gF == 0)from rfl,show(i.A != 0)= !(i.A == 0)from rfl,show(i.B != 0)= !(i.B == 0)from rfl,show(i.C != 0)= !(i.C == 0)from rfl];generalize ((P2 i.Op).gB == 0)=b1;generalize (i.A == 0)=b2;generalize ((P2 i.Op).gF == 0)=b3;generalize (i.B == 0)=b4;generalize ((P2 i.Op).u_c)=b5;generalize (i.C == 0)=b6;generalize ((P2 i.Op).fI)=b7;generalize Agi i.E=b8;generalize ((P2 i.Op).fP)=b9;generalize Agi i.F=b10;generalize ((P2 i.Op).dF)=b11;generalize decide (i.aP.length=0)=b12;generalize ((P2 i.Op).bR)=b13;generalize Ahl i.bF U9=b14;generalize ((P2 i.Op).dV)=b15;generalize i.bY=b16;have k1:∀a b:Bool,(bif a then !b else false)= !(!a || b):=by decide
 have k2:∀a b:Bool,(bif !a then !b else false)= !(a || b):=by decide
 have k3:∀a b:Bool,(bif !a then b else false)= !(a || !b):=by decide
 simp only[k1,k2,k3,Bool.not_not];generalize (!b1 || b2)=c1;generalize (!b3 || b4)=c2;generalize (b5 || b6)=c3;generalize (b15 || !b16)=c4;cases c1 with
 |false=>cases b7<;>cases b8<;>rfl
 |true=>
  cases c2 with
  |false=>cases b7<;>cases b8<;>rfl
  |true=>
   cases c3 with
   |false=>cases b7<;>cases b8<;>rfl
   |true=>
    cases c4 with
    |false=>cases b7<;>cases b8<;>cases b9<;>cases b10<;>cases b11<;>cases b12<;>cases b13<;>cases b14<;>rfl
    |true=>cases b7<;>cases b8<;>cases b9<;>cases b10<;>cases b11<;>cases b12<;>cases b13<;>cases b14<;>rfl
theorem Bb5(L:Nat)(p:Ac)(s:Int)(c:Aq)(hs:inP p s){w:Int}(h0:1<=w)(h1:w<=13)(h10:w≠10):Afo L p s c (wS w)=some (Aqc p s c w 0):=by
 simp only[Arj,Afo,aN,aB,Iu];rw[if_pos hs.1,if_pos hs.2];rcases(show w=1\/w=2\/w=3\/w=4\/w=5\/w=6\/w=7\/w=8\/w=9\/w=11\/w=12\/w=13 by omega)with rfl|rfl|rfl|rfl|rfl|rfl|rfl|rfl|rfl|rfl|rfl|rfl<;>rfl
theorem At5(L:Nat)(p:Ac)(s:Int)(c:Aq)(hs:inP p s){w:Int}(h0:0<=w)(h1:w<=13)(h10:w≠10)(hw:decide (wS w=⟨#[]⟩)=(w == 0))(n:Int):
  Si L p s c (wS w) n=some (Zv p s c w n 0 || w == 0):=by
 simp only[Aot,Si,aN,aB,Iu,hw];by_cases hz:w=0
 ·subst hz;simp
 ·have e:(w == 0)=false:=beq_eq_false_iff_ne.2 hz;rw[show Afo L ⟨p.aF,p.aA,p.aH⟩ s c (wS w)=_ from Bb5 L p s c hs (by omega) h1 h10,e];unfold Zv;by_cases hn:0<=n
  ·simp[hn]
  ·simp[hn]
theorem Axo(L:Nat)(p:Ac)(to:Int)(i:Ar)(hs:inP p to):Vh L p to i=some (Aym p to i):=by
 simp only[Ari,Vh,aN,aB,Hu];rw[if_pos hs.1,if_pos hs.2];show(bif decide (i.B<0) || decide (i.B>=((D4 p to).aD.length:Int))then some 2 else if(0:Int)<=i.B then(if i.B<(((D4 p to).aD.length:Nat):Int) then(bif (i.aP.length:Int) != ((D4 p to).aD.getD (Int.toNat i.B) default).aJ then some 8 else some 0)else none)else none)=_
 unfold Aym Zv;rw[Be2];by_cases h1:i.B<0
 ·rw[decide_eq_true h1,decide_eq_false (show¬0<=i.B by omega)];rfl
 ·rw[decide_eq_false h1,decide_eq_true (show 0<=i.B by omega)];by_cases h2:i.B<((D4 p to).aD.length:Int)
  ·rw[decide_eq_false (show¬i.B>=((D4 p to).aD.length:Int) by omega),decide_eq_true h2,if_pos (show(0:Int)<=i.B by omega),if_pos h2];show(bif !((i.aP.length:Int) == ((D4 p to).aD.getD (Int.toNat i.B) default).aJ)then some 8 else some 0)=_
   cases (i.aP.length:Int) == ((D4 p to).aD.getD (Int.toNat i.B) default).aJ<;>rfl
  ·rw[decide_eq_true (show i.B>=((D4 p to).aD.length:Int) by omega),decide_eq_false h2];rfl
theorem Bmj(L:Nat)(a b:Int)(p:Ac):∀(k:List Dt) (i:Nat) (v:Int) (w:Bool),p.aH.drop i=k->
  ∃j,Sy L a b p k i v w=some (match A11 k a b with|some d=>(0,(d,true,j))|none=>(1,(v,w,j))):=by
 intro k
 induction k with
 |nil=>intro i v w _;exact⟨i,rfl⟩
 |cons x k ih=>
  intro i v w h;obtain⟨hi,_,hk⟩:=I8 h;obtain⟨j,hj⟩:=ih (i+1) v w hk;rw[Sy,if_pos (show(0:Int)<=(i:Int) by omega),if_pos (show(i:Int)<((p.aH.length:Nat):Int) by omega)];have e:A11 (x::k) a b=if(x.aV == a && x.To == b)=true then some x.bU else A11 k a b:=by
   unfold A11;rw[List.find?_cons];cases (x.aV == a && x.To == b)<;>rfl
  rw[e];cases h1:x.aV == a with
  |false=>exact⟨j,hj⟩
  |true=>cases h2:x.To == b with
   |false=>exact⟨j,hj⟩
   |true=>exact⟨i,rfl⟩
theorem Bh8(L:Nat)(p:Ac)(a b:Int)(hl:p.aH.length<=maxLen)(hL:maxLen<L):Amn L p a b=some (match A11 p.aH a b with|some d=>(d,true)|none=>(0,false)):=by
 obtain⟨j,hj⟩:=Bmj L a b p p.aH 0 0 false rfl;simp only[A8w,Aic,Amn,Aic,aN,aB,A7l L a b p L hl (by omega),hj,Co];cases A11 p.aH a b<;>rfl
theorem A54(L:Nat)(p:Ac)(s:Int)(c:Aq)(i:Ar)(hs:inP p s)(hk:Mz i.Op=true)(hlk:p.aH.length<=maxLen)(hL:maxLen<L):Xz L p s c i=some (Bl9 p s c i):=by
 obtain⟨h1,h2⟩:=Ss.1 hk;obtain⟨ha0,ha1,hb0,hb1⟩:=B1v hk;simp only[Alg,Xz,aN,aB,Ab.cp_eq,Apn,Co];rw[if_pos (show(0:Int)<=i.Op by omega),if_pos (show i.Op<((Apq.length:Nat):Int) by rw[Avn];omega)];rw[show Apq.getD (Int.toNat i.Op) default=frR i.Op from rfl,Bho hk];rw[show Si L ⟨p.aF,p.aA,p.aH⟩ s c (wS (P2 i.Op).gB) i.A=_ from At5 L p s c hs ha0 ha1 (By0 hk) (Byy hk) i.A,Co];unfold Bl9;generalize hga:(Zv p s c (P2 i.Op).gB i.A 0 || (P2 i.Op).gB == 0)=ga;cases ga with
 |false=>rfl
 |true=>
  simp only[Bool.not_true,cond_false,Bool.true_eq_false,if_false];by_cases h15:i.Op=15
  ·have e15:(i.Op == 15)=true:=beq_iff_eq.2 h15;rw[e15,cond_true,if_neg (show¬i.Op=14 by omega),if_pos h15];rw[show Vh L ⟨p.aF,p.aA,p.aH⟩ s ⟨i.Op,i.A,i.B,i.C,i.E,i.F,i.aP,i.bF,i.bY⟩=_ from Axo L p s i hs,Co]
  ·have e15:(i.Op == 15)=false:=beq_eq_false_iff_ne.2 h15;rw[e15,cond_false];by_cases h14:i.Op=14
   ·have hA:inP p i.A:=by
     have hfa:(P2 i.Op).gB=9:=by rw[h14];rfl
     rw[hfa]at hga;have hgt:Zv p s c 9 i.A 0=true:=by simpa using hga
     simp only[Zv,Bool.and_eq_true,decide_eq_true_eq]at hgt;exact hgt
    have e14:(i.Op == 14)=true:=beq_iff_eq.2 h14;rw[e14,cond_true,if_pos h14,show Amn L ⟨p.aF,p.aA,p.aH⟩ s i.A=_ from Bh8 L p s i.A hlk hL,Co];cases ha:A11 p.aH s i.A with
    |none=>rfl
    |some d=>
     by_cases hd:d=i.C
     ·have e7:(d != i.C)=false:=by rw[hd];simp
      simp only[Bool.not_true,cond_false,e7];rw[if_pos (show some d=some i.C by rw[hd])];rw[show Vh L ⟨p.aF,p.aA,p.aH⟩ i.A ⟨i.Op,i.A,i.B,i.C,i.E,i.F,i.aP,i.bF,i.bY⟩=_ from Axo L p i.A i hA,Co]
     ·have e7:(d != i.C)=true:=bne_iff_ne.2 hd;simp only[Bool.not_true,cond_false,e7,cond_true];rw[if_neg (λh=>hd (Option.some.inj h))]
   ·have e14:(i.Op == 14)=false:=beq_eq_false_iff_ne.2 h14;rw[e14,cond_false,if_neg h14,if_neg h15];rw[show Si L ⟨p.aF,p.aA,p.aH⟩ s c (wS (P2 i.Op).gF) i.B=_ from At5 L p s c hs hb0 hb1 (By1 hk h14 h15) (Byz hk) i.B,Co];generalize (Zv p s c (P2 i.Op).gF i.B 0 || (P2 i.Op).gF == 0)=gb;cases gb<;>rfl
theorem Bn0:∀ {k:List Ab},Ar3 true k=0->∀x∈k,Ar2 true x=0
 |y::k,h,x,hx=>by
  rw[Ar3]at h;split at h
  ·next h1=>exact absurd h h1
  ·next h1=>
   rcases List.mem_cons.1 hx with rfl|hx
   ·exact Decidable.not_not.1 h1
   ·exact Bn0 h x hx
theorem B37{e:Ab}(h:Axi true e=0)(ho:e.Op=22\/e.Op=23\/e.Op=24\/e.Op=25\/e.Op=26):0<=e.N:=by
 obtain⟨hi,hm⟩:∃hi,Azv true e.Op=some hi:=by rcases ho with h|h|h|h|h<;>rw[h]<;>exact⟨_,rfl⟩
 unfold Axi at h;rw[hm,if_neg (show¬e.Op=1 by omega)]at h;split at h
 ·exact absurd h (by decide)
 ·have h':(if e.N<0\/hi<e.N then(2:Int)else if Ah6 true e.Op then Jt e.aF else 0)=0:=h;split at h'
  ·exact absurd h' (by decide)
  ·omega
theorem Big(rec:Ac->Int->Aq->Ab->Option Bool)(L:Nat)(s:Int)(p:Ac)(c:Aq)(e:Ab):∀(k:List Ab) (i:Nat) (v:Bool),(∀y∈k,rec p s c y=some (Aju p s c y))->
  ∃n:Nat,Mg rec L s p c e k i v=some (bif Ahn p s c k then(1,(v,(n:Int))) else(0,(false,(n:Int)))):=by
 intro k
 induction k with
 |nil=>intro i v _;exact⟨i,by rw[Mg,Ahn];rfl⟩
 |cons y k ih=>
  intro i v h;obtain⟨n,hn⟩:=ih (i+1) v λz hz=>h z (by simp[hz]);rw[Mg,show rec ⟨p.aF,p.aA,p.aH⟩ s c y=_ from h y (by simp),Co,Ahn];cases Aju p s c y with
  |true=>exact⟨n,by rw[Bool.not_true,cond_false,hn,Bool.true_and]⟩
  |false=>exact⟨i,rfl⟩
theorem Bfh{e:Ab}(h:B1 e)(p:Ac)(s:Int)(c:Aq)(hs:inP p s):∀L,maxLen+dE e<L->Ar2 true e=0->I4 L p s c e=some (Aju p s c e):=by
 induction h with
 |mk a0 a1 a2 a3 h0 h1 h2 h3 h4 ih=>
  intro L hL hc;obtain⟨L,rfl⟩:∃k,L=k+1:=⟨L-1,by omega⟩;rw[dE]at hL;rw[Ar2]at hc;have hnd:Axi true (.mk a0 a1 a2 a3)=0/\Ar3 true a3=0:=by
   split at hc
   ·next hh=>exact absurd hc hh
   ·next hh=>exact⟨Decidable.not_not.1 hh,hc⟩
  have hr:∀y∈a3,I4 L p s c y=some (Aju p s c y):=λy hy=>ih y hy L (by have:=Akl hy;omega) (Bn0 hnd.2 y hy);obtain⟨n,hn⟩:=Big (I4 L) L s p c (.mk a0 a1 a2 a3) a3 0 false hr;have hN:a0=22\/a0=23\/a0=24\/a0=25\/a0=26->0<=a2:=λho=>B37 (e:=.mk a0 a1 a2 a3) hnd.1 ho;have hq0:Hn (I4 L) L s p c (.mk a0 a1 a2 a3) L false 0=some (bif Ahn p s c a3 then(1,(false,(n:Int))) else(0,(false,(n:Int)))):=by
   rw[<-hn];exact A5t (I4 L) L s p c (.mk a0 a1 a2 a3) L h3 (show a3.length<L by omega) false
  show Aoe (I4 L) L p s c _=_
  unfold Aoe A4d Ami;have eq:∀(a b:Int),(a == b)=decide (a=b):=λ_ _=>rfl;have hw:0<=a2->∀w,Zv p s c w a2 0=decide (a2<Aqc p s c w 0):=λh w=>by unfold Zv;rw[decide_eq_true h,Bool.true_and]
  simp only[Al3,Al4,Al5,Al6,aN,aB,Ab.cp_eq,Ab.Op,Ab.aF,Ab.N,Ab.aY,Ab.eta,hq0,Co,Aju,Bp1,eq];rw[if_pos hs.1,if_pos hs.2];generalize Ahn p s c a3=r;by_cases e1:a0=25
  ·subst e1;rw[hw (hN (by omega)) 1];show _=some (decide (a2<c.dD) && r)
   by_cases hq:a2<c.dD
   ·have hg:(a2>=c.dD)=False:=eq_false (by omega);simp only[hg,hq,decide_true,decide_false];cases r<;>rfl
   ·have hg:(a2>=c.dD)=True:=eq_true (by omega);simp only[hg,hq,decide_true,decide_false];cases r<;>rfl
  by_cases e2:a0=26
  ·subst e2;rw[hw (hN (by omega)) 2];show _=some (decide (a2<((p.aA.getD (Int.toNat s) default).aL.bX.length:Int)) && r)
   by_cases hq:a2<((p.aA.getD (Int.toNat s) default).aL.bX.length:Int)
   ·have hg:(a2>=((p.aA.getD (Int.toNat s) default).aL.bX.length:Int))=False:=eq_false (by omega);simp only[hg,hq,decide_true,decide_false];cases r<;>rfl
   ·have hg:(a2>=((p.aA.getD (Int.toNat s) default).aL.bX.length:Int))=True:=eq_true (by omega);simp only[hg,hq,decide_true,decide_false];cases r<;>rfl
  by_cases e3:a0=22
  ·subst e3;rw[hw (hN (by omega)) 5];show _=some (decide (a2<((p.aA.getD (Int.toNat s) default).aL.aG.length:Int)) && r)
   by_cases hq:a2<((p.aA.getD (Int.toNat s) default).aL.aG.length:Int)
   ·have hg:(a2>=((p.aA.getD (Int.toNat s) default).aL.aG.length:Int))=False:=eq_false (by omega);simp only[hg,hq,decide_true,decide_false];cases r<;>rfl
   ·have hg:(a2>=((p.aA.getD (Int.toNat s) default).aL.aG.length:Int))=True:=eq_true (by omega);simp only[hg,hq,decide_true,decide_false];cases r<;>rfl
  by_cases e4:a0=23
  ·subst e4;rw[hw (hN (by omega)) 6];show _=some (decide (a2<((p.aA.getD (Int.toNat s) default).aL.aM.length:Int)) && r)
   by_cases hq:a2<((p.aA.getD (Int.toNat s) default).aL.aM.length:Int)
   ·have hg:(a2>=((p.aA.getD (Int.toNat s) default).aL.aM.length:Int))=False:=eq_false (by omega);simp only[hg,hq,decide_true,decide_false];cases r<;>rfl
   ·have hg:(a2>=((p.aA.getD (Int.toNat s) default).aL.aM.length:Int))=True:=eq_true (by omega);simp only[hg,hq,decide_true,decide_false];cases r<;>rfl
  by_cases e5:a0=24
  ·subst e5;show _=some (decide (a2<Bs (((p.aA.getD (Int.toNat s) default).aL.aG.length:Int)+((p.aA.getD (Int.toNat s) default).aL.bJ.length:Int))) && r)
   by_cases hq:a2<Bs (((p.aA.getD (Int.toNat s) default).aL.aG.length:Int)+((p.aA.getD (Int.toNat s) default).aL.bJ.length:Int))
   ·have hg:(a2>=Bs (((p.aA.getD (Int.toNat s) default).aL.aG.length:Int)+((p.aA.getD (Int.toNat s) default).aL.bJ.length:Int)))=False:=eq_false (by omega);simp only[hg,hq,decide_true,decide_false];cases r<;>rfl
   ·have hg:(a2>=Bs (((p.aA.getD (Int.toNat s) default).aL.aG.length:Int)+((p.aA.getD (Int.toNat s) default).aL.bJ.length:Int)))=True:=eq_true (by omega);simp only[hg,hq,decide_true,decide_false];cases r<;>rfl
  ·simp only[e1,e2,e3,e4,e5,decide_false,cond_false,if_false,Bool.true_and];cases r<;>rfl
theorem Bb4(L:Nat)(i:Ar)(hk:Mz i.Op=true)(hl:i.aP.length<=1048576):Afn L i=some (Sq i):=by
 obtain⟨h1,h2⟩:=Ss.1 hk;simp only[Arh,Afn,aN,aB,Ab.cp_eq,Axp,Apn,hk,Co,Bool.not_true,cond_false];rw[if_pos (show(0:Int)<=i.Op by omega),if_pos (show i.Op<((Apq.length:Nat):Int) by rw[Avn];omega)];rw[show Apq.getD (Int.toNat i.Op) default=frR i.Op from rfl,Bho hk];unfold Sq;cases (P2 i.Op).fI<;>cases (P2 i.Op).fP<;>cases (P2 i.Op).dF<;>simp only[cond_true,cond_false,if_true,if_false,List.length_cons,List.length_nil,List.length_append,List.nil_append,List.append_nil,Bool.false_eq_true,List.cons_append]
 all_goals (unfold maxLen;repeat (first|rw[if_pos (by omega)]|rfl))
theorem Az1{e:Ab}(h:B1 e)(L:Nat)(hL:maxLen+dE e<L):Te L e=some (D5 true e):=by
 simp only[Agn,Te,aN,aB,Ab.cp_eq,Axm h true L hL,Co]
theorem Bg8{e:Ab}(h:D5 true e=0):Ar2 true e=0:=by
 unfold D5 at h;split at h
 ·exact absurd h (by decide)
 ·split at h
  ·exact absurd h (by decide)
  ·exact h
theorem Bfr(L:Nat)(s:Int)(l:List Ab)(p:Ac)(c:Aq)(i:Ar)(hs:inP p s):∀(k:List Ab) (j:Nat) (v w:Int),(∀e∈k,B1 e/\maxLen+dE e<L)->
  ∃m w',Kg L s l p c i k j v w=some (if Ri (Amw p s c) k=0 then(1,(v,w',m)) else(0,(Ri (Amw p s c) k,w',m))):=by
 intro k
 induction k with
 |nil=>intro j v w _;exact⟨j,w,rfl⟩
 |cons e k ih=>
  intro j v w h;obtain⟨h1,h2⟩:=h e (by simp);obtain⟨m,w',hm⟩:=ih (j+1) v 0 λy hy=>h y (by simp[hy]);rw[Kg,Az1 h1 L h2,Co,Ri];by_cases h0:D5 true e=0
  ·have hx:Amw p s c e=R6 (Aju p s c e) 2:=by unfold Amw;rw[h0,H8]
   rw[hx,h0];rw[show I4 L ⟨p.aF,p.aA,p.aH⟩ s c e=_ from Bfh h1 p s c hs L h2 (Bg8 h0),Co];cases Aju p s c e with
   |true=>
    rw[show R6 true 2=0 from rfl,H8];exact⟨m,w',hm⟩
   |false=>
    rw[show R6 false 2=2 from rfl,Gk (by decide)];exact⟨j,2,rfl⟩
  ·have hx:Amw p s c e=D5 true e:=by unfold Amw;rw[Gk h0]
   have hb:(D5 true e == 0)=false:=beq_eq_false_iff_ne.2 h0;rw[hx,Gk h0,hb,Xv h0];exact⟨j,D5 true e,by rw[if_neg h0];rfl⟩
theorem Bb6(L:Nat)(p:Ac)(s:Int)(c:Aq)(i:Ar)(hi:InG i)(hs:inP p s)(hlk:p.aH.length<=maxLen)(hL:Ko<=L):Z3 L p s c i=some (Ajd p s c i):=by
 have hl:=Hk hL;have hbig:maxLen+4194304<=L:=hL;unfold Z3 A07 Aj2;simp only[aN,aB,Ab.cp_eq,Axp,Co];unfold Ajd;cases hk:Mz i.Op with
 |false=>rfl
 |true=>
  have hc:Afq L ⟨i.Op,i.A,i.B,i.C,i.E,i.F,i.aP,i.bF,i.bY⟩=_:=Bb7 L i hk hi.dist hl;simp only[Bool.not_true,cond_false,hc,Co];cases hcl:Ao7 i with
  |false=>rfl
  |true=>
   simp only[Bool.not_true,cond_false,Bool.and_self,Bool.true_eq_false,if_false];rw[show Xz L ⟨p.aF,p.aA,p.aH⟩ s c ⟨i.Op,i.A,i.B,i.C,i.E,i.F,i.aP,i.bF,i.bY⟩=_ from A54 L p s c i hs hk hlk hl,Co];by_cases h0:Bl9 p s c i=0
   ·rw[h0,H8];simp only[bne_self_eq_false,cond_false];rw[show Afn L ⟨i.Op,i.A,i.B,i.C,i.E,i.F,i.aP,i.bF,i.bY⟩=_ from Bb4 L i hk hi.args,Co];have hle:=A43 hi;obtain⟨m,w',hm⟩:=Bfr L s (Sq i) p c i hs (Sq i) 0 0 0 (λe he=>⟨(hi.exprs e he).1,by have:=(hi.exprs e he).2;omega⟩);rw[A2r L s (Sq i) p c i L (by unfold maxLen;omega) (by omega),hm,Co];by_cases ha:Ri (Amw p s c) (Sq i)=0
    ·rw[if_pos ha,ha,H8];show(bif i.Op == 3 then(R8 L i.bF).bind λr=>some r else some 0)=_
     rw[B8z hk,Ah7 L i.bF hi.dist hl,Co];cases (P2 i.Op).bR<;>rfl
    ·rw[if_neg ha,Gk ha];rfl
   ·rw[Xv h0,cond_true,Gk h0]
theorem B09{α :Type}{f: α->Int}{lq:List α->Nat->Int->Int->Option (Nat×(Int×Int×Int))}{bd: α->Option Int}
  (hn:∀i v w,lq [] i v w=some (1,(v,w,(i:Int))))
  (hc:∀x k i v w,lq (x::k) i v w=(bd x).bind λo=>bif o != 0 then some (0,(o,o,(i:Int)))else lq k (i+1) v o):
  ∀(k:List α) (i:Nat) (v w:Int),(∀x∈k,bd x=some (f x))->∃j w',lq k i v w=some (if Ri f k=0 then(1,(v,w',j)) else(0,(Ri f k,w',j))):=by
 intro k
 induction k with
 |nil=>intro i v w _;exact⟨i,w,by rw[hn];rfl⟩
 |cons x k ih=>
  intro i v w h;rw[hc,h x (by simp),Co,Ri];by_cases h0:f x=0
  ·obtain⟨j,w',hj⟩:=ih (i+1) v 0 λy hy=>h y (by simp[hy]);rw[h0,H8];exact⟨j,w',hj⟩
  ·rw[Gk h0,Xv h0];exact⟨i,f x,by rw[if_neg h0];rfl⟩
theorem A8l(L:Nat)(c:Aq)(p:Ac)(s:Int)(hs:inP p s)(hlk:p.aH.length<=maxLen)(hL:Ko<=L)(k:List Ar)(hk:∀i∈k,InG i)(j:Nat)(v w:Int):
  ∃m w',Jo L s p c k j v w=some (if Ri (Ajd p s c) k=0 then(1,(v,w',m)) else(0,(Ri (Ajd p s c) k,w',m))):=
 B09 (lq:=Jo L s p c) (bd:=λi=>Z3 L p s c i) (λ_ _ _=>rfl) (λ_ _ _ _ _=>rfl) k j v w λi hi=>Bb6 L p s c i (hk i hi) hs hlk hL
theorem A53(L:Nat)(p:Ac)(s:Int)(c:Aq)(hc:CoG c)(hlk:p.aH.length<=maxLen)(hL:Ko<=L):Xy L p s c=some (Ar4 p s c):=by
 have hl:=Hk hL;have hM:=Bl;obtain⟨hn,hP,hS,hI,_⟩:=hc.ok;have hnm:c.aF.size<L:=Nat.lt_of_le_of_lt hn hl;have e0:((c.aR.length:Int) == 0)=decide (c.aR.length=0):=by
  by_cases h:c.aR.length=0
  ·rw[h];rfl
  ·rw[decide_eq_false h];exact beq_eq_false_iff_ne.2 (by omega)
 have e1000:decide ((c.aR.length:Int)>1000)=decide (1000<c.aR.length):=gtN _ 1000;simp only[Ats,W9,Wm,Xy,W9,Wm,aN,aB,Sz L c.aF hn hnm (by omega),Co,e0,e1000];unfold Ar4;cases hs:(decide (s<0) || decide (s>=(p.aA.length:Int))) with
 |true=>rw[Hu,hs];rfl
 |false=>
  rw[Hu,hs];rw[Bool.or_eq_false_iff,decide_eq_false_iff_not,decide_eq_false_iff_not]at hs;have hin:inP p s:=⟨by omega,by omega⟩;simp only[cond_false,Bool.false_eq_true,if_false];by_cases h0:Jt c.aF=0
  ·rw[h0,H8];have eP:(bif bif bif decide (c.aJ<0)then true else decide (c.aJ>c.dD)then true else decide (c.aJ>6)then true else decide (c.dD>16))=decide (c.aJ<0\/c.aJ>c.dD\/c.aJ>6\/c.dD>16):=by
    simp only[Hu,Bool.decide_or,Bool.or_assoc]
   simp only[bne_self_eq_false,cond_false,eP];by_cases hp:c.aJ<0\/c.aJ>c.dD\/c.aJ>6\/c.dD>16
   ·rw[decide_eq_true hp,if_pos hp];rfl
   ·rw[decide_eq_false hp,if_neg hp,cond_false];by_cases hz:c.aR.length=0
    ·rw[decide_eq_true hz,if_pos hz];rfl
    ·rw[decide_eq_false hz,if_neg hz,cond_false];by_cases hm:1000<c.aR.length
     ·rw[decide_eq_true hm,if_pos hm];rfl
     ·rw[decide_eq_false hm,if_neg hm,cond_false];obtain⟨m,w',hq⟩:=A8l L c p s hin hlk hL c.aR hc.ins 0 0 0;rw[Aw7 L s p c L hI (by omega),hq,Co];have ew:Bs ((c.aR.length:Int)-1)=((c.aR.length-1:Nat):Int):=by rw[H7 (by omega) (by omega)];omega
      by_cases ha:Ri (Ajd p s c) c.aR=0
      ·rw[if_pos ha,ha,H8];simp only[S5,ew,toN];rw[if_pos (by omega),if_pos (by omega)];have e1:∀(a b:Int),(a != b)= !decide (a=b):=λ_ _=>rfl;simp only[e1];cases decide ((c.aR.getD (c.aR.length-1) default).Op=19)<;>cases decide ((c.aR.getD (c.aR.length-1) default).Op=4)<;>rfl
      ·rw[if_neg ha,Gk ha];rfl
  ·rw[Gk h0,Xv h0];rfl
theorem Bif(L:Nat)(s:A9):∀(k:List Aq) (i:Nat) (v:Bool),i+k.length=s.aL.aD.length->
  ∃j,Qn L s k i v=some (bif agL k (s.aL.aD.drop i) then(1,(v,j)) else(0,(false,j))):=by
 intro k
 induction k with
 |nil=>intro i v _;exact⟨i,rfl⟩
 |cons c k ih=>
  intro i v h;rw[List.length_cons]at h;obtain⟨j,hj⟩:=ih (i+1) v (by omega);have hi:i<s.aL.aD.length:=by omega
  rw[Qn,A9e s.aL.aD i hi,if_pos (show(i:Int)<((s.aL.aD.length:Nat):Int) by omega),hj,toN,agL];generalize s.aL.aD.getD i default=r;have e0:decide ((r.bE.length:Int)>0)= !decide (r.bE.length=0):=by
   by_cases h:r.bE.length=0
   ·rw[h];rfl
   ·rw[decide_eq_false h,decide_eq_true (by omega)];rfl
  have e1:((r.aJ.length:Int) != c.aJ)= !(c.aJ == (r.aJ.length:Int)):=by
   by_cases h:c.aJ=(r.aJ.length:Int)
   ·rw[h];simp
   ·rw[beq_eq_false_iff_ne.2 h];exact bne_iff_ne.2 λhh=>h hh.symm
  have e2:decide (r.aF=c.aF)=decide (c.aF=r.aF):=decide_eq_decide.2 ⟨Eq.symm,Eq.symm⟩;rw[Iu,e0,e1,e2];unfold agP;cases decide (c.aF=r.aF)<;>cases (c.aJ == (r.aJ.length:Int))<;>cases decide (r.bE.length=0)
  all_goals first|exact⟨j,rfl⟩|exact⟨i,rfl⟩
theorem Bfg(L:Nat)(s:A9)(hl:s.aD.length<=maxLen)(hL:maxLen<L):Acu L s=some (Ao1 s):=by
 rw[A4l];unfold Acu A4c Amh;simp only[Al2,aN,aB,A5s L s L hl (by omega)];by_cases h:s.aD.length=s.aL.aD.length
 ·obtain⟨j,hj⟩:=Bif L s s.aD 0 false (by omega);rw[hj,Co,List.drop_zero,decide_eq_true h,show((s.aD.length:Int) != (s.aL.aD.length:Int))=false by rw[h];simp];cases agL s.aD s.aL.aD<;>rfl
 ·rw[decide_eq_false h,show((s.aD.length:Int) != (s.aL.aD.length:Int))=true from bne_iff_ne.2 (by omega)];rfl
theorem Bie(L:Nat)(p:Ac)(hl:p.aH.length<=maxLen)(hL:maxLen<L):∀(k:List Dt) (i:Nat) (v:Int),p.aH.drop i=k->
  ∃j,Mf L p k i v=some (if Ap4 p (p.aH.take i) k=0 then(1,(v,j)) else(0,(Ap4 p (p.aH.take i) k,j))):=by
 intro k
 induction k with
 |nil=>intro i v _;exact⟨i,rfl⟩
 |cons x k ih=>
  intro i v h;obtain⟨hi,hx,hk⟩:=I8 h;obtain⟨j,hj⟩:=ih (i+1) v hk;have e:p.aH.take i++ [x]=p.aH.take (i+1):=by rw[List.take_add_one,List.getElem?_eq_getElem hi];congr 1;rw[<-hx,Kj _ i hi];rfl
  have hin:∃c,Md L p (i:Int) L v 0=some (bif (p.aH.take i).any (λy=>y.aV == x.aV && y.To == x.To) then(0,(4,c)) else(1,(v,c))):=by
   refine Bqn (lp:=Md L p (i:Int)) (l:=p.aH) (i:=i) (p:=λy=>y.aV == x.aV && y.To == x.To) (e:=4) ?_ ?_ (by omega) i 0 L v (by omega) (by omega)
   ·intro n v c hc;simp only[Md,Aew,aN,aB,nn,Dn hc,Ll (Nat.lt_trans hc hi),if_true,toN,cond_true,hx,Az (Nat.lt_trans hc hi) hl];cases (p.aH.getD c default).aV == x.aV<;>cases (p.aH.getD c default).To == x.To<;>rfl
   ·intro n v;simp only[Md,Aew,aN,aB,Dr (Nat.le_refl i),cond_false]
  obtain⟨c,hc⟩:=hin;have e1:(bif (bif (bif (bif (bif (bif decide (x.aV<0)then true else decide (x.aV>=(p.aA.length:Int)))then true else decide (x.To<0))then true else decide (x.To>=(p.aA.length:Int)))then true else x.aV == x.To)then true else decide (x.bU<1))then true else decide (x.bU>1000000000))
    =decide (x.aV<0\/x.aV>=(p.aA.length:Int)\/x.To<0\/x.To>=(p.aA.length:Int)\/x.aV=x.To\/x.bU<1\/x.bU>1000000000):=by
   simp only[Hu,Bool.decide_or,Bool.or_assoc,show(x.aV == x.To)=decide (x.aV=x.To)from rfl]
  rw[Mf,Ap4,e];simp only[e1,hc,Co];unfold B1e;by_cases h1:x.aV<0\/x.aV>=(p.aA.length:Int)\/x.To<0\/x.To>=(p.aA.length:Int)\/x.aV=x.To\/x.bU<1\/x.bU>1000000000
  ·rw[decide_eq_true h1,if_pos h1,Gk (by decide)];exact⟨i,rfl⟩
  ·rw[decide_eq_false h1,if_neg h1,cond_false];cases (p.aH.take i).any (λy=>y.aV == x.aV && y.To == x.To) with
   |true=>
    rw[show R6 (!true) 4=4 from rfl,Gk (by decide)];exact⟨i,rfl⟩
   |false=>
    rw[show R6 (!false) 4=0 from rfl,H8];exact⟨j,hj⟩
theorem Bff(L:Nat)(p:Ac)(hl:p.aH.length<=maxLen)(hL:maxLen<L):Ain L p=some (A4n p):=by
 obtain⟨j,hj⟩:=Bie L p hl hL p.aH 0 0 rfl;have hj':Mf L p p.aH 0 0=some (if Ap4 p [] p.aH=0 then(1,(0,j)) else(0,(Ap4 p [] p.aH,j))):=hj;have e32:decide ((p.aH.length:Int)>32)=decide (32<p.aH.length):=gtN _ 32;simp only[A4b,Afk,Afb,Ain,Afk,Afb,aN,aB,e32,A5r L p L hl (by omega),hj',Co,A4n];by_cases h:32<p.aH.length
 ·rw[decide_eq_true h,if_pos h];rfl
 ·rw[decide_eq_false h,if_neg h,cond_false];by_cases h0:Ap4 p [] p.aH=0
  ·rw[if_pos h0,S5,h0]
  ·rw[if_neg h0,H4]
def Be5(l:List A9):List Yb:=l.map λx=>x.aL.aF
theorem A8i(L:Nat)(p:Ac)(hS:p.aA.length<=maxLen)(hL:Ko<=L)(hG:∀s∈p.aA,MG (Al8 p s)/\s.aD.length<=maxLen):∀(k:List A9) (i:Nat) (v w:Int),p.aA.drop i=k->
  ∃j w',Kf L p k i v w=some (if Xw Se p (Be5 (p.aA.take i)) k=0 then(1,(v,w',j)) else(0,(Xw Se p (Be5 (p.aA.take i)) k,w',j))):=by
 have hl:=Hk hL;intro k
 induction k with
 |nil=>intro i v w _;exact⟨i,w,rfl⟩
 |cons s k ih=>
  intro i v w h;obtain⟨hi,hx,hk⟩:=I8 h;have hs:s∈p.aA:=List.mem_of_mem_drop (by rw[h];simp);obtain⟨hM,hR⟩:=hG s hs;obtain⟨j,w',hj⟩:=ih (i+1) v 0 hk;have e:Be5 (p.aA.take i)++ [s.aL.aF]=Be5 (p.aA.take (i+1)):=by
   unfold Be5;rw[List.take_add_one,List.getElem?_eq_getElem hi,List.map_append];congr 1;rw[<-hx,Kj _ i hi];rfl
  have hin:∃c,J4 L 0 (i:Int) p L v 0=some (bif (Be5 (p.aA.take i)).any (λx=>decide (x=s.aL.aF)) then(0,(4,c)) else(1,(v,c))):=by
   unfold Be5;rw[List.any_map];refine Bqn (lp:=J4 L 0 (i:Int) p) (l:=p.aA) (i:=i) (p:=(λx=>decide (x=s.aL.aF)) ∘ λx=>x.aL.aF) (e:=4) ?_ ?_ (by omega) i 0 L v (by omega) (by omega)
   ·intro n v c hc;simp only[J4,Aac,aN,aB,nn,Dn hc,Ll (Nat.lt_trans hc hi),Ll hi,if_true,toN,cond_true,hx,Iu,Az (Nat.lt_trans hc hi) hS];rfl
   ·intro n v;simp only[J4,Aac,aN,aB,Dr (Nat.le_refl i),cond_false]
  obtain⟨c,hc⟩:=hin;rw[Kf,show Zz L ⟨p.aF,[],[s.aL],[]⟩=_ from Bb0 L (Al8 p s) hM hL,Co,Xw,e];by_cases h0:Alu Se (Al8 p s)=0
  ·rw[h0,H8];simp only[bne_self_eq_false,cond_false,hc,Co];cases (Be5 (p.aA.take i)).any (λx=>decide (x=s.aL.aF)) with
   |true=>
    rw[show R6 (!true) 4=4 from rfl,Gk (by decide)];exact⟨i,0,rfl⟩
   |false=>
    rw[show R6 (!false) 4=0 from rfl,H8];simp only[cond_false,S5];rw[show Acu L ⟨s.aL,s.aD⟩=_ from Bfg L s hR hl,Co];cases Ao1 s with
    |false=>
     rw[show R6 false 8=8 from rfl,Gk (by decide)];exact⟨i,0,rfl⟩
    |true=>
     rw[show R6 true 8=0 from rfl,H8];exact⟨j,w',hj⟩
  ·rw[Gk h0,Xv h0];exact⟨i,_,by rw[if_neg h0];rfl⟩
theorem Byx(a b c:Int):fE (fE a b) c=fE a (fE b c):=by
 unfold fE;by_cases h:a=0
 ·rw[if_pos h,if_pos h]
 ·rw[if_neg h,if_neg h,if_neg h]
theorem A8k(L:Nat)(o:Nat×(Int×Int×Int))(i:Nat)(p:Ac)(s:A9)(hi:i<p.aA.length)(hg:p.aA.getD i default=s)(hR:s.aD.length<=maxLen)(hC:∀c∈s.aD,CoG c)(hlk:p.aH.length<=maxLen)(hL:Ko<=L):
  ∀(k:List Aq) (c n:Nat) (v:Int),s.aD.drop c=k->k.length<n->∃j,J5 L o (i:Int) p n v (c:Int)=some (0,(fE v (Ri (Ar4 p (i:Int)) k),j)):=by
 intro k
 induction k with
 |nil=>
  intro c n v h hn;obtain⟨n,rfl⟩:∃m,n=m+1:=⟨n-1,by omega⟩;refine⟨c,?_⟩;simp only[J5,Aad,aN,aB,nn,Ll hi,if_true,toN,hg,Dr (Bdz h),cond_false];show some (0,(v,(c:Int)))=some (0,(fE v 0,(c:Int)))
  unfold fE;split
  ·next hv=>rw[hv]
  ·rfl
 |cons x k ih=>
  intro c n v h hn;obtain⟨n,rfl⟩:∃m,n=m+1:=⟨n-1,by omega⟩;obtain⟨hc,hx,hk⟩:=I8 h;rw[List.length_cons]at hn;obtain⟨j,hj⟩:=ih (c+1) n (fE v (Ar4 p (i:Int) x)) hk (by omega);refine⟨j,?_⟩;rw[Ri,<-Byx,<-hj];have hxm:x∈s.aD:=List.mem_of_mem_drop (by rw[h];simp);simp only[J5,Aad,aN,aB,nn,Ll hi,if_true,toN,hg,Dn hc,Ll hc,cond_true,hx,Az hc hR];by_cases hv:v=0
  ·subst hv;rw[show Xy L ⟨p.aF,p.aA,p.aH⟩ (i:Int) x=_ from A53 L p i x (hC x hxm) hlk hL];rfl
  ·rw[Gk hv,beq_eq_false_iff_ne.2 hv];rfl
theorem A8j(L:Nat)(p:Ac)(o:Nat×(Int×Int×Int))(hlk:p.aH.length<=maxLen)(hL:Ko<=L)(hS:∀s∈p.aA,s.aD.length<=maxLen/\∀c∈s.aD,CoG c):
  ∀(k:List A9) (i:Nat) (v:Int),p.aA.drop i=k->∃m,Nt L o p k i v=some (0,(fE v (Ar5 p i k),m)):=by
 have hl:=Hk hL;intro k
 induction k with
 |nil=>
  intro i v _;refine⟨i,?_⟩;show some (0,(v,(i:Int)))=some (0,(fE v 0,(i:Int)))
  unfold fE;split
  ·next hv=>rw[hv]
  ·rfl
 |cons s k ih=>
  intro i v hd;obtain⟨hi,hg,hd'⟩:=I8 hd;have hs:s∈p.aA:=List.mem_of_mem_drop (by rw[hd];simp);obtain⟨h1,h2⟩:=hS s hs;obtain⟨m,hm⟩:=A8k L o i p s hi hg h1 h2 hlk hL s.aD 0 L v rfl (by omega);have hm:J5 L o (i:Int) p L v 0=_:=hm;obtain⟨j,hj⟩:=ih (i+1) (fE v (Ri (Ar4 p (i:Int)) s.aD)) hd';rw[Nt,hm,Co,Ar5,<-Byx];exact⟨j,hj⟩
theorem Axn(L:Nat)(p:Ac)(h:PG p)(hL:Ko<=L):Sa L p=some (Acp Se p):=by
 have hl:=Hk hL;have hM:=Bl;obtain⟨hn,⟨hSl,_⟩,⟨hLl,_⟩⟩:=h.ok;have hS:=h.site;have hnm:p.aF.size<L:=Nat.lt_of_le_of_lt hn hl;have e0:((p.aA.length:Int) == 0)=decide (p.aA.length=0):=by
  by_cases h:p.aA.length=0
  ·rw[h];rfl
  ·rw[decide_eq_false h];exact beq_eq_false_iff_ne.2 (by omega)
 have e16:decide ((p.aA.length:Int)>16)=decide (16<p.aA.length):=gtN _ 16;unfold Sa A05 Aj0;simp only[Ass,Aj1,Ajt,aN,aB,Sz L p.aF hn hnm (by omega),Co,e0,e16];unfold Acp;by_cases h0:Jt p.aF=0
 ·rw[h0,H8];simp only[bne_self_eq_false,cond_false];by_cases hz:p.aA.length=0
  ·rw[decide_eq_true hz,if_pos hz];rfl
  ·rw[decide_eq_false hz,if_neg hz,cond_false];by_cases hm:16<p.aA.length
   ·rw[decide_eq_true hm,if_pos hm];rfl
   ·rw[decide_eq_false hm,if_neg hm,cond_false];obtain⟨j,w',hj⟩:=A8i L p hSl hL (λs hs=>⟨(hS s hs).1,(hS s hs).2.1⟩) p.aA 0 0 0 rfl;have hj':Kf L p p.aA 0 0 0=some (if Xw Se p [] p.aA=0 then(1,(0,w',j)) else(0,(Xw Se p [] p.aA,w',j))):=hj;rw[A2p L p L hSl (by omega),hj',Co];by_cases hs:Xw Se p [] p.aA=0
    ·rw[if_pos hs,hs,H8];simp only[S5];rw[show Ain L ⟨p.aF,p.aA,p.aH⟩=_ from Bff L p hLl hl,Co];obtain⟨m,hm⟩:=A8j L p (1,(0,w',j)) hLl hL (λs hs=>⟨(hS s hs).2.1,(hS s hs).2.2⟩) p.aA 0 (A4n p) rfl;rw[A2q L (1,(0,w',j)) p L hSl (by omega),hm,Co,H4]
    ·rw[if_neg hs,Gk hs];rfl
 ·rw[Gk h0,Xv h0];rfl
theorem A96(p:Ac):∀(k:List A9) (seen:List Yb),Xw Hv p seen k=Xw Se p seen k
 | [],_=>rfl
 |s::k,seen=>by rw[Xw,Xw,Bpl,A96 p k]
theorem Bfn(p:Ac):Acp Hv p=Acp Se p:=by
 unfold Acp;rw[A96]
def Ag8(ks:List Ah)(a b:Int):List Ah:=ks.filter λc=> !(a == c.bG && b == c.aK)
def Bmg(ks:List Ah)(a:Int):List Ah:=ks.filter λc=>c.bG != a
theorem Bij(L:Nat)(l:List Ah)(x:Ap):∀(k:List Ah) (i:Nat) (v:List Ah),v.length+k.length<=1048578->∃j,Gz L l x k i v=some (0,(v++Bmg k x.bI,j)):=by
 have hM:=Bl;intro k
 induction k with
 |nil=>intro i v _;exact⟨i,by rw[Gz];show _=some (0,(v++ [],_));rw[List.append_nil]⟩
 |cons c k ih=>
  intro i v h;rw[List.length_cons]at h;rw[Gz];unfold Bmg;rw[List.filter_cons];cases hc:c.bG != x.bI with
  |true=>
   obtain⟨j,hj⟩:=ih (i+1) (v++ [c]) (by rw[List.length_append,List.length_singleton];omega);refine⟨j,?_⟩;rw[cond_true,List.length_singleton,if_pos (by omega),if_pos (by omega),hj,if_pos rfl,List.append_assoc];rfl
  |false=>
   obtain⟨j,hj⟩:=ih (i+1) v (by omega);refine⟨j,?_⟩;rw[cond_false,hj,if_neg (by decide)];rfl
theorem Bik(L:Nat)(l:List Ah)(x:Ap)(hx:0<=x.aI):∀(k:List Ah) (i:Nat) (v:List Ah),v.length+k.length<=1048578->∃j,Ee L l x k i v=some (0,(v++Ag8 k x.bI x.aI,j)):=by
 have hM:=Bl;intro k
 induction k with
 |nil=>intro i v _;exact⟨i,by rw[Ee];show _=some (0,(v++ [],_));rw[List.append_nil]⟩
 |cons c k ih=>
  intro i v h;rw[List.length_cons]at h;obtain⟨j1,h1⟩:=ih (i+1) (v++ [c]) (by rw[List.length_append,List.length_singleton];omega);obtain⟨j2,h2⟩:=ih (i+1) v (by omega);rw[Ee,decide_eq_true hx,cond_true,List.length_singleton,if_pos (by omega),if_pos (by omega),h1,h2];unfold Ag8;rw[List.filter_cons];have e1:(x.bI == c.bG)= !(c.bG != x.bI):=by
   show _= !!(c.bG == x.bI)
   rw[Bool.not_not,Bool.beq_comm]
  have e2:(x.aI == c.aK)= !(c.aK != x.aI):=by
   show _= !!(c.aK == x.aI)
   rw[Bool.not_not,Bool.beq_comm]
  rw[e1,e2];cases c.bG != x.bI with
  |true=>exact⟨j1,by rw[cond_true];show some (0,((v++ [c])++_,j1))=_;rw[List.append_assoc];rfl⟩
  |false=>
   cases c.aK != x.aI with
   |true=>exact⟨j1,by rw[cond_false,cond_true];show some (0,((v++ [c])++_,j1))=_;rw[List.append_assoc];rfl⟩
   |false=>exact⟨j2,rfl⟩
theorem Bb8(L:Nat)(n:Int):Z4 L n=some (Vy n):=by
 simp only[Arn,Z4,aN,aB,Vy,Du,ge_iff_le]
def An0(m:Dim)(x:Ap)(v:Pic):Pic:=
 if x.aO=1 then { v with P:=Va m.r v.P x.aI 1 }
 else if x.aO=2 then { v with ks:=Bmg v.ks x.bI,P:=Va m.r v.P x.aI (-1) }
 else if x.aO=8 then { v with I:=Va m.i v.I x.aI 1 }
 else if x.aO=9 then { v with I:=Va m.i v.I x.aI (-1) }
 else if 0<=x.aI/\x.aI<(m.h:Int) then
  if x.aO=5 then { v with ks:=Ag8 v.ks x.bI x.aI++ [⟨x.bI,x.aI⟩] }
  else if Vy x.Value=false then v
  else if x.aO=4 then { v with ks:=Ag8 v.ks x.bI x.aI,H:=Va m.h v.H x.aI x.Value }
  else if x.aO=6 then { v with H:=Va m.h v.H x.aI (Bs (0-x.Value)) }
  else if x.aO=7 then { v with ks:=Ag8 v.ks x.bI x.aI++ [⟨x.bI,x.aI⟩],H:=Va m.h v.H x.aI (Bs (0-x.Value)) }
  else v
 else v
theorem Bk5{h n:Int}(hn:Vy n=true):Bs (h-n)=Bs (h+Bs (0-n)):=by
 simp only[Vy,Bool.and_eq_true,decide_eq_true_eq]at hn;rw[H7 (n:=0-n) (by omega) (by omega)]
 congr 1
 omega
theorem Bww(L:Nat)(s t:Int)(m:Dim)(x:Ap)(v:Pic)(h:v.ks.length<=1048577)(hL:maxLen<L)(W:List Int):
  Mk L t s m.r m.h m.h m.i v.ks x t s m.r m.h m.h m.i v.P v.H W v.I=some ((An0 m x v).ks,(An0 m x v).P,(An0 m x v).H,(An0 m x v).I):=by
 have hM:=Bl;obtain⟨j2,h2⟩:=Bij L v.ks x v.ks 0 [] (by rw[List.length_nil];omega);have e2:Gx L v.ks x L [] 0=some (0,(Bmg v.ks x.bI,j2)):=by rw[Aw9 L v.ks x L (by omega) (by omega),h2];rfl
 have l3:(Ag8 v.ks x.bI x.aI).length<=1048577:=Nat.le_trans (List.length_filter_le _ _) h;have e3:0<=x.aI->∃j3,E8 L v.ks x L [] 0=some (0,(Ag8 v.ks x.bI x.aI,j3)):=λhx=>by
  obtain⟨j3,h3⟩:=Bik L v.ks x hx v.ks 0 [] (by rw[List.length_nil];omega);exact⟨j3,by rw[Axa L v.ks x L (by omega) (by omega),h3];rfl⟩
 have eq:∀(a b:Int),(a == b)=decide (a=b):=λ_ _=>rfl;simp only[Mk,Amy,Xa,Wn,Wo,Wp,Wq,Uu,Xa,Wn,Wo,Wp,Wq,Uu,aN,aB,Bb8,e2,Co,H4,eq];unfold An0 Va;by_cases hI:0<=x.aI
 ·obtain⟨j3,e3⟩:=e3 hI;have g1:((Ag8 v.ks x.bI x.aI).length+ [(⟨x.bI,x.aI⟩:Ah)].length)*16<=140737488355328:=by rw[List.length_singleton];omega
  have g2:(Ag8 v.ks x.bI x.aI).length+ [(⟨x.bI,x.aI⟩:Ah)].length<=maxLen:=by rw[List.length_singleton];omega
  simp only[e3,Co,H4,hI,ge_iff_le,decide_true,cond_true,if_true,true_and,if_pos g1,if_pos g2];by_cases w1:x.aO=1
  ·by_cases hr:x.aI<(m.r:Int)<;>simp only[w1,hr,decide_true,decide_false,cond_true,cond_false,if_true,if_false]
  by_cases w2:x.aO=2
  ·by_cases hr:x.aI<(m.r:Int)<;>simp only[w2,hr,decide_true,decide_false,cond_true,cond_false,if_true,if_false,Int.sub_eq_add_neg,show¬(2:Int)=1 by decide]
  by_cases w4:x.aO=4
  ·by_cases hr:x.aI<(m.h:Int)
   ·cases hu:Vy x.Value<;>simp only[w4,hr,Co,decide_true,decide_false,cond_true,cond_false,if_true,if_false,Bool.true_eq_false,show¬(4:Int)=1 by decide,show¬(4:Int)=2 by decide,show¬(4:Int)=8 by decide,show¬(4:Int)=9 by decide,show¬(4:Int)=5 by decide]
   ·simp only[w4,hr,decide_true,decide_false,cond_true,cond_false,if_true,if_false,Co,show¬(4:Int)=1 by decide,show¬(4:Int)=2 by decide,show¬(4:Int)=8 by decide,show¬(4:Int)=9 by decide,show¬(4:Int)=5 by decide]
  by_cases w5:x.aO=5
  ·by_cases hr:x.aI<(m.h:Int)<;>simp only[w5,hr,decide_true,decide_false,cond_true,cond_false,if_true,if_false,show¬(5:Int)=1 by decide,show¬(5:Int)=2 by decide,show¬(5:Int)=4 by decide,show¬(5:Int)=8 by decide,show¬(5:Int)=9 by decide]
  by_cases w6:x.aO=6
  ·by_cases hr:x.aI<(m.h:Int)
   ·cases hu:Vy x.Value with
    |false=>simp only[w6,hr,Co,decide_true,decide_false,cond_true,cond_false,if_true,if_false,show¬(6:Int)=1 by decide,show¬(6:Int)=2 by decide,show¬(6:Int)=4 by decide,show¬(6:Int)=5 by decide,show¬(6:Int)=8 by decide,show¬(6:Int)=9 by decide]
    |true=>simp only[w6,hr,Bk5 (h:=v.H.getD (Int.toNat x.aI) default) hu,Co,decide_true,decide_false,cond_true,cond_false,if_true,if_false,Bool.true_eq_false,show¬(6:Int)=1 by decide,show¬(6:Int)=2 by decide,show¬(6:Int)=4 by decide,show¬(6:Int)=5 by decide,show¬(6:Int)=8 by decide,show¬(6:Int)=9 by decide]
   ·simp only[w6,hr,decide_true,decide_false,cond_true,cond_false,if_true,if_false,Co,show¬(6:Int)=1 by decide,show¬(6:Int)=2 by decide,show¬(6:Int)=4 by decide,show¬(6:Int)=5 by decide,show¬(6:Int)=8 by decide,show¬(6:Int)=9 by decide]
  by_cases w7:x.aO=7
  ·by_cases hr:x.aI<(m.h:Int)
   ·cases hu:Vy x.Value with
    |false=>simp only[w7,hr,Co,decide_true,decide_false,cond_true,cond_false,if_true,if_false,show¬(7:Int)=1 by decide,show¬(7:Int)=2 by decide,show¬(7:Int)=4 by decide,show¬(7:Int)=5 by decide,show¬(7:Int)=6 by decide,show¬(7:Int)=8 by decide,show¬(7:Int)=9 by decide]
    |true=>simp only[w7,hr,Bk5 (h:=v.H.getD (Int.toNat x.aI) default) hu,Co,decide_true,decide_false,cond_true,cond_false,if_true,if_false,Bool.true_eq_false,show¬(7:Int)=1 by decide,show¬(7:Int)=2 by decide,show¬(7:Int)=4 by decide,show¬(7:Int)=5 by decide,show¬(7:Int)=6 by decide,show¬(7:Int)=8 by decide,show¬(7:Int)=9 by decide]
   ·simp only[w7,hr,decide_true,decide_false,cond_true,cond_false,if_true,if_false,Co,show¬(7:Int)=1 by decide,show¬(7:Int)=2 by decide,show¬(7:Int)=4 by decide,show¬(7:Int)=5 by decide,show¬(7:Int)=6 by decide,show¬(7:Int)=8 by decide,show¬(7:Int)=9 by decide]
  by_cases w8:x.aO=8
  ·by_cases hr:x.aI<(m.i:Int)<;>simp only[w8,hr,decide_true,decide_false,cond_true,cond_false,if_true,if_false,show¬(8:Int)=1 by decide,show¬(8:Int)=2 by decide,show¬(8:Int)=4 by decide,show¬(8:Int)=5 by decide,show¬(8:Int)=6 by decide,show¬(8:Int)=7 by decide]
  by_cases w9:x.aO=9
  ·by_cases hr:x.aI<(m.i:Int)<;>simp only[w9,hr,decide_true,decide_false,cond_true,cond_false,if_true,if_false,Int.sub_eq_add_neg,show¬(9:Int)=1 by decide,show¬(9:Int)=2 by decide,show¬(9:Int)=4 by decide,show¬(9:Int)=5 by decide,show¬(9:Int)=6 by decide,show¬(9:Int)=7 by decide,show¬(9:Int)=8 by decide]
  ·simp only[w1,w2,w4,w5,w6,w7,w8,w9,decide_false,cond_false,if_false];split
   ·split<;>rfl
   ·rfl
 ·simp only[hI,ge_iff_le,decide_false,cond_false,if_false,false_and,Co];by_cases w1:x.aO=1
  ·simp only[w1,decide_true,cond_true,if_true]
  by_cases w2:x.aO=2
  ·simp only[w2,decide_true,decide_false,cond_true,cond_false,if_true,if_false,show¬(2:Int)=1 by decide]
  ·simp only[w1,w2,decide_false,cond_false,if_false];cases decide (x.aO=4)<;>cases decide (x.aO=5)<;>cases decide (x.aO=6)<;>cases decide (x.aO=7)<;>cases decide (x.aO=8)<;>cases decide (x.aO=9)<;>(split<;>first|rfl|(split<;>rfl))
theorem Bls(c:Ah)(k:List Ah)(a b:Int):Aux (c::k) a b=if(a == c.bG && b == c.aK)=true then k else c::Aux k a b:=by
 unfold Aux;rw[List.findIdx?_cons];cases (a == c.bG && b == c.aK) with
 |true=>rfl
 |false=>
  simp only[Bool.false_eq_true,if_false];cases k.findIdx? (λc=>a == c.bG && b == c.aK)<;>rfl
theorem Bmh(c:Ah)(k:List Ah)(a b:Int):Atl (c::k) a b=if(a == c.bG && b == c.aK)=true then c::k else c::Atl k a b:=by
 unfold Atl;rw[List.findIdx?_cons];cases (a == c.bG && b == c.aK) with
 |true=>rfl
 |false=>
  simp only[Bool.false_eq_true,if_false];cases k.findIdx? (λc=>a == c.bG && b == c.aK)<;>rfl
theorem Aw3{a b:Int}{c:Ah}(h:(a == c.bG && b == c.aK)=true):c=⟨a,b⟩:=by
 rw[Bool.and_eq_true,beq_iff_eq,beq_iff_eq]at h;cases c with
 |mk p r=>rw[h.1,h.2]
theorem A9r(c:Ah)(k:List Ah)(a b:Int):Ag8 (c::k) a b=if(a == c.bG && b == c.aK)=true then Ag8 k a b else c::Ag8 k a b:=by
 unfold Ag8;rw[List.filter_cons];cases (a == c.bG && b == c.aK)<;>rfl
theorem A9s{a b:Int}{k:List Ah}(h:(⟨a,b⟩:Ah)∉k):Ag8 k a b=k:=by
 unfold Ag8;rw[List.filter_eq_self];intro c hc;cases hp:(a == c.bG && b == c.aK) with
 |false=>rfl
 |true=>exact absurd (Aw3 hp ▸ hc) h
theorem Ba5{a b:Int} :∀ {k:List Ah},k.Nodup->Aux k a b=Ag8 k a b
 | [],_=>rfl
 |c::k,h=>by
  obtain⟨h1,h2⟩:=List.nodup_cons.1 h;rw[Bls,A9r];split
  ·next hp=>rw[A9s (Aw3 hp ▸ h1)]
  ·rw[Ba5 h2]
theorem Bkq{a b:Int} :∀ {k:List Ah},k.Nodup->(Atl k a b).Perm (Ag8 k a b++ [⟨a,b⟩])
 | [],_=>List.Perm.refl _
 |c::k,h=>by
  obtain⟨h1,h2⟩:=List.nodup_cons.1 h;rw[Bmh,A9r];split
  ·next hp=>
   rw[A9s (Aw3 hp ▸ h1),<-Aw3 hp];exact(List.perm_append_singleton c k).symm
  ·exact(Bkq h2).cons c
theorem Az7{a b:Int}{k:List Ah}(h:k.Nodup):(Ag8 k a b).Nodup:=List.Pairwise.filter _ h
theorem A6c{a b:Int}{k:List Ah}(h:k.Nodup):(Ag8 k a b++ [(⟨a,b⟩:Ah)]).Nodup:=by
 rw[List.nodup_append];refine⟨Az7 h,List.nodup_cons.2 ⟨List.not_mem_nil,List.nodup_nil⟩,?_⟩;intro c hc d hd e;obtain rfl:=List.mem_singleton.1 hd;subst e;unfold Ag8 at hc;have:=(List.mem_filter.1 hc).2;simp at this
theorem Bd0(a:Int):∀(d i:Nat) (k:List Ah),k.Nodup->s7 a i d k=k.filter λc=> !(a == c.bG && (decide ((i:Int)<=c.aK) && decide (c.aK<((i+d:Nat):Int))))
 |0,i,k,_=>by
  rw[s7]
  symm
  rw[List.filter_eq_self];intro c _;have:(decide ((i:Int)<=c.aK) && decide (c.aK<((i+0:Nat):Int)))=false:=by
   rw[Bool.and_eq_false_iff,decide_eq_false_iff_not,decide_eq_false_iff_not];omega
  rw[this,Bool.and_false];rfl
 |d+1,i,k,h=>by
  rw[s7,Ba5 h,Bd0 a d (i+1) _ (Az7 h)];unfold Ag8;rw[List.filter_filter];refine List.filter_congr λc _=>?_;cases a == c.bG with
  |false=>rfl
  |true=>
   simp only[Bool.true_and];by_cases h1:(i:Int)=c.aK
   ·rw[beq_iff_eq.2 h1,decide_eq_true (show(i:Int)<=c.aK by omega),decide_eq_true (show c.aK<((i+(d+1):Nat):Int) by omega)];simp
   ·rw[beq_eq_false_iff_ne.2 h1,Bool.not_false,Bool.and_true];have e1:decide (((i+1:Nat):Int)<=c.aK)=decide ((i:Int)<=c.aK):=decide_eq_decide.2 (by omega);rw[e1,show i+1+d=i+(d+1) by omega]
structure Atd (m:Dim) (u v:Pic):Prop where
 ks:u.ks.Perm v.ks
 nd:u.ks.Nodup
 ok:∀c∈u.ks,0<=c.aK/\c.aK<(m.h:Int)
 p:u.P=v.P
 h:u.H=v.H
 i:u.I=v.I
theorem Atd.cut{m:Dim}{u v:Pic}(h:Atd m u v)(a b:Int):(Aux u.ks a b).Perm (Ag8 v.ks a b)/\(Aux u.ks a b).Nodup/\∀c∈Aux u.ks a b,0<=c.aK/\c.aK<(m.h:Int):=by
 rw[Ba5 h.nd];exact⟨h.ks.filter _,Az7 h.nd,λc hc=>h.ok c (List.mem_filter.1 hc).1⟩
theorem Atd.put{m:Dim}{u v:Pic}(h:Atd m u v)(a b:Int)(hb:0<=b/\b<(m.h:Int)):(Atl u.ks a b).Perm (Ag8 v.ks a b++ [⟨a,b⟩])/\(Atl u.ks a b).Nodup/\∀c∈Atl u.ks a b,0<=c.aK/\c.aK<(m.h:Int):=by
 have hp:=Bkq (a:=a) (b:=b) h.nd;refine⟨hp.trans ((h.ks.filter _).append_right _),(hp.nodup_iff).2 (A6c h.nd),λc hc=>?_⟩;rcases List.mem_append.1 ((hp.mem_iff).1 hc)with hc|hc
 ·exact h.ok c (List.mem_filter.1 hc).1
 ·rw[List.mem_singleton.1 hc];exact hb
theorem Atd.take{m:Dim}{u v:Pic}(h:Atd m u v)(x:Ap):Atd m (Aho m x u) (An0 m x v):=by
 obtain⟨hk,hn,ho,hp,hh,hi⟩:=h;have h:Atd m u v:=⟨hk,hn,ho,hp,hh,hi⟩;unfold Aho An0;by_cases w1:x.aO=1
 ·rw[if_pos w1,if_pos w1];exact⟨hk,hn,ho,by show Va _ _ _ _=Va _ _ _ _;rw[hp],hh,hi⟩
 rw[if_neg w1,if_neg w1];by_cases w2:x.aO=2
 ·rw[if_pos w2,if_pos w2];have e:s7 x.bI 0 m.h u.ks=Bmg u.ks x.bI:=by
   rw[Bd0 _ _ _ _ hn];refine List.filter_congr λc hc=>?_;obtain⟨o1,o2⟩:=ho c hc;rw[decide_eq_true (show((0:Nat):Int)<=c.aK by omega),decide_eq_true (show c.aK<((0+m.h:Nat):Int) by omega),Bool.and_self,Bool.and_true];show(!(x.bI == c.bG))= !(c.bG == x.bI)
   rw[Bool.beq_comm]
  refine⟨?_,?_,?_,by show Va _ _ _ _=Va _ _ _ _;rw[hp],hh,hi⟩
  ·show(s7 x.bI 0 m.h u.ks).Perm _
   rw[e];exact hk.filter _
  ·show(s7 x.bI 0 m.h u.ks).Nodup
   rw[e];exact List.Pairwise.filter _ hn
  ·intro c hc;have hc:c∈s7 x.bI 0 m.h u.ks:=hc;rw[e]at hc;exact ho c (List.mem_filter.1 hc).1
 rw[if_neg w2,if_neg w2];by_cases w8:x.aO=8
 ·rw[if_pos w8,if_pos w8];exact⟨hk,hn,ho,hp,hh,by show Va _ _ _ _=Va _ _ _ _;rw[hi]⟩
 rw[if_neg w8,if_neg w8];by_cases w9:x.aO=9
 ·rw[if_pos w9,if_pos w9];exact⟨hk,hn,ho,hp,hh,by show Va _ _ _ _=Va _ _ _ _;rw[hi]⟩
 rw[if_neg w9,if_neg w9];by_cases hx:0<=x.aI/\x.aI<(m.h:Int)
 ·rw[if_pos hx,if_pos hx];by_cases w5:x.aO=5
  ·rw[if_pos w5,if_pos w5];obtain⟨a,b,c⟩:=h.put x.bI x.aI hx;exact⟨a,b,c,hp,hh,hi⟩
  rw[if_neg w5,if_neg w5];by_cases hu:Vy x.Value=false
  ·rw[if_pos hu,if_pos hu];exact h
  rw[if_neg hu,if_neg hu];by_cases w4:x.aO=4
  ·rw[if_pos w4,if_pos w4];obtain⟨a,b,c⟩:=h.cut x.bI x.aI;exact⟨a,b,c,hp,by show Va _ _ _ _=Va _ _ _ _;rw[hh],hi⟩
  rw[if_neg w4,if_neg w4];by_cases w6:x.aO=6
  ·rw[if_pos w6,if_pos w6];exact⟨hk,hn,ho,hp,by show Va _ _ _ _=Va _ _ _ _;rw[hh],hi⟩
  rw[if_neg w6,if_neg w6];by_cases w7:x.aO=7
  ·rw[if_pos w7,if_pos w7];obtain⟨a,b,c⟩:=h.put x.bI x.aI hx;exact⟨a,b,c,hp,by show Va _ _ _ _=Va _ _ _ _;rw[hh],hi⟩
  rw[if_neg w7,if_neg w7];exact h
 ·rw[if_neg hx,if_neg hx];exact h
def Aqf(m:Dim)(s t:Int):List Ap->Pic->Pic
 | [],v=>v
 |x::k,v=>Aqf m s t k (bif Atn s t x then An0 m x v else v)
theorem Atd.pics{m:Dim}(s t:Int):∀(k:List Ap) {u v:Pic},Atd m u v->Atd m (Aco m s t k u) (Aqf m s t k v)
 | [],_,_,h=>h
 |x::k,u,v,h=>by
  rw[Aco,Aqf];refine Atd.pics s t k ?_;cases Atn s t x with
  |true=>exact h.take x
  |false=>exact h
theorem Bm2{m:Dim}{u v:Pic}(h:Atd m u v):A67 m.h u.ks=A67 m.h v.ks:=
 h.ks.foldl_eq' (λ_ _ _ _ _=>A8y _ _ _ _) _
def B4c(p:Ac)(l:List Ap)(s t:Int):Ao:=Awv s t (Mj p s) (Aqf (Mj p s) s t l (Atk (Mj p s)))
theorem By9(m:Dim):Atd m (Atk m) (Atk m):=⟨List.Perm.refl _,List.nodup_nil,λc hc=>(by cases hc),rfl,rfl,rfl⟩
theorem Bw0(p:Ac)(l:List Ap)(s t:Int):B4c p l s t=A74 p l s t:=by
 have h:=Atd.pics s t l (By9 (Mj p s));unfold B4c A74 Awv;rw[h.p,h.h,h.i,Bm2 h]
theorem Bgp(m:Dim)(x:Ap)(v:Pic):(An0 m x v).ks.length<=v.ks.length+1:=by
 have h1:∀a,(Bmg v.ks a).length<=v.ks.length:=λa=>List.length_filter_le _ _;have h2:∀a b,(Ag8 v.ks a b).length<=v.ks.length:=λa b=>List.length_filter_le _ _;have h3:∀a b,(Ag8 v.ks a b++ [(⟨a,b⟩:Ah)]).length<=v.ks.length+1:=λa b=>by rw[List.length_append,List.length_singleton];have:=h2 a b;omega
 unfold An0;split
 ·exact Nat.le_succ _
 split
 ·exact Nat.le_succ_of_le (h1 _)
 split
 ·exact Nat.le_succ _
 split
 ·exact Nat.le_succ _
 split
 ·split
  ·exact h3 _ _
  split
  ·exact Nat.le_succ _
  split
  ·exact Nat.le_succ_of_le (h2 _ _)
  split
  ·exact Nat.le_succ _
  split
  ·exact h3 _ _
  ·exact Nat.le_succ _
 ·exact Nat.le_succ _
theorem Bfk(m:Dim)(s t:Int):∀(k:List Ap) (v:Pic),(Aqf m s t k v).ks.length<=v.ks.length+k.length
 | [],_=>Nat.le_refl _
 |x::k,v=>by
  rw[Aqf,List.length_cons];have:=Bfk m s t k (bif Atn s t x then An0 m x v else v);have h2:(bif Atn s t x then An0 m x v else v).ks.length<=v.ks.length+1:=by
   cases Atn s t x with
   |true=>exact Bgp m x v
   |false=>exact Nat.le_succ _
  omega
theorem A8m(L:Nat)(s t:Int)(l:List Ap)(p:Ac)(hL:maxLen<L):∀(k:List Ap) (i:Nat) (v:Pic),l.drop i=k->v.ks.length+k.length<=1048577->
  ∃j,Gy L l s t p k i v.ks v.P v.H v.I=some (0,((Aqf (Mj p s) s t k v).ks,j,(Aqf (Mj p s) s t k v).P,(Aqf (Mj p s) s t k v).H,(Aqf (Mj p s) s t k v).I)):=by
 intro k
 induction k with
 |nil=>intro i v _ _;exact⟨i,rfl⟩
 |cons x k ih=>
  intro i v h hk;rw[List.length_cons]at hk;obtain⟨hi,_,hd⟩:=I8 h;rw[Gy,Aqf,if_pos (show(0:Int)<=(i:Int) by omega),if_pos (show(i:Int)<((l.length:Nat):Int) by omega)];have e1:(bif x.bT == s then some (decide (x.Time<=t))else some false)=some (Atn s t x):=by unfold Atn;cases x.bT == s<;>rfl
  rw[e1,Co];cases Atn s t x with
  |false=>exact ih (i+1) v hd (by omega)
  |true=>
   obtain⟨j,hj⟩:=ih (i+1) (An0 (Mj p s) x v) hd (by have:=Bgp (Mj p s) x v;omega);refine⟨j,?_⟩;have:=Bww L s t (Mj p s) x v (by omega) hL (List.replicate (Mj p s).h 0);simp only[cond_true,toN];rw[show Mk L t s ((p.aA.getD (Int.toNat s) default).aD.length) ((p.aA.getD (Int.toNat s) default).aL.aG.length) ((p.aA.getD (Int.toNat s) default).aL.aG.length) ((p.aA.getD (Int.toNat s) default).aL.aM.length) v.ks x t s ((p.aA.getD (Int.toNat s) default).aD.length) ((p.aA.getD (Int.toNat s) default).aL.aG.length) ((p.aA.getD (Int.toNat s) default).aL.aG.length) ((p.aA.getD (Int.toNat s) default).aL.aM.length) v.P v.H (List.replicate ((p.aA.getD (Int.toNat s) default).aL.aG.length) 0) v.I=_ from this,Co];exact hj
theorem Bih(L:Nat)(o:Nat×(List Ah×Int×List Int×List Int×List Int))(s t:Int)(p:Ac):∀(k:List Ah) (i:Nat) (v:List Int),(∀c∈k,0<=c.aK/\c.aK<((Mj p s).h:Int))->
  ∃j,Jp L o t s p k i v=some (0,(j,k.foldl (λv c=>Awn c.aK ((Mj p s).h:Int) v) v)):=by
 intro k
 induction k with
 |nil=>intro i v _;exact⟨i,rfl⟩
 |cons c k ih=>
  intro i v h;obtain⟨h1,h2⟩:=h c (by simp);obtain⟨j,hj⟩:=ih (i+1) (Awn c.aK ((Mj p s).h:Int) v) λy hy=>h y (by simp[hy]);refine⟨j,?_⟩;rw[List.foldl_cons,<-hj,Jp];have h2':c.aK<(((Int.toNat ((((p.aA.getD (Int.toNat s) default).aL).aG).length:Int)):Nat):Int):=by rw[toN];exact h2
  rw[if_pos h1,if_pos h2',if_pos h1,if_pos h2'];unfold Awn gD;rw[if_pos ⟨h1,h2⟩]
theorem Asj(L:Nat)(p:Ac)(l:List Ap)(s t:Int)(hs:inP p s)(hd:A85 (Mj p s) 1048576)(hl:l.length<=1048576)(hL:maxLen<L):P4 L p l s t=some (A74 p l s t):=by
 rw[<-Bw0];obtain⟨d1,d2,d3⟩:=hd;have d1:(D4 p s).aD.length<=1048576:=d1;have d2:(D4 p s).aL.aG.length<=1048576:=d2;have d3:(D4 p s).aL.aM.length<=1048576:=d3;have hmx:1048577<maxLen:=by unfold maxLen;omega
 have hk:=Bfk (Mj p s) s t l (Atk (Mj p s));have hk0:(Atk (Mj p s)).ks.length=0:=rfl;obtain⟨j,hq⟩:=A8m L s t l p hL l 0 (Atk (Mj p s)) rfl (by omega);have hq:Gy L l s t p l 0 [] (List.replicate (D4 p s).aD.length 0) (List.replicate (D4 p s).aL.aG.length 0) (List.replicate (D4 p s).aL.aM.length 0)=_:=hq;have hlike:=Atd.pics s t l (By9 (Mj p s));generalize hv:Aqf (Mj p s) s t l (Atk (Mj p s))=v at hq hk hlike;have hok:∀c∈v.ks,0<=c.aK/\c.aK<((Mj p s).h:Int):=λc hc=>hlike.ok c (hlike.ks.mem_iff.2 hc);obtain⟨j2,hw⟩:=Bih L (0,(v.ks,j,v.P,v.H,v.I)) s t p v.ks 0 (List.replicate (D4 p s).aL.aG.length 0) hok;unfold P4 Att;simp only[Ab9,Ak0,Aca,Abf,aN,aB,show p.aA.getD (Int.toNat s) default=D4 p s from rfl,toN];rw[if_pos hs.1,if_pos hs.2]
 repeat rw[if_pos (by omega)]
 rw[Aw8 L l s t p L (by omega) (by omega),hq,Co,H4,Axb L (0,(v.ks,j,v.P,v.H,v.I)) t s p L (by show v.ks.length<=_;omega) (by show v.ks.length<_;omega),hw,Co,H4];unfold B4c Awv A67;rw[hv];rfl
theorem Bmb(L:Nat)(p:Ac)(l:List Ap)(s t:Int)(h:PG p)(hl:l.length<=1048576)(hL:Ko<=L):Aq0 L p l s t=some (atF p l s t):=by
 have e1:Sa L ⟨p.aF,p.aA,p.aH⟩=some (Acp Hv p):=by rw[Bfn];exact Axn L p h hL
 have hl':=Hk hL;simp only[A4e,Aq0,aN,aB,e1,Co,atF];by_cases h0:Acp Hv p=0
 ·rw[h0,if_neg (by simp)];simp only[bne_self_eq_false,cond_false,Hu];show(bif A7f p s t then _ else _)=_
  cases hb:A7f p s t with
  |true=>rfl
  |false=>
   obtain⟨hs,_⟩:=A28 hb;rw[cond_false,cond_false,show P4 L ⟨p.aF,p.aA,p.aH⟩ l s t=_ from Asj L p l s t hs (h.dim hs) hl hl'];rfl
 ·rw[if_pos h0,Xv h0];rfl
theorem A7j(L:Nat)(p:Ac)(l:List Ap)(s f d n:Int)(m:Nat)(hn:n=(m:Int))(hm:m<=1000)(hs:inP p s)(hD:A85 (Mj p s) 1048576)(hl:l.length<=1048576)(hL:maxLen<L)(hf:0<=f/\f<=1000000000)(hd:1<=d/\d<=1000000000):
  ∀(r i k:Nat),i+r=m->r<k->Kq L l s f d n p k (Abm p l s f d i) (i:Int)=some (0,(Abm p l s f d m,(m:Int))):=by
 intro r
 induction r with
 |zero=>
  intro i k h hk;obtain⟨k,rfl⟩:∃j,k=j+1:=⟨k-1,by omega⟩;obtain rfl:i=m:=by omega
  subst hn;simp only[Kq,Yi,aN,aB,Dr (Nat.le_refl i),cond_false]
 |succ r ih=>
  intro i k h hk;obtain⟨k,rfl⟩:∃j,k=j+1:=⟨k-1,by omega⟩;have hi:i<m:=by omega
  have hj:=ih (i+1) k (by omega) (by omega);have hM:=Bl;have hid:0<=(i:Int)*d/\(i:Int)*d<=1000*1000000000:=⟨Int.mul_nonneg (by omega) (by omega),Int.mul_le_mul (by omega) (by omega) (by omega) (by omega)⟩;subst hn;have g:=Apx p l s f d i;simp only[Kq,Yi,aN,aB,Dn hi,cond_true];rw[H7 (n:=(i:Int)*d) (by omega) (by omega),H7 (n:=f+(i:Int)*d) (by omega) (by omega),show P4 L ⟨p.aF,p.aA,p.aH⟩ l s (f+(i:Int)*d)=_ from Asj L p l s _ hs hD hl hL,Co,g,List.length_singleton];rw[if_pos (by omega),if_pos (by omega),Az (n:=m) hi (by omega)];exact hj
theorem A7q(L:Nat)(p:Ac)(l:List Ap)(s f d n:Int)(h:PG p)(hl:l.length<=1048576)(hL:Ko<=L):j7 L p l s f d n=some (Apf p l s f d n):=by
 have e1:Sa L ⟨p.aF,p.aA,p.aH⟩=some (Acp Hv p):=by rw[Bfn];exact Axn L p h hL
 have hl':=Hk hL;have hM:=Bl;unfold j7 Av4;simp only[Ahg,Ag9,aN,aB,e1,Co,Apf];by_cases h0:Acp Hv p=0
 ·rw[h0,if_neg (by simp)];simp only[bne_self_eq_false,cond_false,Hu];have eb:Bdp p s f d n=(decide (s<0) || decide (s>=(p.aA.length:Int)) || decide (f<0) || decide (f>1000000000) || decide (d<1) || decide (d>1000000000) || decide (n<0) || decide (n>1000) || decide (Bs (f+Bs (Bs (n-1)*d))>1000000000)):=rfl;cases hb0:(decide (s<0) || decide (s>=(p.aA.length:Int)) || decide (f<0) || decide (f>1000000000) || decide (d<1) || decide (d>1000000000) || decide (n<0) || decide (n>1000)) with
  |true=>
   rw[eb,hb0];rfl
  |false=>
   rw[eb,hb0,Bool.false_or,cond_false];have hb1:=hb0;simp only[Bool.or_eq_false_iff,decide_eq_false_iff_not]at hb1;obtain⟨⟨⟨⟨⟨⟨⟨b1,b2⟩,b3⟩,b4⟩,b5⟩,b6⟩,b7⟩,b8⟩:=hb1;have e9:(bif decide (n>0)then decide (Bs (f+Bs (Bs (n-1)*d))>1000000000)else false)=decide (Bs (f+Bs (Bs (n-1)*d))>1000000000):=by
    by_cases hn:n>0
    ·rw[decide_eq_true hn];rfl
    ·have hn0:n=0:=by omega
     subst hn0;rw[decide_eq_false (show¬(0:Int)>0 by omega),cond_false]
     symm
     rw[decide_eq_false_iff_not,H7 (n:=(0:Int)-1) (by omega) (by omega),show((0:Int)-1)*d= -d from(by rw[show(0:Int)-1= -1 from rfl,Int.neg_one_mul]),H7 (n:= -d) (by omega) (by omega),H7 (n:=f+ -d) (by omega) (by omega)];omega
   rw[e9];cases hb9:decide (Bs (f+Bs (Bs (n-1)*d))>1000000000) with
   |true=>rfl
   |false=>
    have hbs:Bdp p s f d n=false:=by rw[eb,hb0,hb9];rfl
    obtain⟨hs,hf,hd,hn,_⟩:=Bau hbs;have:=A7j L p l s f d n n.toNat (by omega) (by omega) hs (h.dim hs) hl hl' hf hd n.toNat 0 L (by omega) (by omega);rw[cond_false,cond_false,show Kq L l s f d n p L [] 0=_ from this,Co,H4]
 ·rw[if_pos h0,Xv h0];rfl
theorem Bii(L:Nat)(l:List Ao)(hl:l.length<=1048576)(hL:maxLen<L)(hr:∀x∈l,A0f x 1048576):∀(k:List Ao) (i:Nat) (v:Bool),l.drop i=k->∃j,Ip L l l k i v=some (1,(v,j)):=by
 have hM:=Bl;intro k
 induction k with
 |nil=>intro i v _;exact⟨i,rfl⟩
 |cons x k ih=>
  intro i v h;obtain⟨hi,hx,hd⟩:=I8 h;obtain⟨j,hj⟩:=ih (i+1) v hd;have hle:=hr x (List.mem_of_mem_drop (by rw[h];simp));have eS:I5 L x x=some true:=by
   rw[A1s L _ _ ⟨by have:=hle.1;omega,by have:=hle.2.1;omega,by have:=hle.2.2.1;omega,by have:=hle.2.2.2;omega⟩ ⟨by have:=hle.1;omega,by have:=hle.2.1;omega,by have:=hle.2.2.1;omega,by have:=hle.2.2.2;omega⟩ (by omega),(A91 _ _).2 rfl]
  refine⟨j,?_⟩;rw[Ip,if_pos (show(i:Int)<((l.length:Nat):Int) by omega),toN,hx];rw[show I5 L x x=some true from eS];exact hj
theorem Ask(L:Nat)(l:List Ao)(hl:l.length<=1048576)(hL:maxLen<L)(hr:∀x∈l,A0f x 1048576):Vi L l l=some true:=by
 have hM:=Bl;obtain⟨j,hj⟩:=Bii L l hl hL hr l 0 false rfl;unfold Vi Arm;simp only[Ab8,Abe,aN,aB,Avc L l l L (by omega) (by omega),hj,Co,bne_self_eq_false,cond_false,S5]
theorem A6x(p:Ac)(l:List Ap)(s f d:Int)(P:Ao->Prop)(h:∀t,P (A74 p l s t)):∀n,∀x∈Abm p l s f d n,P x
 |0,x,hx=>by cases hx
 |n+1,x,hx=>by
  have hx:x∈Abm p l s f d n++ [A74 p l s (f+(n:Int)*d)]:=hx;rcases List.mem_append.1 hx with hx|hx
  ·exact A6x p l s f d P h n x hx
  ·rw[List.mem_singleton.1 hx];exact h _
theorem Bst(p:Ac)(l:List Ap)(s t:Int)(h:PG p):A0f (atF p l s t).1 1048576:=by
 unfold atF;split
 ·exact⟨Nat.zero_le _,Nat.zero_le _,Nat.zero_le _,Nat.zero_le _⟩
 ·cases hb:A7f p s t with
  |true=>exact⟨Nat.zero_le _,Nat.zero_le _,Nat.zero_le _,Nat.zero_le _⟩
  |false=>exact Bkn p l s t 1048576 (h.dim (A28 hb).1)
theorem Ay8(c:Ie)(h:Aq2 c)(hb:Afv c<=1048576):∃L,Zk L c=some true:=by
 obtain⟨hP,hR⟩:=Bs3 h hb;refine⟨Ko,?_⟩;have hw:∀L,Jy L=some true:=λ_=>rfl;have hl:=Hk (Nat.le_refl Ko);have hM:=Bl;have hm:1048577<maxLen:=by unfold maxLen;omega
 have eA:Oo Ko ⟨c.P.aF,c.P.aA,c.P.aH⟩ c.bQ c.bT c.T=_:=A7r Ko c.P c.bQ c.bT c.T hP hR (Nat.le_refl _);have eB:Aq0 Ko ⟨c.P.aF,c.P.aA,c.P.aH⟩ c.bQ c.bT c.T=_:=Bmb Ko c.P c.bQ c.bT c.T hP hR (Nat.le_refl _);have eF:Mi Ko ⟨c.P.aF,c.P.aA,c.P.aH⟩ c.bQ c.bT c.T c.Step c.N=_:=Axq Ko c.P c.bQ c.bT c.T c.Step c.N hP hR (Nat.le_refl _);have eG:j7 Ko ⟨c.P.aF,c.P.aA,c.P.aH⟩ c.bQ c.bT c.T c.Step c.N=_:=A7q Ko c.P c.bQ c.bT c.T c.Step c.N hP hR (Nat.le_refl _);have hle:=Bst c.P c.bQ c.bT c.T hP;have eS:I5 Ko (atF c.P c.bQ c.bT c.T).1 (atF c.P c.bQ c.bT c.T).1=some true:=by
  rw[A1s Ko _ _ ⟨by have:=hle.1;omega,by have:=hle.2.1;omega,by have:=hle.2.2.1;omega,by have:=hle.2.2.2;omega⟩ ⟨by have:=hle.1;omega,by have:=hle.2.1;omega,by have:=hle.2.2.1;omega,by have:=hle.2.2.2;omega⟩ (by omega),(A91 _ _).2 rfl]
 have eL:Vi Ko (Apf c.P c.bQ c.bT c.T c.Step c.N).1 (Apf c.P c.bQ c.bT c.T c.Step c.N).1=some true:=by
  unfold Apf;by_cases h0:Acp Hv c.P=0
  ·rw[if_neg (by simp[h0])];cases hbs:Bdp c.P c.bT c.T c.Step c.N with
   |true=>exact Ask Ko [] (by simp) hl (λx hx=>by cases hx)
   |false=>
    obtain⟨hs,hT,hS,hN,hE⟩:=Bau hbs;refine Ask Ko _ ?_ hl (A6x _ _ _ _ _ _ (λt=>Bkn c.P c.bQ c.bT t 1048576 (hP.dim hs)) _);rw[cond_false,Apx];omega
  ·rw[if_pos h0];exact Ask Ko [] (by simp) hl (λx hx=>by cases hx)
 simp only[Zq,Zk,aN,aB,hw,eA,eB,eF,eG,eS,eL,Co,beq_self_eq_true,cond_true];cases (bif decide ((c.bQ.length:Int)>300)then true else bif decide (c.N>60)then decide (c.N<=1000)else false)<;>rfl
end Go.Proofs.YthjhkpgonleelaaGreatDoor.Ev
