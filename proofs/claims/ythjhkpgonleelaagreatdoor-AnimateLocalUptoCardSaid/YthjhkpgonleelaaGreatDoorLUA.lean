/-  Numerals: the program's and the document's. -/
import Derived.Test.YthjhkpgonleelaaGreatDoorLQA
import Derived.Test.YthjhkpgonleelaaGreatDoorLRA
import Derived.Test.YthjhkpgonleelaaGreatDoorLCA
set_option maxRecDepth 100000
set_option linter.unusedVariables false
set_option linter.unusedSimpArgs false
set_option linter.unnecessarySimpa false
namespace Go.Proofs.YthjhkpgonleelaaGreatDoor.Ev
open Go An
def bs(l:List UInt8):Yb:=⟨l.toArray⟩
theorem Bmc{α :Type} [Inhabited α](l:List α)(i:Nat)(h:i<l.length):l.drop i=l.getD i default::l.drop (i+1):=by
 rw[List.drop_eq_getElem_cons h,J4 l i h]
theorem neI{a b:Int}(h:¬a=b):(a != b)=true:=bne_iff_ne.2 h
theorem Ay2(L:Nat)(a0 a1:List Int):∀(k:List Int) (i:Nat) (v:Bool),i+k.length=a1.length->∃j,Ia L a0 a1 k i v=some (bif decide (k=a1.drop i) then(1,(v,j)) else(0,(false,j))):=by
 intro k
 induction k with
 |nil=>
  intro i v h;refine⟨i,?_⟩;have:a1.drop i= []:=List.drop_eq_nil_of_le (by simp at h;omega);rw[this];rfl
 |cons x k ih=>
  intro i v h;rw[List.length_cons]at h;obtain⟨j,hj⟩:=ih (i+1) v (by omega);have hi:i<a1.length:=by omega
  rw[Ia,Bmc a1 i hi,ifp (show(i:Int)<(a1.length:Int) by omega),hj,toN];generalize a1.getD i default=y;by_cases hx:x=y
  ·refine⟨j,?_⟩;subst hx;simp
  ·exact⟨i,by simp[hx,neI hx]⟩
theorem Xr(L:Nat)(a b:List Int)(ha:a.length<=maxLen)(hL:a.length<L):Mc L a b=some (decide (a=b)):=by
 simp only[Aqo,Tz,Tr,Mc,Tz,Tr,aN,aB,At3 L a b L ha (by omega)];by_cases h:(a.length:Int)=(b.length:Int)
 ·obtain⟨j,hj⟩:=Ay2 L a b a 0 false (by omega);rw[hj,List.drop_zero];by_cases hab:a=b
  ·simp[hab,Sr]
  ·simp[hab,h,Ip]
 ·have:a≠b:=by rintro rfl;exact h rfl
  simp[this,neI h]
def Bi6(a b:Ao):Bool:=a.Time == b.Time && a.bW == b.bW && decide (a.dY=b.dY) && decide (a.Held=b.Held) && decide (a.dB=b.dB) && decide (a.Items=b.Items)
theorem Bky(a b:Ao):Bi6 a b=true↔a=b:=by
 cases a;cases b
 simp only[Bi6,Ao.mk.injEq,Bool.and_eq_true,beq_iff_eq,decide_eq_true_eq,and_assoc]
def Ba7(f:Ao)(n:Nat):Prop:=f.dY.length<=n/\f.Held.length<=n/\f.dB.length<=n/\f.Items.length<=n
theorem Bq2(a b:Bool):(bif a then b else false)=(a && b):=by cases a<;>rfl
theorem Bdz(L:Nat)(a b:Ao)(h:Ba7 a maxLen)(hL:Ba7 a (L-1))(h0:0<L):O8 L a b=some (Bi6 a b):=by
 obtain⟨h1,h2,h3,h4⟩:=h;obtain⟨l1,l2,l3,l4⟩:=hL;simp only[Atm,O8,aN,aB,Xr L a.dY b.dY h1 (by omega),Xr L a.Held b.Held h2 (by omega),Xr L a.dB b.dB h3 (by omega),Xr L a.Items b.Items h4 (by omega),Cr,Bi6,Bq2];generalize (a.Time == b.Time && a.bW == b.bW)=c0;generalize decide (a.dY=b.dY)=c1;generalize decide (a.Held=b.Held)=c2;generalize decide (a.dB=b.dB)=c3;generalize decide (a.Items=b.Items)=c4;cases c0<;>cases c1<;>cases c2<;>cases c3<;>cases c4<;>rfl
def Mf(op:Int):Bool:=decide (1<=op) && decide (op<=19)
def O6(op:Int):Vf:=gl0.getD (Int.toNat op) default
def An9(i:Aq):Bool:=
 ((O6 i.Op).fU != 0 || i.A == 0) && ((O6 i.Op).fZ != 0 || i.B == 0) && ((O6 i.Op).u_c || i.C == 0) && ((O6 i.Op).fH || Ae6 i.E) && ((O6 i.Op).fM || Ae6 i.F)
  && ((O6 i.Op).dF || decide (i.aM.length=0)) && ((O6 i.Op).bO || Aga i.bE T4) && ((O6 i.Op).dV || !i.bU)
def Ez(p:Ac)(s:Int):Az:=p.aA.getD (Int.toNat s) default
def Apc(p:Ac)(s:Int)(c:Ap)(w to:Int):Int:=
 if w=1 then c.dD else if w=2 then((Ez p s).aK.bX.length:Int)else if w=3 then((Ez p s).aK.bB.length:Int)else if w=4 then(c.aP.length:Int)
 else if w=5 then((Ez p s).aK.aG.length:Int)else if w=6 then((Ez p s).aK.aL.length:Int)else if w=7 then((Ez p s).aK.bN.length:Int)
 else if w=8 then((Ez p s).aK.bH.length:Int)else if w=9 then(p.aA.length:Int)else if w=10 then((Ez p to).aD.length:Int)
 else if w=11 then((Ez p s).aK.bG.length:Int)else if w=12 then((Ez p s).aK.bP.length:Int)else if w=13 then((Ez p s).aK.bF.length:Int)else 1
def Yw(p:Ac)(s:Int)(c:Ap)(w n to:Int):Bool:=decide (0<=n) && decide (n<Apc p s c w to)
def inP(p:Ac)(s:Int):Prop:=0<=s/\s<(p.aA.length:Int)
def Bn6(p:Ac)(s:Int)(c:Ap)(e:Ab):Bool:=
 if e.Op=25 then Yw p s c 1 e.N 0 else if e.Op=26 then Yw p s c 2 e.N 0 else if e.Op=22 then Yw p s c 5 e.N 0 else if e.Op=23 then Yw p s c 6 e.N 0
 else if e.Op=24 then decide (e.N<Bu (Apc p s c 5 0+Apc p s c 8 0))else true
mutual
def Aie(p:Ac)(s:Int)(c:Ap):Ab->Bool
 | .mk op nm n k=>Bn6 p s c (.mk op nm n k) && Agc p s c k
def Agc(p:Ac)(s:Int)(c:Ap):List Ab->Bool
 | []=>true
 |x::k=>Aie p s c x && Agc p s c k
end
def A0s(l:List Dr)(a b:Int):Option Int:=(l.find? λx=>x.aV == a && x.To == b).map (·.bR)
def R2(i:Aq):List Ab:=(if(O6 i.Op).fH then[i.E] else[])++(if(O6 i.Op).fM then[i.F] else[])++(if(O6 i.Op).dF then i.aM else[])
def Alo(p:Ac)(s:Int)(c:Ap)(e:Ab):Int:=fE (D2 true e) (Rj (Aie p s c e) 2)
def Aw8(p:Ac)(to:Int)(i:Aq):Int:=
 if Yw p 0 default 10 i.B to=false then 2 else Rj ((i.aM.length:Int) == ((Ez p to).aD.getD (Int.toNat i.B) default).aI) 8
def Bki(p:Ac)(s:Int)(c:Ap)(i:Aq):Int:=
 if(Yw p s c (O6 i.Op).fU i.A 0 || (O6 i.Op).fU == 0)=false then 2
 else if i.Op=14 then(if A0s p.aH s i.A=some i.C then Aw8 p i.A i else 16)
 else if i.Op=15 then Aw8 p s i
 else if(Yw p s c (O6 i.Op).fZ i.B 0 || (O6 i.Op).fZ == 0)=false then 2 else 0
def Ahz(p:Ac)(s:Int)(c:Ap)(i:Aq):Int:=
 if(Mf i.Op && An9 i)=false then 1
 else fE (Bki p s c i) (fE (Qm (Alo p s c) (R2 i)) (if(O6 i.Op).bO then Ao5 i.bE else 0))
def Aq5(p:Ac)(s:Int)(c:Ap):Int:=
 if decide (s<0) || decide (s>=(p.aA.length:Int))then 2
 else fE (Jd c.aF) (if c.aI<0\/c.aI>c.dD\/c.aI>6\/c.dD>16 then 2 else if c.aP.length=0 then 7 else if 1000<c.aP.length then 6
  else fE (Qm (Ahz p s c) c.aP) (Rj (decide ((c.aP.getD (c.aP.length-1) default).Op=19) || decide ((c.aP.getD (c.aP.length-1) default).Op=4)) 8))
def An3(s:Az):Bool:=decide (s.aD.length=s.aK.aD.length) && (s.aD.zip s.aK.aD).all λx=>decide (x.1.aF=x.2.aF) && x.1.aI == (x.2.aI.length:Int) && decide (x.2.bD.length=0)
def Bzf(p:Ac)(seen:List Dr)(a:Dr):Int:=
 if a.aV<0\/a.aV>=(p.aA.length:Int)\/a.To<0\/a.To>=(p.aA.length:Int)\/a.aV=a.To\/a.bR<1\/a.bR>1000000000 then 2
 else Rj (!seen.any λx=>x.aV == a.aV && x.To == a.To) 4
def Ao2(p:Ac):List Dr->List Dr->Int
 |_,[]=>0
 |seen,l::k=>fE (Bzf p seen l) (Ao2 p (seen++ [l]) k)
def A3c(p:Ac):Int:=if 32<p.aH.length then 6 else Ao2 p [] p.aH
def Ak3(p:Ac)(s:Az):Ai:=⟨p.aF,[],[s.aK],[]⟩
def Af2(tm:Aa->Bd->Int)(p:Ac):List Yb->List Az->Int
 |_,[]=>0
 |seen,s::k=>fE (At5 tm (Ak3 p s)) (fE (Rj (!seen.any λx=>decide (x=s.aK.aF)) 4) (fE (Rj (An3 s) 8) (Af2 tm p (seen++ [s.aK.aF]) k)))
def Aq6(p:Ac):Nat->List Az->Int
 |_,[]=>0
 |i,s::k=>fE (Qm (Aq5 p (i:Int)) s.aD) (Aq6 p (i+1) k)
def A0k(tm:Aa->Bd->Int)(p:Ac):Int:=
 fE (Jd p.aF) (if p.aA.length=0 then 7 else if 16<p.aA.length then 6 else fE (Af2 tm p [] p.aA) (fE (A3c p) (Aq6 p 0 p.aA)))
theorem As2(L:Nat)(op:Int):Zl L op=some (Mf op):=by
 simp only[Anx,Zl,aN,aB,Mf,Ds,ge_iff_le]
theorem R4{op:Int} :Mf op=true↔1<=op/\op<=19:=by simp[Mf]
theorem A9t:gl0.length=20:=rfl
theorem Bao(L:Nat)(e:Ab)(hL:1<L):Aeh L e=some (Ae6 e):=by
 simp only[Aqs,Aeh,aN,aB,Ab.cp_eq,Akt L e hL,Cr]
structure InG (i:Aq):Prop where
 ok:Agj i
 bk:N9 i<=1048576
theorem A6g(L:Nat)(i:Aq)(hk:Mf i.Op=true)(hd:okD i.bE)(hL:maxLen<L):Zk L i=some (An9 i):=by
 obtain⟨h1,h2⟩:=R4.1 hk;have hl:(1:Nat)<L:=by unfold maxLen at hL;omega
 have e0:((i.aM.length:Int) == 0)=decide (i.aM.length=0):=by
  by_cases h:i.aM.length=0
  ·rw[h];rfl
  ·rw[decide_eq_false h];exact beq_eq_false_iff_ne.2 (by omega)
 simp only[Anw,Zk,aN,aB,Ab.cp_eq,Bao L _ hl,Agv L i.bE T4 hd hL,show(⟨0,0,0,0,[],[]⟩:Bk)=T4 from rfl,Cr,e0];rw[if_pos (show(0:Int)<=i.Op by omega),if_pos (show i.Op<((gl0.length:Nat):Int) by rw[A9t];omega)];show _=some (An9 i)
 unfold An9;rw[show gl0.getD (Int.toNat i.Op) default=O6 i.Op from rfl];generalize ((O6 i.Op).fU != 0)=b1;generalize (i.A == 0)=b2;generalize ((O6 i.Op).fZ != 0)=b3;generalize (i.B == 0)=b4;generalize ((O6 i.Op).u_c)=b5;generalize (i.C == 0)=b6;generalize ((O6 i.Op).fH)=b7;generalize Ae6 i.E=b8;generalize ((O6 i.Op).fM)=b9;generalize Ae6 i.F=b10;generalize ((O6 i.Op).dF)=b11;generalize decide (i.aM.length=0)=b12;generalize ((O6 i.Op).bO)=b13;generalize Aga i.bE T4=b14;generalize ((O6 i.Op).dV)=b15;generalize i.bU=b16;have key:∀a b:Bool,(bif a then true else b)=(a || b):=by decide
 have key2:∀a b:Bool,(bif a then b else false)=(a && b):=by decide
 simp only[key,key2];cases (b1 || b2)<;>cases (b3 || b4)<;>cases (b5 || b6)<;>cases b7<;>cases b8<;>cases b9<;>cases b10<;>cases (b11 || b12)<;>cases b13<;>cases b14<;>cases b15<;>cases b16<;>rfl
theorem Ah5(L:Nat)(x:Av)(w to:Int)(hs:inP x.bJ x.aS)(ht:w=10->inP x.bJ to):Hc L x w to=some (Apc x.bJ x.aS x.u_c w to):=by
 have e:∀(a b:Int),(a == b)=decide (a=b):=λ_ _=>rfl;simp only[Zp,Hc,aN,aB,e];rw[if_pos hs.1,if_pos hs.2];unfold Apc Ez;by_cases h1:w=1<;>simp only[h1,decide_true,decide_false,cond_true,cond_false,if_true,if_false]
 by_cases h2:w=2<;>simp only[h2,decide_true,decide_false,cond_true,cond_false,if_true,if_false]
 by_cases h3:w=3<;>simp only[h3,decide_true,decide_false,cond_true,cond_false,if_true,if_false]
 by_cases h4:w=4<;>simp only[h4,decide_true,decide_false,cond_true,cond_false,if_true,if_false]
 by_cases h5:w=5<;>simp only[h5,decide_true,decide_false,cond_true,cond_false,if_true,if_false]
 by_cases h6:w=6<;>simp only[h6,decide_true,decide_false,cond_true,cond_false,if_true,if_false]
 by_cases h7:w=7<;>simp only[h7,decide_true,decide_false,cond_true,cond_false,if_true,if_false]
 by_cases h8:w=8<;>simp only[h8,decide_true,decide_false,cond_true,cond_false,if_true,if_false]
 by_cases h9:w=9<;>simp only[h9,decide_true,decide_false,cond_true,cond_false,if_true,if_false]
 by_cases h10:w=10
 ·simp only[h10,decide_true,cond_true,if_true,if_pos (ht h10).1,if_pos (ht h10).2]
 simp only[h10,decide_false,cond_false,if_false];by_cases h11:w=11<;>simp only[h11,decide_true,decide_false,cond_true,cond_false,if_true,if_false]
 by_cases h12:w=12<;>simp only[h12,decide_true,decide_false,cond_true,cond_false,if_true,if_false]
 by_cases h13:w=13<;>simp only[h13,decide_true,decide_false,cond_true,cond_false,if_true,if_false]
theorem m6(L:Nat)(x:Av)(w n to:Int)(hs:inP x.bJ x.aS)(ht:w=10->inP x.bJ to):Cy L x w n to=some (Yw x.bJ x.aS x.u_c w n to):=by
 have e:=Ah5 L x w to hs ht;simp only[Abj,Cy,aN,aB,Yw];rw[show Hc L ⟨⟨x.bJ.aF,x.bJ.aA,x.bJ.aH⟩,x.aS,x.u_c⟩ w to=some (Apc x.bJ x.aS x.u_c w to)from e];by_cases h:0<=n
 ·simp[h]
 ·simp[h]
theorem A7y{α :Type} [Inhabited α](l:List α)(i:Nat)(h:i<l.length):l.drop i=l.getD i default::l.drop (i+1):=by
 rw[List.drop_eq_getElem_cons h,J4 l i h]
theorem Bd9(rec:Av->Ab->Option Bool)(L:Nat)(l:List Ab)(x:Av)(e:Ab):∀(k:List Ab) (i:Nat) (v:Int),(∀y∈k,rec x y=some (Aie x.bJ x.aS x.u_c y))->
  ∃n:Nat,Ek rec L l x e k i v=some (bif Agc x.bJ x.aS x.u_c k then(1,(v,(n:Int))) else(0,((n:Int),(n:Int)))):=by
 intro k
 induction k with
 |nil=>intro i v _;exact⟨i,by rw[Ek,Agc];rfl⟩
 |cons y k ih=>
  intro i v h;obtain⟨n,hn⟩:=ih (i+1) v λz hz=>h z (by simp[hz]);rw[Ek,show rec ⟨⟨x.bJ.aF,x.bJ.aA,x.bJ.aH⟩,x.aS,x.u_c⟩ y=_ from h y (by simp),Cr,Agc];cases Aie x.bJ x.aS x.u_c y with
  |true=>exact⟨n,by rw[Bool.not_true,cond_false,hn,Bool.true_and]⟩
  |false=>exact⟨i,rfl⟩
theorem At7{e:Ab}(h:B1 e)(x:Av)(hs:inP x.bJ x.aS):∀L,maxLen+dE e<L->C5 L x e=some (Aie x.bJ x.aS x.u_c e):=by
 induction h with
 |mk a0 a1 a2 a3 h0 h1 h2 h3 h4 ih=>
  intro L hL;obtain⟨L,rfl⟩:∃k,L=k+1:=⟨L-1,by omega⟩;rw[dE]at hL;have hr:∀y∈a3,C5 L x y=some (Aie x.bJ x.aS x.u_c y):=λy hy=>ih y hy L (by have:=Ai7 hy;omega);obtain⟨n,hn⟩:=Bd9 (C5 L) L a3 x (.mk a0 a1 a2 a3) a3 0 0 hr;have hic:Dz (C5 L) L a3 x (.mk a0 a1 a2 a3)=some (bif Agc x.bJ x.aS x.u_c a3 then -1 else(n:Int)):=by
   simp only[Dz,Aeq,U4,aN,aB,Apr _ _ a3 x (.mk a0 a1 a2 a3) _ h3 (show a3.length<L by omega),hn,Cr];cases Agc x.bJ x.aS x.u_c a3<;>rfl
  have hz:(!decide ((bif Agc x.bJ x.aS x.u_c a3 then(-1:Int) else(n:Int))>=0))=Agc x.bJ x.aS x.u_c a3:=by
   cases Agc x.bJ x.aS x.u_c a3 with
   |true=>rfl
   |false=>rw[cond_false,decide_eq_true (show(n:Int)>=0 by omega)];rfl
  have hh:∀w,w≠10->Cy L ⟨⟨x.bJ.aF,x.bJ.aA,x.bJ.aH⟩,x.aS,x.u_c⟩ w a2 0=some (Yw x.bJ x.aS x.u_c w a2 0):=λw hw=>m6 L x w a2 0 hs λh=>absurd h hw;have hm:∀w,w≠10->Hc L ⟨⟨x.bJ.aF,x.bJ.aA,x.bJ.aH⟩,x.aS,x.u_c⟩ w 0=some (Apc x.bJ x.aS x.u_c w 0):=λw hw=>Ah5 L x w 0 hs λh=>absurd h hw;have eq:∀(a b:Int),(a == b)=decide (a=b):=λ_ _=>rfl;simp only[Ai2,O3,Oo,Oq,Ot,Ou,Ov,Ow,Zd,C5,O3,Oo,Oq,Ot,Ou,Ov,Ow,aN,aB,Ab.cp_eq,Ab.Op,Ab.aF,Ab.N,Ab.aY,Ab.eta,hh 1 (by decide),hh 2 (by decide),hh 5 (by decide),hh 6 (by decide),hm 5 (by decide),hm 8 (by decide),hic,Cr,hz,Aie,Bn6,eq];by_cases e1:a0=25
  ·simp only[e1,decide_true,cond_true,if_true];cases Yw x.bJ x.aS x.u_c 1 a2 0<;>rfl
  by_cases e2:a0=26
  ·simp only[e1,e2,decide_true,decide_false,cond_true,cond_false,if_true,if_false];cases Yw x.bJ x.aS x.u_c 2 a2 0<;>rfl
  by_cases e3:a0=22
  ·simp only[e1,e2,e3,decide_true,decide_false,cond_true,cond_false,if_true,if_false];cases Yw x.bJ x.aS x.u_c 5 a2 0<;>rfl
  by_cases e4:a0=23
  ·simp only[e1,e2,e3,e4,decide_true,decide_false,cond_true,cond_false,if_true,if_false];cases Yw x.bJ x.aS x.u_c 6 a2 0<;>rfl
  by_cases e5:a0=24
  ·subst e5;generalize Agc x.bJ x.aS x.u_c a3=r;by_cases hq:a2<Bu (Apc x.bJ x.aS x.u_c 5 0+Apc x.bJ x.aS x.u_c 8 0)<;>simp[hq]
  ·simp only[e1,e2,e3,e4,e5,decide_false,cond_false,if_false,Bool.true_and]
theorem Baz(L:Nat)(l:List Dr)(p:Ac)(a b:Int):∀(k:List Dr) (i:Nat) (v:Int),P5 L l p a b k i v=
  some (match k.findIdx? (λx=>x.aV == a && x.To == b) with|some j=>(0,(((i+j:Nat):Int),((i+j:Nat):Int)))|none=>(1,(v,((i+k.length:Nat):Int)))):=by
 intro k
 induction k with
 |nil=>intro i v;rfl
 |cons x k ih=>
  intro i v;rw[P5,ih,List.findIdx?_cons,Ds];cases hc:(x.aV == a && x.To == b) with
  |true=>rfl
  |false=>
   simp only[cond_false,Bool.false_eq_true,if_false];cases k.findIdx? (λx=>x.aV == a && x.To == b) with
   |some j=>simp[Nat.add_assoc,Nat.add_comm 1]
   |none=>simp[Nat.add_assoc,Nat.add_comm 1]
theorem Bqz(l:List Dr)(a b:Int):A0s l a b=(l.findIdx? λx=>x.aV == a && x.To == b).map λj=>(l.getD j default).bR:=by
 unfold A0s
 induction l with
 |nil=>rfl
 |cons x l ih=>
  rw[List.find?_cons,List.findIdx?_cons];cases hc:(x.aV == a && x.To == b) with
  |true=>rfl
  |false=>
   simp only[Bool.false_eq_true,if_false];rw[ih];cases l.findIdx? (λx=>x.aV == a && x.To == b)<;>rfl
theorem Bd0(L:Nat)(p:Ac)(a b:Int)(hl:p.aH.length<=maxLen)(hL:maxLen<L):Ahc L p a b=some (match A0s p.aH a b with|some d=>(d,true)|none=>(0,false)):=by
 rw[Bqz];have hic:Adb L p.aH p a b=some (Zc (p.aH.findIdx? λx=>x.aV == a && x.To == b)):=by
  simp only[Adb,Asy,Ak2,aN,aB,A4k L p.aH p a b L hl (by omega),Baz,Cr];cases p.aH.findIdx? (λx=>x.aV == a && x.To == b) with
  |none=>rfl
  |some i=>simp[Zc,Ip]
 simp only[A26,Ad1,Ahc,Ad1,aN,aB,hic,Cr];cases hf:p.aH.findIdx? (λx=>x.aV == a && x.To == b) with
 |none=>rfl
 |some i=>
  have hi:i<p.aH.length:=(List.findIdx?_eq_some_iff_getElem.1 hf).1;show(bif decide ((i:Int)<0)then _ else _)=_
  rw[decide_eq_false (show¬(i:Int)<0 by omega),cond_false];show(if(0:Int)<=(i:Int) then(if(i:Int)<((p.aH.length:Nat):Int)then _ else none)else none)=_
  rw[if_pos (show(0:Int)<=(i:Int) by omega),if_pos (show(i:Int)<((p.aH.length:Nat):Int) by omega)];show some ((p.aH.getD (Int.toNat (i:Int)) default).bR,true)=_
  rw[toN];rfl
theorem Af7(L:Nat)(i:Aq)(hk:Mf i.Op=true)(hl:i.aM.length<=1048576):Eo L i=some (R2 i):=by
 obtain⟨h1,h2⟩:=R4.1 hk;simp only[Yr,Eo,aN,aB,Ab.cp_eq,As2,hk,Cr,Bool.not_true,cond_false];rw[if_pos (show(0:Int)<=i.Op by omega),if_pos (show i.Op<((gl0.length:Nat):Int) by rw[A9t];omega)];rw[show gl0.getD (Int.toNat i.Op) default=O6 i.Op from rfl];unfold R2;cases (O6 i.Op).fH<;>cases (O6 i.Op).fM<;>cases (O6 i.Op).dF<;>simp only[cond_true,cond_false,if_true,if_false,List.length_cons,List.length_nil,List.length_append,List.nil_append,List.append_nil,Bool.false_eq_true,List.cons_append]
 all_goals (unfold maxLen;repeat (first|rw[if_pos (by omega)]|rfl))
theorem Bw3{op:Int}(h:Mf op=true):(O6 op).fU≠10:=by
 obtain⟨h1,h2⟩:=R4.1 h;obtain⟨n,rfl⟩:∃n:Nat,op=(n:Int):=⟨op.toNat,by omega⟩;have:∀k:Fin 20,(O6 (k.val:Int)).fU≠10:=by decide
 exact this ⟨n,by omega⟩
theorem Bw4{op:Int}(h:Mf op=true)(h14:op≠14)(h15:op≠15):(O6 op).fZ≠10:=by
 obtain⟨h1,h2⟩:=R4.1 h;obtain⟨n,rfl⟩:∃n:Nat,op=(n:Int):=⟨op.toNat,by omega⟩;have:∀k:Fin 20,(k.val:Int)≠14->(k.val:Int)≠15->(O6 (k.val:Int)).fZ≠10:=by decide
 exact this ⟨n,by omega⟩ h14 h15
theorem Awc{e:Ab}(h:B1 e)(L:Nat)(hL:maxLen+dE e<L):Iv L e=some (D2 true e):=by
 simp only[Abk,Iv,aN,aB,Ab.cp_eq,Ah6 h ⟨true⟩ L hL,Cr]
theorem Ba0(L:Nat)(l:List Ab)(x:Av)(i:Aq)(hs:inP x.bJ x.aS)(k:List Ab)(hk:∀e∈k,B1 e/\maxLen+dE e<L)(j:Nat)(v:Int):
  ∃m,D8 L l x i k j v=some (if Qm (Alo x.bJ x.aS x.u_c) k=0 then(1,(v,m)) else(0,(Qm (Alo x.bJ x.aS x.u_c) k,m))):=by
 refine Bb6 (lq:=D8 L l x i) (bd:=λe=>(Iv L e).bind λr=>bif r != 0 then some r else(C5 L x e).bind λq=>bif !q then some 2 else some 0) (λ_ _=>rfl) (λe k j v=>?_) k j v λe he=>?_
 ·rw[D8];show(Iv L e).bind _=_
  rw[Option.bind_assoc]
  congr 1
  funext r
  cases hr:r != 0 with
  |true=>simp only[cond_true,Cr,hr]
  |false=>
   simp only[cond_false,Option.bind_assoc];show(C5 L x e).bind _=_
   congr 1
   funext q
   cases q<;>rfl
 ·obtain⟨h1,h2⟩:=hk e he;rw[Awc h1 L h2,Cr,At7 h1 x hs L h2,Cr];unfold Alo;by_cases h0:D2 true e=0
  ·rw[h0,Hx];cases Aie x.bJ x.aS x.u_c e<;>rfl
  ·rw[Gu h0,W8 h0];rfl
theorem Bss(p:Ac)(s:Int)(c:Ap)(n to:Int):Yw p s c 10 n to=Yw p 0 default 10 n to:=rfl
theorem Bdk(p:Ac)(s:Int)(c:Ap)(to:Int):Apc p s c 10 to=((Ez p to).aD.length:Int):=rfl
theorem InG.exprs{i:Aq}(h:InG i):∀e∈R2 i,B1 e/\dE e<=1048576:=by
 obtain⟨⟨_,_,_,_,hE,hF,⟨_,hA⟩,_,_⟩,hb⟩:=h;have b:B5 i.E+(B5 i.F+(F7 B5 i.aM))<=1048576:=by unfold N9 at hb;omega
 intro e he;unfold R2 at he;rcases List.mem_append.1 he with he|he
 ·rcases List.mem_append.1 he with he|he
  ·split at he
   ·obtain rfl:=List.mem_singleton.1 he;exact⟨hE,Nat.le_trans (A3o _) (by omega)⟩
   ·cases he
  ·split at he
   ·obtain rfl:=List.mem_singleton.1 he;exact⟨hF,Nat.le_trans (A3o _) (by omega)⟩
   ·cases he
 ·split at he
  ·exact⟨hA e he,Nat.le_trans (A3o _) (Nat.le_trans (W9 (g:=B5) he) (by omega))⟩
  ·cases he
theorem Azc{α :Type}{g: α->Nat}(hg:∀x,1<=g x)(l:List α):l.length<=F7 g l:=by
 induction l with
 |nil=>exact Nat.zero_le _
 |cons x l ih=>
  have:=hg x;show l.length+1<=g x+F7 g l
  omega
theorem Bq3(e:Ab):1<=B5 e:=by cases e;rw[B5];omega
theorem InG.args{i:Aq}(h:InG i):i.aM.length<=1048576:=by
 have hb:=h.bk;have:=Azc Bq3 i.aM;unfold N9 at hb;omega
theorem InG.dist{i:Aq}(h:InG i):okD i.bE:=A4o (by have hb:=h.bk;unfold N9 at hb;omega)
theorem A3t{i:Aq}(h:InG i):(R2 i).length<=1048578:=by
 have:=h.args;unfold R2;split<;>split<;>split<;>simp<;>omega
def Bi4(p:Ac)(s:Int)(c:Ap)(i:Aq):Int:=fE (Qm (Alo p s c) (R2 i)) (if(O6 i.Op).bO then Ao5 i.bE else 0)
theorem A7o(L:Nat)(x:Av)(i:Aq)(hi:InG i)(hs:inP x.bJ x.aS)(hL:Pp<=L)(v:Int){T:Nat×(Int×Int)->Option Int}(hT:∀o,T o=Aov o.1 [some o.2.1,bif (O6 i.Op).bO then(F4 L i.bE).bind λr=>some r else some 0]):
  ((Cv L (R2 i) x i L 0 0).bind T)=some (Bi4 x.bJ x.aS x.u_c i):=by
 have hl:=H2 hL;have hbig:maxLen+4194304<=L:=hL;have hle:=A3t hi;obtain⟨m,hm⟩:=Ba0 L (R2 i) x i hs (R2 i) (λe he=>⟨(hi.exprs e he).1,by have:=(hi.exprs e he).2;omega⟩) 0 0;rw[Aoh L (R2 i) x i L (by unfold maxLen;omega) (by omega),hm,Cr,hT];unfold Bi4;by_cases h0:Qm (Alo x.bJ x.aS x.u_c) (R2 i)=0
 ·rw[if_pos h0,h0,Hx];show(bif (O6 i.Op).bO then(F4 L i.bE).bind λr=>some r else some 0)=_
  rw[Adp L i.bE hi.dist hl,Cr];cases (O6 i.Op).bO<;>rfl
 ·rw[if_neg h0,Gu h0];rfl
theorem A3e(L:Nat)(x:Av)(i:Aq)(hi:InG i)(hk:Mf i.Op=true)(hs:inP x.bJ x.aS)(hL:Pp<=L)(to:Int)(hto:inP x.bJ to){T:Nat×(Int×Int)->Option Int}
  (hT:∀o,T o=Aov o.1 [some o.2.1,bif (O6 i.Op).bO then(F4 L i.bE).bind λr=>some r else some 0]):
  ((Cy L ⟨⟨x.bJ.aF,x.bJ.aA,x.bJ.aH⟩,x.aS,x.u_c⟩ 10 i.B to).bind λr8=>bif !r8 then some 2 else
   if 0<=to then if to<((x.bJ.aA.length:Nat):Int)then if 0<=i.B then if i.B<((((x.bJ.aA.getD (Int.toNat to) default).aD).length:Nat):Int) then
    bif (i.aM.length:Int) != (((x.bJ.aA.getD (Int.toNat to) default).aD).getD (Int.toNat i.B) default).aI then some 8 else
     (Eo L ⟨i.Op,i.A,i.B,i.C,i.E,i.F,i.aM,i.bE,i.bU⟩).bind λr9=>(Cv L r9 x i L 0 0).bind T else none else none else none else none)
   =some (fE (Aw8 x.bJ to i) (Bi4 x.bJ x.aS x.u_c i)):=by
 rw[show Cy L ⟨⟨x.bJ.aF,x.bJ.aA,x.bJ.aH⟩,x.aS,x.u_c⟩ 10 i.B to=_ from m6 L x 10 i.B to hs λ_=>hto,Cr,Bss];unfold Aw8;cases hB:Yw x.bJ 0 default 10 i.B to with
 |false=>rfl
 |true=>
  have hB':=hB;simp only[Yw,Bdk,Bool.and_eq_true,decide_eq_true_eq]at hB';simp only[Bool.not_true,cond_false,Bool.true_eq_false,if_false];rw[if_pos hto.1,if_pos hto.2,if_pos hB'.1,if_pos (show i.B<((((x.bJ.aA.getD (Int.toNat to) default).aD).length:Nat):Int)from of_decide_eq_true hB'.2)];rw[show Eo L ⟨i.Op,i.A,i.B,i.C,i.E,i.F,i.aM,i.bE,i.bU⟩=_ from Af7 L i hk hi.args,Cr,A7o L x i hi hs hL 0 hT];show(bif !((i.aM.length:Int) == (((Ez x.bJ to).aD.getD (Int.toNat i.B) default).aI))then some 8 else _)=_
  cases (i.aM.length:Int) == (((Ez x.bJ to).aD.getD (Int.toNat i.B) default).aI)<;>rfl
theorem Asi(L:Nat)(x:Av)(i:Aq)(hi:InG i)(hs:inP x.bJ x.aS)(hlk:x.bJ.aH.length<=maxLen)(hL:Pp<=L):Iu L x i=some (Ahz x.bJ x.aS x.u_c i):=by
 have hl:=H2 hL;unfold Iu Ahk;simp only[Tg,aN,aB,Ab.cp_eq,As2,Cr];unfold Ahz;cases hk:Mf i.Op with
 |false=>rfl
 |true=>
  have hc:Zk L ⟨i.Op,i.A,i.B,i.C,i.E,i.F,i.aM,i.bE,i.bU⟩=_:=A6g L i hk hi.dist hl;have hex:Eo L ⟨i.Op,i.A,i.B,i.C,i.E,i.F,i.aM,i.bE,i.bU⟩=_:=Af7 L i hk hi.args;have hh:∀w n to,(w=10->inP x.bJ to)->Cy L ⟨⟨x.bJ.aF,x.bJ.aA,x.bJ.aH⟩,x.aS,x.u_c⟩ w n to=some (Yw x.bJ x.aS x.u_c w n to):=λw n to ht=>m6 L x w n to hs ht;obtain⟨h1,h2⟩:=R4.1 hk;simp only[Bool.not_true,cond_false,hc,Cr];cases hcl:An9 i with
  |false=>rfl
  |true=>
   simp only[Bool.not_true,cond_false,Bool.and_self,Bool.true_eq_false,if_false];rw[if_pos (show(0:Int)<=i.Op by omega),if_pos (show i.Op<((gl0.length:Nat):Int) by rw[A9t];omega)];rw[show gl0.getD (Int.toNat i.Op) default=O6 i.Op from rfl];rw[hh _ _ _ λh=>absurd h (Bw3 hk),Cr];show _=some (fE (Bki x.bJ x.aS x.u_c i) (Bi4 x.bJ x.aS x.u_c i))
   unfold Bki;generalize hga:Yw x.bJ x.aS x.u_c (O6 i.Op).fU i.A 0=ga;have e5:(bif !ga then(O6 i.Op).fU != 0 else false)= !(ga || (O6 i.Op).fU == 0):=by cases ga<;>rfl
   rw[e5];cases hgb:(ga || (O6 i.Op).fU == 0) with
   |false=>rfl
   |true=>
    simp only[Bool.not_true,cond_false,Bool.true_eq_false,if_false];by_cases h14:i.Op=14
    ·have hA:inP x.bJ i.A:=by
      have hfa:(O6 i.Op).fU=9:=by rw[h14];rfl
      rw[hfa]at hga hgb;have hgt:ga=true:=by simpa using hgb
      rw[hgt]at hga;simp only[Yw,Bool.and_eq_true,decide_eq_true_eq]at hga;exact hga
     have e14:(i.Op == 14)=true:=beq_iff_eq.2 h14;rw[e14,cond_true,if_pos h14,show Ahc L ⟨x.bJ.aF,x.bJ.aA,x.bJ.aH⟩ x.aS i.A=_ from Bd0 L x.bJ x.aS i.A hlk hl,Cr];cases ha:A0s x.bJ.aH x.aS i.A with
     |none=>rfl
     |some d=>
      by_cases hd:d=i.C
      ·have e7:(d != i.C)=false:=by rw[hd];simp
       simp only[Bool.not_true,cond_false,e7];rw[if_pos (show some d=some i.C by rw[hd])];exact A3e L x i hi hk hs hL i.A hA λo=>rfl
      ·have e7:(d != i.C)=true:=bne_iff_ne.2 hd;simp only[Bool.not_true,cond_false,e7,cond_true];rw[if_neg (λh=>hd (Option.some.inj h)),Gu (by decide)]
    ·have e14:(i.Op == 14)=false:=beq_eq_false_iff_ne.2 h14;rw[e14,cond_false,if_neg h14];by_cases h15:i.Op=15
     ·have e15:(i.Op == 15)=true:=beq_iff_eq.2 h15;rw[e15,cond_true,if_pos h15];exact A3e L x i hi hk hs hL x.aS hs λo=>rfl
     ·have e15:(i.Op == 15)=false:=beq_eq_false_iff_ne.2 h15;rw[e15,cond_false,if_neg h15];rw[hh _ _ _ λh=>absurd h (Bw4 hk h14 h15),Cr,hex,Cr];generalize Yw x.bJ x.aS x.u_c (O6 i.Op).fZ i.B 0=gb;have hR:=A7o L x i hi hs hL 0 (T:=λo=>(Td L i o:Option Int)) λo=>rfl;rw[hR];have nz:((O6 i.Op).fZ != 0)= !((O6 i.Op).fZ == 0):=rfl;rw[nz];cases gb<;>cases ((O6 i.Op).fZ == 0)<;>rfl
theorem A47(L:Nat)(c:Ap)(p:Ac)(s:Int)(hs:inP p s)(hlk:p.aH.length<=maxLen)(hL:Pp<=L)(k:List Aq)(hk:∀i∈k,InG i)(j:Nat)(v:Int):
  ∃m,Ib L c p s k j v=some (if Qm (Ahz p s c) k=0 then(1,(v,m)) else(0,(Qm (Ahz p s c) k,m))):=
 Bb6 (lq:=Ib L c p s) (bd:=λi=>Iu L ⟨p,s,c⟩ i) (λ_ _=>rfl) (λ_ _ _ _=>rfl) k j v λi hi=>Asi L ⟨p,s,c⟩ i (hk i hi) hs hlk hL
structure CoG (c:Ap):Prop where
 ok:Ai0 c
 bk:Rn c<=1048576
theorem CoG.ins{c:Ap}(h:CoG c):∀i∈c.aP,InG i:=λi hi=>⟨h.ok.2.2.2.2 i hi,by have:=W9 (g:=N9) hi;have hb:=h.bk;unfold Rn at hb;omega⟩
theorem A1o(L:Nat)(p:Ac)(s:Int)(c:Ap)(hc:CoG c)(hlk:p.aH.length<=maxLen)(hL:Pp<=L):Qh L p s c=some (Aq5 p s c):=by
 have hl:=H2 hL;obtain⟨hn,hP,hS,hI,_⟩:=hc.ok;have hnm:c.aF.size<L:=Nat.lt_of_le_of_lt hn hl;have e0:((c.aP.length:Int) == 0)=decide (c.aP.length=0):=by
  by_cases h:c.aP.length=0
  ·rw[h];rfl
  ·rw[decide_eq_false h];exact beq_eq_false_iff_ne.2 (by omega)
 have e1000:decide ((c.aP.length:Int)>1000)=decide (1000<c.aP.length):=gtN _ 1000;simp only[Aqr,T0,Ts,Qh,T0,Ts,aN,aB,M9 L c.aF hn hnm,Cr,e0,e1000];unfold Aq5;cases hs:(decide (s<0) || decide (s>=(p.aA.length:Int))) with
 |true=>rw[H3,hs];rfl
 |false=>
  rw[H3,hs];rw[Bool.or_eq_false_iff,decide_eq_false_iff_not,decide_eq_false_iff_not]at hs;have hin:inP p s:=⟨by omega,by omega⟩;simp only[cond_false,Bool.false_eq_true,if_false];by_cases h0:Jd c.aF=0
  ·rw[h0,Hx];have eP:(bif bif bif decide (c.aI<0)then true else decide (c.aI>c.dD)then true else decide (c.aI>6)then true else decide (c.dD>16))=decide (c.aI<0\/c.aI>c.dD\/c.aI>6\/c.dD>16):=by
    simp only[H3,Bool.decide_or,Bool.or_assoc]
   simp only[bne_self_eq_false,cond_false,eP];by_cases hp:c.aI<0\/c.aI>c.dD\/c.aI>6\/c.dD>16
   ·rw[decide_eq_true hp,if_pos hp];rfl
   ·rw[decide_eq_false hp,if_neg hp,cond_false];by_cases hz:c.aP.length=0
    ·rw[decide_eq_true hz,if_pos hz];rfl
    ·rw[decide_eq_false hz,if_neg hz,cond_false];by_cases hm:1000<c.aP.length
     ·rw[decide_eq_true hm,if_pos hm];rfl
     ·rw[decide_eq_false hm,if_neg hm,cond_false];obtain⟨m,hq⟩:=A47 L c p s hin hlk hL c.aP hc.ins 0 0;rw[At4 L c p s L hI (by omega),hq,Cr];have ew:Bu ((c.aP.length:Int)-1)=((c.aP.length-1:Nat):Int):=by rw[No (by omega) (by omega)];omega
      by_cases ha:Qm (Ahz p s c) c.aP=0
      ·rw[if_pos ha,ha,Hx];simp only[Sr,ew,toN];rw[if_pos (by omega),if_pos (by omega)];have e1:∀(a b:Int),(a != b)= !decide (a=b):=λ_ _=>rfl;simp only[e1];cases decide ((c.aP.getD (c.aP.length-1) default).Op=19)<;>cases decide ((c.aP.getD (c.aP.length-1) default).Op=4)<;>rfl
      ·rw[if_neg ha,Gu ha];rfl
  ·rw[Gu h0,W8 h0];rfl
def agP(c:Ap)(r:Al):Bool:=decide (c.aF=r.aF) && c.aI == (r.aI.length:Int) && decide (r.bD.length=0)
def agL:List Ap->List Al->Bool
 |c::k,r::m=>agP c r && agL k m
 |_,_=>true
theorem A3a(s:Az):An3 s=(decide (s.aD.length=s.aK.aD.length) && agL s.aD s.aK.aD):=by
 unfold An3
 congr 1
 generalize s.aD=k;generalize s.aK.aD=m
 induction k generalizing m with
 |nil=>cases m<;>rfl
 |cons c k ih=>cases m with
  |nil=>rfl
  |cons r m=>rw[List.zip_cons_cons,List.all_cons,ih,agL];rfl
theorem A69(L:Nat)(m:List Al)(l:List Ap)(s:Az):∀(k:List Ap) (i:Nat) (v:Bool),i+k.length=m.length->
  ∃j,Ja L m l s k i v=some (bif agL k (m.drop i) then(1,(v,j)) else(0,(false,j))):=by
 intro k
 induction k with
 |nil=>intro i v _;exact⟨i,rfl⟩
 |cons c k ih=>
  intro i v h;rw[List.length_cons]at h;obtain⟨j,hj⟩:=ih (i+1) v (by omega);have hi:i<m.length:=by omega
  rw[Ja,A7y m i hi,if_pos (show(i:Int)<((m.length:Nat):Int) by omega),hj,toN,agL];generalize m.getD i default=r;have e0:((r.bD.length:Int) == 0)=decide (r.bD.length=0):=by
   by_cases h:r.bD.length=0
   ·rw[h];rfl
   ·rw[decide_eq_false h];exact beq_eq_false_iff_ne.2 (by omega)
  rw[Ie,e0];unfold agP;cases decide (c.aF=r.aF)<;>cases (c.aI == (r.aI.length:Int))<;>cases decide (r.bD.length=0)
  all_goals first|exact⟨j,rfl⟩|exact⟨i,rfl⟩
theorem A4w(L:Nat)(s:Az)(hl:s.aD.length<=maxLen)(hL:maxLen<L):Ll L s=some (An3 s):=by
 rw[A3a];have hic:Vg L s.aD s.aK.aD s=some (decide (s.aD.length=s.aK.aD.length) && agL s.aD s.aK.aD):=by
  simp only[Vg,Alq,Wc,Vt,Wc,Vt,aN,aB,Avz L s.aK.aD s.aD s L hl (by omega)];by_cases h:s.aD.length=s.aK.aD.length
  ·obtain⟨j,hj⟩:=A69 L s.aK.aD s.aD s s.aD 0 false (by omega);rw[hj,Cr,List.drop_zero,decide_eq_true h,show((s.aD.length:Int) != (s.aK.aD.length:Int))=false by rw[h];simp];cases agL s.aD s.aK.aD<;>rfl
  ·rw[decide_eq_false h,show((s.aD.length:Int) != (s.aK.aD.length:Int))=true from bne_iff_ne.2 (by omega)];rfl
 simp only[Asp,Vu,Ll,Vu,aN,aB,hic,Cr]
def A5y(l:List Dr):List Ea:=l.map λx=>(⟨x.aV,x.To⟩:Ea)
theorem Bo1(seen:List Dr)(x:Dr):((A5y seen).any λb=>x.aV == b.a0 && x.To == b.a1)=seen.any λy=>y.aV == x.aV && y.To == x.To:=by
 unfold A5y;rw[List.any_map]
 congr 1
 funext y
 show(x.aV == y.aV && x.To == y.To)=_
 rw[Bool.beq_comm (a:=x.aV),Bool.beq_comm (a:=x.To)]
theorem Bd8(L:Nat)(p:Ac):∀(k:List Dr) (i:Nat) (v:Int) (seen:List Dr),
  ∃j a b,Dp L p k i v (A5y seen) (tr (A5y seen))=some (if Ao2 p seen k=0 then(1,(v,(j,a,b))) else(0,(Ao2 p seen k,(j,a,b)))):=by
 intro k
 induction k with
 |nil=>intro i v seen;exact⟨i,_,_,rfl⟩
 |cons x k ih=>
  intro i v seen;obtain⟨j,a,b,hj⟩:=ih (i+1) v (seen++ [x]);have hw:A5y (seen++ [x])=A5y seen++ [(⟨x.aV,x.To⟩:Ea)]:=by unfold A5y;rw[List.map_append];rfl
  have hsn:=Awu (A5y seen) (⟨x.aV,x.To⟩:Ea);rw[hw]at hj;have e1:(bif (bif decide ((if x.To<x.aV then x.To else x.aV)<0)then true else decide ((if x.To>x.aV then x.To else x.aV)>=(p.aA.length:Int)))then true else(x.aV == x.To))=decide (x.aV<0\/x.aV>=(p.aA.length:Int)\/x.To<0\/x.To>=(p.aA.length:Int)\/x.aV=x.To):=by
   rw[H3,H3,show(x.aV == x.To)=decide (x.aV=x.To)from rfl,<-Bool.decide_or,<-Bool.decide_or];refine decide_eq_decide.2 ?_;split<;>split<;>omega
  have e2:(bif decide (x.bR<1)then true else decide (x.bR>1000000000))=decide (x.bR<1\/x.bR>1000000000):=by rw[H3,<-Bool.decide_or]
  rw[Dp,Ao2];simp only[e1,e2];unfold Bzf;by_cases h1:x.aV<0\/x.aV>=(p.aA.length:Int)\/x.To<0\/x.To>=(p.aA.length:Int)\/x.aV=x.To
  ·rw[decide_eq_true h1,if_pos (by omega),Gu (by decide)];exact⟨i,_,_,rfl⟩
  ·by_cases h2:x.bR<1\/x.bR>1000000000
   ·rw[decide_eq_false h1,decide_eq_true h2,if_pos (by omega),Gu (by decide)];exact⟨i,_,_,rfl⟩
   ·rw[decide_eq_false h1,decide_eq_false h2,if_neg (by omega),<-Bo1];simp only[cond_false];cases hf:(A5y seen).findIdx? λb=>x.aV == b.a0 && x.To == b.a1 with
    |some n=>
     rw[Ag2 hf];obtain⟨h3,_⟩:=List.findIdx?_eq_some_iff_getElem.1 hf;simp only[fko,Bbj h3,cond_true,Bool.not_true];refine⟨i,A5y seen,tr (A5y seen),?_⟩;rw[show Rj false 4=4 from rfl,Gu (by decide)];rfl
    |none=>
     rw[Alp hf];simp only[fko,Bool.not_false];rw[hsn,show Rj true 4=0 from rfl,Hx];exact⟨j,a,b,hj⟩
theorem Ban(L:Nat)(p:Ac)(hl:p.aH.length<=maxLen)(hL:maxLen<L):Aeg L p=some (A3c p):=by
 obtain⟨j,a,b,hj⟩:=Bd8 L p p.aH 0 0 [];have hj':Dp L p p.aH 0 0 [] []=_:=hj;have e32:decide ((p.aH.length:Int)>32)=decide (32<p.aH.length):=gtN _ 32;simp only[Azz,Aa2,Aab,Aeg,Aa2,Aab,aN,aB,e32,A1j L p L hl (by omega),hj',Cr,A3c];by_cases h:32<p.aH.length
 ·rw[decide_eq_true h,if_pos h];rfl
 ·rw[decide_eq_false h,if_neg h,cond_false];by_cases h0:Ao2 p [] p.aH=0
  ·rw[if_pos h0,Sr,h0]
  ·rw[if_neg h0,Ip]
structure PG (p:Ac):Prop where
 ok:Ahg p
 bk:Qn p<=1048576
theorem PG.site{p:Ac}(h:PG p):∀s∈p.aA,MG (Ak3 p s)/\s.aD.length<=maxLen/\∀c∈s.aD,CoG c:=by
 intro s hs;obtain⟨hn,⟨hl,hS⟩,hL⟩:=h.ok;obtain⟨hD,hR⟩:=hS s hs;have hb:=h.bk;have h1:=W9 (g:=Et) hs;have h2:Et s<=1048576:=by unfold Qn at hb;omega
 refine⟨⟨?_,?_⟩,hR.1,λc hc=>⟨hR.2 c hc,?_⟩⟩
 ·unfold Aux Ak3;exact⟨hn,⟨Nat.zero_le _,λy hy=>by cases hy⟩,⟨by show 1<=maxLen;unfold maxLen;omega,λy hy=>by rw[List.mem_singleton.1 hy];exact hD⟩,⟨Nat.zero_le _,λy hy=>by cases hy⟩⟩
 ·unfold Qn at hb;generalize F7 Et p.aA=S at h1 hb;unfold Et at h1 h2;unfold An7 Ak3;have e:F7 Dm [s.aK]=Dm s.aK:=by show Dm s.aK+0=_;omega
  rw[e];show(p.aF.size+1)+((0+1)+((Dm s.aK+1)+(0+1)))+1<=1048576
  omega
 ·have h3:=W9 (g:=Rn) hc;unfold Et at h2;omega
theorem A44(L:Nat)(p:Ac)(hL:Pp<=L):∀(k:List Az) (i:Nat) (v:Int) (seen:List Yb),(∀s∈k,MG (Ak3 p s)/\s.aD.length<=maxLen)->
  ∃j a b,Eu L p k i v seen (tr seen)=some (if Af2 Rq p seen k=0 then(1,(v,(j,a,b))) else(0,(Af2 Rq p seen k,(j,a,b)))):=by
 intro k
 induction k with
 |nil=>intro i v seen _;exact⟨i,_,_,rfl⟩
 |cons s k ih=>
  intro i v seen h;obtain⟨hM,hR⟩:=h s (by simp);obtain⟨j,a,b,hj⟩:=ih (i+1) v (seen++ [s.aK.aF]) λy hy=>h y (by simp[hy]);have hsn:=Awu seen s.aK.aF;have hag:Ll L ⟨s.aK,s.aD⟩=_:=A4w L s hR (H2 hL);have eb:∀x,(s.aK.aF == x)=decide (x=s.aK.aF):=λx=>A1y _ _;rw[Eu,show Sy L ⟨p.aF,[],[s.aK],[]⟩=_ from A4y L (Ak3 p s) hM hL,Cr,Af2];by_cases h0:At5 Rq (Ak3 p s)=0
  ·rw[h0,Hx];simp only[bne_self_eq_false,cond_false,hag,Cr,eb];cases hf:seen.findIdx? λx=>decide (x=s.aK.aF) with
   |some n=>
    rw[Ag2 hf];obtain⟨h3,_⟩:=List.findIdx?_eq_some_iff_getElem.1 hf;simp only[fko,Bbj h3,cond_true,Bool.not_true];refine⟨i,seen,tr seen,?_⟩;rw[show Rj false 4=4 from rfl,Gu (by decide)];rfl
   |none=>
    rw[Alp hf];simp only[fko,Bool.not_false];rw[show Rj true 4=0 from rfl,Hx];cases An3 s with
    |false=>exact⟨i,_,_,rfl⟩
    |true=>
     rw[show Rj true 8=0 from rfl,Hx,hsn];exact⟨j,a,b,hj⟩
  ·rw[Gu h0,W8 h0];exact⟨i,_,_,by rw[if_neg h0];rfl⟩
theorem A46(L:Nat)(s:Int)(p:Ac)(o:Nat×(Int×Int×List Yb×List Bool))(hlk:p.aH.length<=maxLen)(hL:Pp<=L)(k:List Ap)(hk:∀c∈k,CoG c)(j:Nat)(v:Int):
  ∃m,Kw L s p o k j v=some (if Qm (Aq5 p s) k=0 then(1,(v,m)) else(0,(Qm (Aq5 p s) k,m))):=
 Bb6 (lq:=Kw L s p o) (bd:=λc=>Qh L p s c) (λ_ _=>rfl) (λ_ _ _ _=>rfl) k j v λc hc=>A1o L p s c (hk c hc) hlk hL
theorem A45(L:Nat)(p:Ac)(o:Nat×(Int×Int×List Yb×List Bool))(hlk:p.aH.length<=maxLen)(hL:Pp<=L)(hS:∀s∈p.aA,s.aD.length<=maxLen/\∀c∈s.aD,CoG c):
  ∀(k:List Az) (i:Nat) (v:Int),p.aA.drop i=k->∃m,Kv L p o k i v=some (if Aq6 p i k=0 then(1,(v,m)) else(0,(Aq6 p i k,m))):=by
 intro k
 induction k with
 |nil=>intro i v _;exact⟨i,rfl⟩
 |cons s k ih=>
  intro i v hd;obtain⟨hi,hg,hd'⟩:=Lz hd;have hs:s∈p.aA:=List.mem_of_mem_drop (by rw[hd];simp);obtain⟨h1,h2⟩:=hS s hs;obtain⟨m,hm⟩:=A46 L (i:Int) p o hlk hL s.aD h2 0 v;obtain⟨j,hj⟩:=ih (i+1) v hd';have hg':(p.aA.getD (Int.toNat (i:Int)) default)=s:=by rw[toN];exact hg
  rw[Kv,Ax2 L (i:Int) p o L (by rw[hg'];exact h1) (by rw[hg'];have:=H2 hL;omega),hg',hm,Cr,Aq6];by_cases h0:Qm (Aq5 p (i:Int)) s.aD=0
  ·rw[if_pos h0,h0,Hx,Sr];exact⟨j,hj⟩
  ·rw[if_neg h0,Gu h0,Ip];exact⟨i,by rw[if_neg h0]⟩
theorem A6f(L:Nat)(p:Ac)(h:PG p)(hL:Pp<=L):U7 L p=some (A0k Rq p):=by
 have hl:=H2 hL;obtain⟨hn,⟨hSl,_⟩,⟨hLl,_⟩⟩:=h.ok;have hS:=h.site;have hnm:p.aF.size<L:=Nat.lt_of_le_of_lt hn hl;have e0:((p.aA.length:Int) == 0)=decide (p.aA.length=0):=by
  by_cases h:p.aA.length=0
  ·rw[h];rfl
  ·rw[decide_eq_false h];exact beq_eq_false_iff_ne.2 (by omega)
 have e16:decide ((p.aA.length:Int)>16)=decide (16<p.aA.length):=gtN _ 16;simp only[Auy,Yd,Afx,Yf,Xu,U7,Yd,Afx,Yf,Xu,aN,aB,M9 L p.aF hn hnm,Cr,e0,e16];unfold A0k;by_cases h0:Jd p.aF=0
 ·rw[h0,Hx];simp only[bne_self_eq_false,cond_false];by_cases hz:p.aA.length=0
  ·rw[decide_eq_true hz,if_pos hz];rfl
  ·rw[decide_eq_false hz,if_neg hz,cond_false];by_cases hm:16<p.aA.length
   ·rw[decide_eq_true hm,if_pos hm];rfl
   ·rw[decide_eq_false hm,if_neg hm,cond_false];obtain⟨j,a,b,hj⟩:=A44 L p hL p.aA 0 0 [] λs hs=>⟨(hS s hs).1,(hS s hs).2.1⟩;have hj':Eu L p p.aA 0 0 [] []=_:=hj;rw[Ax0 L p L hSl (by omega),hj',Cr];by_cases hs:Af2 Rq p [] p.aA=0
    ·rw[if_pos hs,hs,Hx];simp only[Sr];rw[show Aeg L ⟨p.aF,p.aA,p.aH⟩=_ from Ban L p hLl hl,Cr];by_cases ha:A3c p=0
     ·rw[ha,Hx];simp only[bne_self_eq_false,cond_false];obtain⟨m,hm⟩:=A45 L p (1,(0,(j,a,b))) hLl hL (λs hs=>⟨(hS s hs).2.1,(hS s hs).2.2⟩) p.aA 0 0 rfl;rw[Ax1 L p (1,(0,(j,a,b))) L hSl (by omega),hm,Cr];by_cases hc:Aq6 p 0 p.aA=0
      ·rw[if_pos hc,hc,Sr]
      ·rw[if_neg hc,Ip]
     ·rw[Gu ha,W8 ha];rfl
    ·rw[if_neg hs,Gu hs];rfl
 ·rw[Gu h0,W8 h0];rfl
def Bcf(ks:List Am)(a b:Int):List Am:=match ks.findIdx? (λc=>a == c.dA && b == c.aR) with
 |some i=>ks.take i++ks.drop (i+1)
 |none=>ks
def Bat(ks:List Am)(a b:Int):List Am:=match ks.findIdx? (λc=>a == c.dA && b == c.aR) with
 |some _=>ks
 |none=>ks++ [⟨a,b⟩]
def Ao6(a:Int):Nat->Nat->List Am->List Am
 |_,0,ks=>ks
 |i,d+1,ks=>Ao6 a (i+1) d (Bcf ks a (i:Int))
theorem B4b(ks:List Am)(i:Nat)(h:i<ks.length):(tr ks).take i++(tr ks).drop (i+1)=tr (ks.take i++ks.drop (i+1)):=by
 unfold tr;rw[List.take_replicate,List.drop_replicate,List.replicate_append_replicate]
 congr 1
 rw[List.length_append,List.length_take,List.length_drop]
theorem B4c(ks:List Am)(i:Nat):(tr ks).set i true=tr ks:=by
 unfold tr;apply List.ext_getElem?;intro j;rw[List.getElem?_set];split
 ·rename_i h;subst h;split
  ·rename_i h;rw[List.getElem?_eq_getElem (by simpa using h),List.getElem_replicate]
  ·rename_i h;rw[List.getElem?_eq_none (by simpa using h)]
 ·rfl
theorem A9s{R:Type}(ks:List Am)(a b:Int)(F:List Am->List Bool->Option R):
  fko (ks.findIdx? λc=>a == c.dA && b == c.aR) (λi=>F ((ks.take i).drop 0++(ks.take ks.length).drop (i+1)) (((tr ks).take i).drop 0++((tr ks).take (tr ks).length).drop (i+1))) (F ks (tr ks))=F (Bcf ks a b) (tr (Bcf ks a b)):=by
 unfold Bcf;cases h:ks.findIdx? λc=>a == c.dA && b == c.aR with
 |none=>rfl
 |some i=>
  have hi:=(List.findIdx?_eq_some_iff_getElem.1 h).1;simp only[fko,List.drop_zero,List.take_length,B4b ks i hi]
theorem Big{R:Type}(ks:List Am)(a b:Int)(F:List Am->List Bool->Option R):
  fko (ks.findIdx? λc=>a == c.dA && b == c.aR) (λi=>F ks ((tr ks).set i true)) (F (ks++ [(⟨a,b⟩:Am)]) (tr ks++ [true]))=F (Bat ks a b) (tr (Bat ks a b)):=by
 unfold Bat;cases h:ks.findIdx? λc=>a == c.dA && b == c.aR with
 |none=>simp only[fko];rw[Awu]
 |some i=>simp only[fko,B4c]
theorem Bnm(L:Nat)(m:Nat)(y:Au)(a b:Int)(c d' e:Nat)(P:List Int)(x:Au)(H W I:List Int)(hl:m<=maxLen):∀(d i n:Nat) (ks:List Am),i+d=m->d<n->
  Ei L m y a b c d' e P x H W I n (i:Int) ks (tr ks)=some (0,((m:Int),Ao6 x.bZ i d ks,tr (Ao6 x.bZ i d ks))):=by
 intro d
 induction d with
 |zero=>
  intro i n ks h hn;obtain⟨n,rfl⟩:∃k,n=k+1:=⟨n-1,by omega⟩;rw[Ei,Oe];simp only[aN,aB,D3 (show m<=i by omega),cond_false,Ao6];rw[show i=m by omega]
 |succ d ih=>
  intro i n ks h hn;obtain⟨n,rfl⟩:∃k,n=k+1:=⟨n-1,by omega⟩;rw[Ei,Oe];simp only[aN,aB,Dx (show i<m by omega),cond_true,Bb (show i<m by omega) hl,Ao6];rw[A9s ks _ (i:Int) (λa' b'=>Ei L m y a b c d' e P x H W I n ((i+1:Nat):Int) a' b')];exact ih (i+1) n _ (by omega) (by omega)
theorem Bnn(L:Nat)(m:Nat)(y:Au)(a b:Int)(c d' e:Nat)(P H W I:List Int)(x:Au)(hl:m<=maxLen):∀(d i n:Nat) (ks:List Am),i+d=m->d<n->
  Ej L m y a b c d' e P H W I x n (i:Int) ks (tr ks)=some (0,((m:Int),Ao6 x.bZ i d ks,tr (Ao6 x.bZ i d ks))):=by
 intro d
 induction d with
 |zero=>
  intro i n ks h hn;obtain⟨n,rfl⟩:∃k,n=k+1:=⟨n-1,by omega⟩;rw[Ej,Og];simp only[aN,aB,D3 (show m<=i by omega),cond_false,Ao6];rw[show i=m by omega]
 |succ d ih=>
  intro i n ks h hn;obtain⟨n,rfl⟩:∃k,n=k+1:=⟨n-1,by omega⟩;rw[Ej,Og];simp only[aN,aB,Dx (show i<m by omega),cond_true,Bb (show i<m by omega) hl,Ao6];rw[A9s ks _ (i:Int) (λa' b'=>Ej L m y a b c d' e P H W I x n ((i+1:Nat):Int) a' b')];exact ih (i+1) n _ (by omega) (by omega)
def A5n(s t:Int)(x:Au):Bool:=x.bW == s && decide (x.Time<=t)
def Avg(m:Nat)(l:List Int)(ix d:Int):List Int:=if 0<=ix/\ix<(m:Int)then l.set (Int.toNat ix) (Bu (l.getD (Int.toNat ix) default+d))else l
structure Dim where
 r:Nat
 h:Nat
 i:Nat
def Aip(p:Ac)(s:Int):Dim:=⟨(Ez p s).aD.length,(Ez p s).aK.aG.length,(Ez p s).aK.aL.length⟩
def Arz(n:Int):Bool:=decide (1<=n) && decide (n<=1000)
structure Pic where
 ks:List Am
 P:List Int
 H:List Int
 I:List Int
def Ajy(m:Dim)(x:Au)(v:Pic):Pic:=
 if x.aQ=1 then { v with P:=Avg m.r v.P x.aJ 1 }
 else if x.aQ=2 then { v with ks:=Ao6 x.bZ 0 m.h v.ks,P:=Avg m.r v.P x.aJ (-1) }
 else if x.aQ=8 then { v with I:=Avg m.i v.I x.aJ 1 }
 else if x.aQ=9 then { v with I:=Avg m.i v.I x.aJ (-1) }
 else if 0<=x.aJ/\x.aJ<(m.h:Int) then
  if x.aQ=5 then { v with ks:=Bat v.ks x.bZ x.aJ }
  else if Arz x.Value=false then v
  else if x.aQ=4 then { v with ks:=Bcf v.ks x.bZ x.aJ,H:=Avg m.h v.H x.aJ x.Value }
  else if x.aQ=6 then { v with H:=Avg m.h v.H x.aJ (Bu (0-x.Value)) }
  else if x.aQ=7 then { v with ks:=Bat v.ks x.bZ x.aJ,H:=Avg m.h v.H x.aJ (Bu (0-x.Value)) }
  else v
 else v
def Wr(m:Dim)(s t:Int):List Au->Pic->Pic
 | [],v=>v
 |x::k,v=>Wr m s t k (bif A5n s t x then Ajy m x v else v)
def A3l(h:Nat)(x:Au)(ks:List Am)(H:List Int):List Am×List Int:=
 if 0<=x.aJ/\x.aJ<(h:Int) then
  if x.aQ=5 then(Bat ks x.bZ x.aJ,H)
  else if Arz x.Value=false then(ks,H)
  else if x.aQ=4 then(Bcf ks x.bZ x.aJ,Avg h H x.aJ x.Value)
  else if x.aQ=6 then(ks,Avg h H x.aJ (Bu (0-x.Value)))
  else if x.aQ=7 then(Bat ks x.bZ x.aJ,Avg h H x.aJ (Bu (0-x.Value)))
  else(ks,H)
 else(ks,H)
theorem Bkk(L:Nat)(x y z:Au)(ks:List Am)(s t:Int)(r nh h2 i:Nat)(P H W I:List Int):
  Gh L x y ks (tr ks) t s r nh h2 i P H W I z=some ((A3l nh x ks H).1,tr (A3l nh x ks H).1,(A3l nh x ks H).2):=by
 simp only[Gh,Ux,aN,aB];unfold A3l Avg;by_cases hin:0<=x.aJ/\x.aJ<(nh:Int)
 ·have a1:(0<=x.aJ)=True:=eq_true hin.1;have a2:(x.aJ<(nh:Int))=True:=eq_true hin.2;have a3:(x.aJ<0)=False:=eq_false (by omega);have a4:(x.aJ>=(nh:Int))=False:=eq_false (by omega);have a5:(x.aJ>=0)=True:=eq_true (by omega);simp only[a1,a2,a3,a4,a5,and_self,if_true,decide_true,decide_false,Bool.and_self,cond_true,cond_false];have ub:Arz x.Value=(!decide (x.Value<1) && !decide (x.Value>1000)):=by
   unfold Arz;rw[Bool.eq_iff_iff];simp only[Bool.and_eq_true,decide_eq_true_eq,Bool.not_eq_true',decide_eq_false_iff_not];omega
  rw[ub];by_cases w5:x.aQ=5
  ·simp only[w5,show((5:Int) == 4)=false from rfl,show((5:Int) == 6)=false from rfl,show((5:Int) == 7)=false from rfl,show((5:Int) == 5)=true from rfl,show((5:Int) != 5)=false from rfl,cond_true,cond_false,if_true];exact Big ks x.bZ x.aJ λa b=>some (a,b,H)
  ·have n5:(x.aQ == 5)=false:=beq_eq_false_iff_ne.2 w5;have n5':(x.aQ != 5)=true:=bne_iff_ne.2 w5;simp only[n5,n5',w5,cond_true,cond_false,if_false];cases hv1:decide (x.Value<1) with
   |true=>simp only[Bool.not_true,Bool.false_and,cond_true,if_true]
   |false=>
    cases hv2:decide (x.Value>1000) with
    |true=>simp only[Bool.not_true,Bool.not_false,Bool.and_false,cond_true,cond_false,if_true]
    |false=>
     simp only[Bool.not_false,Bool.and_self,cond_false,Bool.true_eq_false,if_false];by_cases w4:x.aQ=4
     ·simp only[w4,show((4:Int) == 4)=true from rfl,cond_true,if_true];exact A9s ks x.bZ x.aJ λa b=>some (a,b,H.set (Int.toNat x.aJ) (Bu (H.getD (Int.toNat x.aJ) default+x.Value)))
     ·have n4:(x.aQ == 4)=false:=beq_eq_false_iff_ne.2 w4;by_cases w6:x.aQ=6
      ·simp only[w6,show((6:Int) == 4)=false from rfl,show((6:Int) == 6)=true from rfl,show((6:Int)=4)=False from by simp,cond_true,cond_false,if_true,if_false]
      ·have n6:(x.aQ == 6)=false:=beq_eq_false_iff_ne.2 w6;by_cases w7:x.aQ=7
       ·simp only[w7,show((7:Int) == 4)=false from rfl,show((7:Int) == 6)=false from rfl,show((7:Int) == 7)=true from rfl,show((7:Int)=4)=False from by simp,show((7:Int)=6)=False from by simp,cond_true,cond_false,if_true,if_false];exact Big ks x.bZ x.aJ λa b=>some (a,b,H.set (Int.toNat x.aJ) (Bu (H.getD (Int.toNat x.aJ) default+Bu (0-x.Value))))
       ·have n7:(x.aQ == 7)=false:=beq_eq_false_iff_ne.2 w7;simp only[n4,n6,n7,w4,w6,w7,cond_false,if_false]
 ·have hor:decide (x.aJ<0)=true\/decide (x.aJ>=(nh:Int))=true:=by
   by_cases h:x.aJ<0
   ·exact .inl (decide_eq_true h)
   ·exact .inr (decide_eq_true (by omega))
  rw[if_neg hin];rcases hor with h|h
  ·simp only[h,cond_true]
  ·simp only[h,cond_true];cases decide (x.aJ<0)<;>rfl
theorem Bnq(L:Nat)(x y:Au)(s t:Int)(m:Dim)(v:Pic)(W:List Int)(hm:m.h<=maxLen)(hL:m.h<L):
  Hs L x y v.ks (tr v.ks) t s m.r m.h m.h m.i v.P v.H W v.I=some ((Ajy m x v).ks,tr (Ajy m x v).ks,(Ajy m x v).P,(Ajy m x v).H,(Ajy m x v).I):=by
 have h2:Ei L m.h y t s m.r m.h m.i v.P x v.H W v.I L 0 v.ks (tr v.ks)=_:=Bnm L m.h y t s m.r m.h m.i v.P x v.H W v.I hm _ 0 L v.ks (Nat.zero_add _) hL;have h3:Ej L m.h y t s m.r m.h m.i v.P v.H W v.I x L 0 v.ks (tr v.ks)=_:=Bnn L m.h y t s m.r m.h m.i v.P v.H W v.I x hm _ 0 L v.ks (Nat.zero_add _) hL;simp only[Hs,Aep,O2,Ol,Om,On,Nd,Nf,Ng,O2,Ol,Om,On,Nd,Nf,Ng,aN,aB,h2,h3,Bkk,Cr,Ip];obtain⟨ks,P,H,I⟩:=v;unfold Ajy A3l Avg;simp only;by_cases w1:x.aQ=1
 ·simp only[w1,show((1:Int) == 1)=true from rfl,cond_true,if_true];by_cases a1:0<=x.aJ<;>by_cases a2:x.aJ<(m.r:Int)<;>simp only[ge_iff_le,a1,a2,decide_true,decide_false,cond_true,cond_false,if_true,if_false,and_self,and_false,false_and,true_and]
 by_cases w2:x.aQ=2
 ·simp only[w2,show((2:Int) == 1)=false from rfl,show((2:Int) == 2)=true from rfl,show((2:Int)=1)=False from by simp,cond_true,cond_false,if_true,if_false];by_cases a1:0<=x.aJ<;>by_cases a2:x.aJ<(m.r:Int)<;>simp only[ge_iff_le,a1,a2,decide_true,decide_false,cond_true,cond_false,if_true,if_false,and_self,and_false,false_and,true_and]
 by_cases w8:x.aQ=8
 ·simp only[w8,show((8:Int) == 1)=false from rfl,show((8:Int) == 2)=false from rfl,show((8:Int) == 8)=true from rfl,show((8:Int)=1)=False from by simp,show((8:Int)=2)=False from by simp,cond_true,cond_false,if_true,if_false];by_cases a1:0<=x.aJ<;>by_cases a2:x.aJ<(m.i:Int)<;>simp only[ge_iff_le,a1,a2,decide_true,decide_false,cond_true,cond_false,if_true,if_false,and_self,and_false,false_and,true_and]
 by_cases w9:x.aQ=9
 ·simp only[w9,show((9:Int) == 1)=false from rfl,show((9:Int) == 2)=false from rfl,show((9:Int) == 8)=false from rfl,show((9:Int) == 9)=true from rfl,show((9:Int)=1)=False from by simp,show((9:Int)=2)=False from by simp,show((9:Int)=8)=False from by simp,cond_true,cond_false,if_true,if_false];by_cases a1:0<=x.aJ<;>by_cases a2:x.aJ<(m.i:Int)<;>simp only[ge_iff_le,a1,a2,decide_true,decide_false,cond_true,cond_false,if_true,if_false,and_self,and_false,false_and,true_and]
 have n1:(x.aQ == 1)=false:=beq_eq_false_iff_ne.2 w1;have n2:(x.aQ == 2)=false:=beq_eq_false_iff_ne.2 w2;have n8:(x.aQ == 8)=false:=beq_eq_false_iff_ne.2 w8;have n9:(x.aQ == 9)=false:=beq_eq_false_iff_ne.2 w9;simp only[n1,n2,n8,n9,w1,w2,w8,w9,cond_false,if_false];by_cases hin:0<=x.aJ/\x.aJ<(m.h:Int)
 ·simp only[if_pos hin];by_cases w4:x.aQ=4
  ·simp only[w4,show((4:Int) == 4)=true from rfl,show((4:Int)=5)=False from by simp,cond_true,if_true,if_false];cases Arz x.Value<;>rfl
  by_cases w6:x.aQ=6
  ·simp only[w6,show((6:Int) == 4)=false from rfl,show((6:Int) == 6)=true from rfl,show((6:Int)=5)=False from by simp,show((6:Int)=4)=False from by simp,cond_true,cond_false,if_true,if_false];cases Arz x.Value<;>rfl
  by_cases w7:x.aQ=7
  ·simp only[w7,show((7:Int) == 4)=false from rfl,show((7:Int) == 6)=false from rfl,show((7:Int) == 7)=true from rfl,show((7:Int)=5)=False from by simp,show((7:Int)=4)=False from by simp,show((7:Int)=6)=False from by simp,cond_true,cond_false,if_true,if_false];cases Arz x.Value<;>rfl
  by_cases w5:x.aQ=5
  ·simp only[w5,show((5:Int) == 4)=false from rfl,show((5:Int) == 6)=false from rfl,show((5:Int) == 7)=false from rfl,show((5:Int) == 5)=true from rfl,cond_true,cond_false,if_true]
  ·have n4:(x.aQ == 4)=false:=beq_eq_false_iff_ne.2 w4;have n5:(x.aQ == 5)=false:=beq_eq_false_iff_ne.2 w5;have n6:(x.aQ == 6)=false:=beq_eq_false_iff_ne.2 w6;have n7:(x.aQ == 7)=false:=beq_eq_false_iff_ne.2 w7;simp only[n4,n5,n6,n7,w4,w5,w6,w7,cond_false,if_false];cases Arz x.Value<;>rfl
 ·simp only[if_neg hin];cases (x.aQ == 4)<;>cases (x.aQ == 6)<;>cases (x.aQ == 7)<;>cases (x.aQ == 5)<;>rfl
theorem Bkq(L:Nat)(s t:Int)(l:List Au)(p:Ac)(hm:(Ez p s).aK.aG.length<=maxLen)(hL:(Ez p s).aK.aG.length<L):∀(k:List Au) (i:Nat) (v:Pic),l.drop i=k->
  D0 L s t l p k i v.ks (tr v.ks) v.P v.H v.I=some (0,(((i+k.length:Nat):Int),(Wr (Aip p s) s t k v).ks,tr (Wr (Aip p s) s t k v).ks,(Wr (Aip p s) s t k v).P,(Wr (Aip p s) s t k v).H,(Wr (Aip p s) s t k v).I)):=by
 intro k
 induction k with
 |nil=>intro i v _;rfl
 |cons x k ih=>
  intro i v hd;obtain⟨_,hx,hd'⟩:=Lz hd;rw[D0,Wr,List.length_cons,show i+(k.length+1)=i+1+k.length by omega];have e1:(bif x.bW == s then decide (x.Time<=t)else false)=A5n s t x:=by unfold A5n;rw[Ds]
  show(bif (bif x.bW == s then decide (x.Time<=t)else false)then _ else _)=_
  rw[e1];cases A5n s t x with
  |false=>exact ih (i+1) v hd'
  |true=>
   have:=Bnq L x x s t (Aip p s) v (List.replicate (Aip p s).h 0) hm hL;simp only[cond_true,toN];rw[show Hs L x x v.ks (tr v.ks) t s ((p.aA.getD (Int.toNat s) default).aD.length) ((p.aA.getD (Int.toNat s) default).aK.aG.length) ((p.aA.getD (Int.toNat s) default).aK.aG.length) ((p.aA.getD (Int.toNat s) default).aK.aL.length) v.P v.H (List.replicate ((p.aA.getD (Int.toNat s) default).aK.aG.length) 0) v.I=_ from this,Cr];exact ih (i+1) (Ajy (Aip p s) x v) hd'
def Bjg(m:Nat)(ks:List Am):List Int:=ks.foldl (λv c=>A3h c.aR (m:Int) v) (List.replicate m 0)
theorem Bf0{α β :Type} [Inhabited α](l:List α)(g: α->β->β)(F:Nat->β->Option β)(hF:∀i v,F i v=some (g (l.getD i default) v)):∀(k:List α) (i:Nat) (v: β),l.drop i=k->Aht F (List.range' i k.length) v=some (k.foldl (λv c=>g c v) v):=by
 intro k
 induction k with
 |nil=>intro i v _;rfl
 |cons x k ih=>
  intro i v hd;obtain⟨_,hx,hd'⟩:=Lz hd;rw[List.length_cons,List.range'_succ,Aht,hF,hx,Cr,ih (i+1) _ hd'];rfl
def Bas(m:Dim):Pic:=⟨[],List.replicate m.r 0,List.replicate m.h 0,List.replicate m.i 0⟩
def Bih(s t:Int)(m:Dim)(v:Pic):Ao:=⟨t,s,v.P,v.H,Bjg m.h v.ks,v.I⟩
def Bgo(p:Ac)(l:List Au)(s t:Int):Ao:=Bih s t (Aip p s) (Wr (Aip p s) s t l (Bas (Aip p s)))
def Bma(m:Dim)(n:Nat):Prop:=m.r<=n/\m.h<=n/\m.i<=n
theorem Bh8(ks:List Am)(a b:Int):(Bcf ks a b).length<=ks.length:=by
 unfold Bcf;split
 ·rw[List.length_append,List.length_take,List.length_drop];omega
 ·exact Nat.le_refl _
theorem Bu5(ks:List Am)(a b:Int):(Bat ks a b).length<=ks.length+1:=by
 unfold Bat;split
 ·omega
 ·rw[List.length_append];simp
theorem Bch(a:Int):∀(d i:Nat) (ks:List Am),(Ao6 a i d ks).length<=ks.length
 |0,i,ks=>Nat.le_refl _
 |d+1,i,ks=>by rw[Ao6];exact Nat.le_trans (Bch a d (i+1) _) (Bh8 ks a _)
theorem Bwp(m:Dim)(x:Au)(v:Pic):(Ajy m x v).ks.length<=v.ks.length+1:=by
 unfold Ajy;have h1:=Bch x.bZ m.h 0 v.ks;have h2:=Bu5 v.ks x.bZ x.aJ;have h3:=Bh8 v.ks x.bZ x.aJ
 repeat' split
 all_goals first|omega|(simp only;omega)
theorem Bi0(m:Dim)(s t:Int):∀(k:List Au) (v:Pic),(Wr m s t k v).ks.length<=v.ks.length+k.length
 | [],v=>Nat.le_refl _
 |x::k,v=>by
  rw[Wr];have h1:=Bi0 m s t k (bif A5n s t x then Ajy m x v else v);have h2:(bif A5n s t x then Ajy m x v else v).ks.length<=v.ks.length+1:=by
   cases A5n s t x with
   |true=>exact Bwp m x v
   |false=>show v.ks.length<=_;omega
  rw[List.length_cons];omega
theorem A3i(m:Nat)(l:List Int)(a d:Int):(Avg m l a d).length=l.length:=by
 unfold Avg;split
 ·rw[List.length_set]
 ·rfl
structure A82 (m:Dim) (v:Pic):Prop where
 p:v.P.length=m.r
 h:v.H.length=m.h
 i:v.I.length=m.i
theorem Bon(m:Dim)(x:Au)(v:Pic)(h:A82 m v):A82 m (Ajy m x v):=by
 obtain⟨h1,h2,h3⟩:=h;unfold Ajy
 repeat' split
 all_goals exact⟨by simp only[A3i,h1],by simp only[A3i,h2],by simp only[A3i,h3]⟩
theorem Bd2(m:Dim)(s t:Int):∀(k:List Au) (v:Pic),A82 m v->A82 m (Wr m s t k v)
 | [],v,h=>h
 |x::k,v,h=>by
  rw[Wr];refine Bd2 m s t k _ ?_;cases A5n s t x with
  |true=>exact Bon m x v h
  |false=>exact h
theorem Bo0(m:Nat)(ks:List Am):(Bjg m ks).length=m:=by
 unfold Bjg;have:∀(ks:List Am) (v:List Int),(ks.foldl (λv c=>A3h c.aR (m:Int) v) v).length=v.length:=by
  intro ks
  induction ks with
  |nil=>intro v;rfl
  |cons c ks ih=>intro v;rw[List.foldl_cons,ih];unfold A3h;split<;>simp
 rw[this,List.length_replicate]
theorem Bu4(p:Ac)(l:List Au)(s t:Int)(n:Nat)(h:Bma (Aip p s) n):Ba7 (Bgo p l s t) n:=by
 have h1:=Bd2 (Aip p s) s t l (Bas (Aip p s)) ⟨by simp[Bas],by simp[Bas],by simp[Bas]⟩;obtain⟨a,b,c⟩:=h;refine⟨?_,?_,?_,?_⟩
 ·show(Wr _ s t l _).P.length<=n;rw[h1.p];exact a
 ·show(Wr _ s t l _).H.length<=n;rw[h1.h];exact b
 ·show(Bjg _ _).length<=n;rw[Bo0];exact b
 ·show(Wr _ s t l _).I.length<=n;rw[h1.i];exact c
theorem At6(L:Nat)(p:Ac)(l:List Au)(s t:Int)(hs:inP p s)(hd:Bma (Aip p s) 1048576)(hl:l.length<=1048576)(hL:maxLen<L):J1 L p l s t=some (Bgo p l s t):=by
 obtain⟨d1,d2,d3⟩:=hd;have d1:(Ez p s).aD.length<=1048576:=d1;have d2:(Ez p s).aK.aG.length<=1048576:=d2;have d3:(Ez p s).aK.aL.length<=1048576:=d3;have hmx:1048577<maxLen:=by unfold maxLen;omega
 have hq:D0 L s t l p l 0 [] [] (List.replicate (Ez p s).aD.length 0) (List.replicate (Ez p s).aK.aG.length 0) (List.replicate (Ez p s).aK.aL.length 0)=_:=
  Bkq L s t l p (by omega) (by omega) l 0 (Bas (Aip p s)) rfl
 have hk:=Bi0 (Aip p s) s t l (Bas (Aip p s));unfold J1 Ai1;simp only[Te,Abd,Tf,S9,aN,aB,show p.aA.getD (Int.toNat s) default=Ez p s from rfl,toN];rw[if_pos hs.1,if_pos hs.2]
 repeat rw[if_pos (by omega)]
 rw[Apq L s t l p L (by omega) (by omega),hq,Cr,Ip];generalize hv:Wr (Aip p s) s t l (Bas (Aip p s))=v;rw[hv]at hk;have hk':v.ks.length<=1048576:=by
  have:(Bas (Aip p s)).ks.length=0:=rfl;omega
 unfold U2;simp only;rw[if_pos (show v.ks.length<L by omega)];have hf:=Bf0 v.ks (λc w=>A3h c.aR ((Ez p s).aK.aG.length:Int) w) (λi0 w=>(Dk L (0,(((0+l.length:Nat):Int),v.ks,tr v.ks,v.P,v.H,v.I)) t s p i0 w:Option (List Int))) (λi w=>by
  rw[Bnz];simp only[show gD p.aA s=Ez p s from rfl,show p.aA.getD (Int.toNat s) default=Ez p s from rfl,toN]) v.ks 0 (List.replicate (Ez p s).aK.aG.length 0) rfl
 rw[List.range_eq_range',hf,Cr];unfold Bgo Bih;rw[hv];rfl
def Bx0:Ao:=⟨0,0,[],[],[],[]⟩
def Bfk(p:Ac)(s t:Int):Bool:=decide (s<0) || decide (s>=(p.aA.length:Int)) || decide (t<0) || decide (t>1000000000)
theorem A4v(L:Nat)(p:Ac)(s t:Int):Sx L p s t=some (Bfk p s t):=by
 simp only[Akd,Sx,aN,aB,Bfk,H3]
def atF(p:Ac)(l:List Au)(s t:Int):Ao×Int:=if A0k Rq p≠0 then(Bx0,A0k Rq p)else bif Bfk p s t then(Bx0,2) else(Bgo p l s t,0)
theorem PG.dim{p:Ac}(h:PG p){s:Int}(hs:inP p s):Bma (Aip p s) 1048576:=by
 have hm:Ez p s∈p.aA:=by
  unfold Ez;have hl:Int.toNat s<p.aA.length:=by have:=hs.1;have:=hs.2;omega
  rw[J4 _ _ hl];exact List.getElem_mem hl
 obtain⟨hM,_,_⟩:=h.site _ hm;have hS:SG (Ez p s).aK:=hM.site _ (by show _∈ [(Ez p s).aK];simp);have hb:=h.bk;have h1:=W9 (g:=Et) hm;have h2:Et (Ez p s)<=1048576:=by unfold Qn at hb;omega
 have hr:=Azc (g:=Rn) (λx=>by unfold Rn;omega) (Ez p s).aD;unfold Et at h2;have hln:Ah4 (Ez p s).aK (Dm (Ez p s).aK):=A35 _;refine⟨by show(Ez p s).aD.length<=_;omega,?_,?_⟩
 ·have:=hln.2.1;show(Ez p s).aK.aG.length<=_;omega
 ·have:=hln.2.2.1;show(Ez p s).aK.aL.length<=_;omega
theorem Bh3{p:Ac}{s t:Int}(h:Bfk p s t=false):inP p s/\0<=t/\t<=1000000000:=by
 simp only[Bfk,Bool.or_eq_false_iff,decide_eq_false_iff_not]at h;exact⟨⟨by omega,by omega⟩,by omega,by omega⟩
theorem As1(L:Nat)(p:Ac)(l:List Au)(s t:Int)(h:PG p)(hl:l.length<=1048576)(hL:Pp<=L):Je L p l s t=some (atF p l s t):=by
 have e1:U7 L ⟨p.aF,p.aA,p.aH⟩=_:=A6f L p h hL;have e2:Sx L ⟨p.aF,p.aA,p.aH⟩ s t=_:=A4v L p s t;simp only[Anv,Je,aN,aB,e1,e2,Cr,atF];by_cases h0:A0k Rq p=0
 ·rw[h0,if_neg (by simp)];simp only[bne_self_eq_false,cond_false];cases hb:Bfk p s t with
  |true=>rfl
  |false=>
   obtain⟨hs,_⟩:=Bh3 hb;rw[cond_false,show J1 L ⟨p.aF,p.aA,p.aH⟩ l s t=_ from At6 L p l s t hs (h.dim hs) hl (H2 hL)];rfl
 ·rw[if_pos h0,W8 h0];rfl
theorem Bq9{c:H1}(h:Ap5 c)(hb:Aek c<=1048576):PG c.P/\c.bK.length<=1048576:=by
 unfold Aek at hb;have:=Azc (g:=Ys) (λx=>by unfold Ys;omega) c.bK;exact⟨⟨h.1,by omega⟩,by omega⟩
theorem Bou{α :Type} [Inhabited α]{lp:Nat->Int->Int->Option (Nat×(Int×Int))}{l:List α}{i:Nat}{p: α->Bool}{e:Int}
  (h1:∀n v (c:Nat),c<i->lp (n+1) v (c:Int)=bif p (l.getD c default)then some (0,(e,(c:Int)))else lp n v ((c+1:Nat):Int))
  (h0:∀n v,lp (n+1) v (i:Int)=some (1,(v,(i:Int))))(hi:i<=l.length):
  ∀(d c n:Nat) (v:Int),c+d=i->d<n->∃j,lp n v (c:Int)=some (bif ((l.take i).drop c).any p then(0,(e,j)) else(1,(v,j))):=by
 intro d
 induction d with
 |zero=>
  intro c n v hc hn;obtain⟨n,rfl⟩:∃k,n=k+1:=⟨n-1,by omega⟩;obtain rfl:c=i:=by omega
  exact⟨c,by rw[h0,List.drop_eq_nil_of_le (by rw[List.length_take];omega)];rfl⟩
 |succ d ih=>
  intro c n v hc hn;obtain⟨n,rfl⟩:∃k,n=k+1:=⟨n-1,by omega⟩;obtain⟨j,hj⟩:=ih (c+1) n v (by omega) (by omega);have hl:c<(l.take i).length:=by rw[List.length_take];omega
  rw[h1 n v c (by omega),List.drop_eq_getElem_cons hl,List.any_cons,List.getElem_take,J4 l c (by omega)];cases p l[c] with
  |true=>exact⟨c,rfl⟩
  |false=>exact⟨j,by rw[cond_false,Bool.false_or,hj]⟩
theorem A99(L:Nat)(k:List Ab)(hL:1<L):Lj L k []=some (decide (k.length=0)):=by
 obtain⟨L,rfl⟩:∃n,L=n+1:=⟨L-1,by omega⟩;show Ac5 (Mb L) (Lj L) L k []=_
 unfold Ac5 Asm Acw;simp only[aN,aB];cases k with
 |nil=>
  rw[Avw _ _ L [] [] L (Nat.zero_le _) (show 0<L by omega)];rfl
 |cons x k=>
  have:(((x::k).length:Int) != (([]:List Ab).length:Int))=true:=Ari (by simp only[List.length_cons,List.length_nil];omega);rw[this];rfl
theorem A98(L:Nat)(e:Ab)(hL:2<L):Mb L e (.mk 0 ⟨#[]⟩ 0 [])=some (Ae6 e):=by
 obtain⟨L,rfl⟩:∃n,L=n+1:=⟨L-1,by omega⟩;show Anc (Mb L) (Lj L) L e _=_
 unfold Anc Ati;cases e with
 |mk a b c k=>
  simp only[aN,aB,Ab.cp_eq,Ab.Op,Ab.aF,Ab.N,Ab.aY,Ab.eta,A99 L k (by omega),Ie,H3,Cr,Ae6];by_cases h1:a=0
  ·by_cases h2:b=⟨#[]⟩
   ·by_cases h3:c=0
    ·simp[h1,h2,h3]
    ·simp[h1,h2,h3,Ari h3]
   ·simp[h1,h2]
  ·simp[Ari h1,h1]
def Aop:List Cq:=(Y2 0).getD []
theorem Aon(L:Nat):Y2 L=some Aop:=rfl
def frR(op:Int):Cq:=Aop.getD (Int.toNat op) default
theorem Aug:Aop.length=20:=rfl
def wS(w:Int):Yb:=
 if w=1 then⟨#[115,108,111,116]⟩else if w=2 then⟨#[118,97,114]⟩else if w=3 then⟨#[115,116,114,101,97,109]⟩else if w=4 then⟨#[105,110,115,116,114]⟩
 else if w=5 then⟨#[114,101,115,111,117,114,99,101]⟩else if w=6 then⟨#[115,116,111,114,101]⟩else if w=7 then⟨#[98,101,108,116]⟩else if w=8 then⟨#[113,117,101,117,101]⟩
 else if w=9 then⟨#[115,105,116,101]⟩else if w=10 then⟨#[114,111,117,116,105,110,101]⟩else if w=11 then⟨#[116,97,108,108,121]⟩else if w=12 then⟨#[108,101,118,101,108]⟩
 else if w=13 then⟨#[99,111,117,110,116]⟩ else⟨#[]⟩
theorem Bns{op:Int}(h:Mf op=true):op=1\/op=2\/op=3\/op=4\/op=5\/op=6\/op=7\/op=8\/op=9\/op=10\/op=11\/op=12\/op=13\/op=14\/op=15\/op=16\/op=17\/op=18\/op=19:=by
 obtain⟨h1,h2⟩:=R4.1 h;omega
theorem Bf3{op:Int}(h:Mf op=true):frR op=⟨(frR op).Word,wS (O6 op).fU,wS (O6 op).fZ,(O6 op).u_c,(O6 op).fH,(O6 op).fM,(O6 op).dV,(O6 op).dF,(O6 op).bO⟩:=by
 rcases Bns h with rfl|rfl|rfl|rfl|rfl|rfl|rfl|rfl|rfl|rfl|rfl|rfl|rfl|rfl|rfl|rfl|rfl|rfl|rfl<;>rfl
theorem Bw1{op:Int}(h:Mf op=true):decide (wS (O6 op).fU=⟨#[]⟩)=((O6 op).fU == 0):=by
 rcases Bns h with rfl|rfl|rfl|rfl|rfl|rfl|rfl|rfl|rfl|rfl|rfl|rfl|rfl|rfl|rfl|rfl|rfl|rfl|rfl<;>rfl
theorem Bw2{op:Int}(h:Mf op=true):decide (wS (O6 op).fZ=⟨#[]⟩)=((O6 op).fZ == 0):=by
 rcases Bns h with rfl|rfl|rfl|rfl|rfl|rfl|rfl|rfl|rfl|rfl|rfl|rfl|rfl|rfl|rfl|rfl|rfl|rfl|rfl<;>rfl
theorem B6y{op:Int}(h:Mf op=true):(op == 3)=(O6 op).bO:=by
 rcases Bns h with rfl|rfl|rfl|rfl|rfl|rfl|rfl|rfl|rfl|rfl|rfl|rfl|rfl|rfl|rfl|rfl|rfl|rfl|rfl<;>rfl
theorem Bzx{op:Int}(h:Mf op=true):0<=(O6 op).fU/\(O6 op).fU<=13/\0<=(O6 op).fZ/\(O6 op).fZ<=13:=by
 rcases Bns h with rfl|rfl|rfl|rfl|rfl|rfl|rfl|rfl|rfl|rfl|rfl|rfl|rfl|rfl|rfl|rfl|rfl|rfl|rfl<;>decide
theorem Awb(L:Nat)(op:Int):Aee L op=some (Mf op):=by
 simp only[Aqn,Aee,aN,aB,Mf,Ds,ge_iff_le]
theorem Bam(L:Nat)(i:Aq)(hk:Mf i.Op=true)(hd:okD i.bE)(hL:maxLen<L):Aef L i=some (An9 i):=by
 obtain⟨h1,h2⟩:=R4.1 hk;have hl:(2:Nat)<L:=by unfold maxLen at hL;omega
 have e0:decide ((i.aM.length:Int)>0)= !decide (i.aM.length=0):=by
  by_cases h:i.aM.length=0
  ·rw[h];rfl
  ·rw[decide_eq_false h,decide_eq_true (by omega)];rfl
 simp only[Aaj,sx_R17_plain_2,Aig,sx_R17_plain_0,Azx,Aef,aN,aB,Ab.cp_eq,Aon,A98 L _ hl,Ajj L i.bE T4 hd hL,show(⟨0,0,0,0,[],[]⟩:Bk)=T4 from rfl,Cr,e0];rw[if_pos (show(0:Int)<=i.Op by omega),if_pos (show i.Op<((Aop.length:Nat):Int) by rw[Aug];omega)];rw[show Aop.getD (Int.toNat i.Op) default=frR i.Op from rfl,Bf3 hk];simp only[Ie,Bw1 hk,Bw2 hk];show _=some (An9 i)
 unfold An9;rw[show((O6 i.Op).fU != 0)= !((O6 i.Op).fU == 0)from rfl,show((O6 i.Op).fZ != 0)= !((O6 i.Op).fZ == 0)from rfl,show(i.A != 0)= !(i.A == 0)from rfl,show(i.B != 0)= !(i.B == 0)from rfl,show(i.C != 0)= !(i.C == 0)from rfl];generalize ((O6 i.Op).fU == 0)=b1;generalize (i.A == 0)=b2;generalize ((O6 i.Op).fZ == 0)=b3;generalize (i.B == 0)=b4;generalize ((O6 i.Op).u_c)=b5;generalize (i.C == 0)=b6;generalize ((O6 i.Op).fH)=b7;generalize Ae6 i.E=b8;generalize ((O6 i.Op).fM)=b9;generalize Ae6 i.F=b10;generalize ((O6 i.Op).dF)=b11;generalize decide (i.aM.length=0)=b12;generalize ((O6 i.Op).bO)=b13;generalize Aga i.bE T4=b14;generalize ((O6 i.Op).dV)=b15;generalize i.bU=b16;have k1:∀a b:Bool,(bif a then !b else false)= !(!a || b):=by decide
 have k2:∀a b:Bool,(bif !a then !b else false)= !(a || b):=by decide
 have k3:∀a b:Bool,(bif !a then b else false)= !(a || !b):=by decide
 simp only[k1,k2,k3,Bool.not_not];generalize (!b1 || b2)=c1;generalize (!b3 || b4)=c2;generalize (b5 || b6)=c3;generalize (b15 || !b16)=c4;cases c1 with
 |false=>cases b7<;>cases b8<;>rfl
 |true=>
  cases c2 with
  |false=>cases b7<;>cases b8<;>rfl
  |true=>
   cases c3 with
   |false=>cases b7<;>cases b8<;>rfl
   |true=>
    cases c4 with
    |false=>cases b7<;>cases b8<;>cases b9<;>cases b10<;>cases b11<;>cases b12<;>cases b13<;>cases b14<;>rfl
    |true=>cases b7<;>cases b8<;>cases b9<;>cases b10<;>cases b11<;>cases b12<;>cases b13<;>cases b14<;>rfl
theorem Bak(L:Nat)(p:Ac)(s:Int)(c:Ap)(hs:inP p s){w:Int}(h0:1<=w)(h1:w<=13)(h10:w≠10):Aed L p s c (wS w)=some (Apc p s c w 0):=by
 simp only[Aqm,Aed,aN,aB,Ie];rw[if_pos hs.1,if_pos hs.2];rcases(show w=1\/w=2\/w=3\/w=4\/w=5\/w=6\/w=7\/w=8\/w=9\/w=11\/w=12\/w=13 by omega)with rfl|rfl|rfl|rfl|rfl|rfl|rfl|rfl|rfl|rfl|rfl|rfl<;>rfl
theorem As0(L:Nat)(p:Ac)(s:Int)(c:Ap)(hs:inP p s){w:Int}(h0:0<=w)(h1:w<=13)(h10:w≠10)(hw:decide (wS w=⟨#[]⟩)=(w == 0))(n:Int):
  Ru L p s c (wS w) n=some (Yw p s c w n 0 || w == 0):=by
 simp only[Anu,Ru,aN,aB,Ie,hw];by_cases hz:w=0
 ·subst hz;simp
 ·have e:(w == 0)=false:=beq_eq_false_iff_ne.2 hz;rw[show Aed L ⟨p.aF,p.aA,p.aH⟩ s c (wS w)=_ from Bak L p s c hs (by omega) h1 h10,e];unfold Yw;by_cases hn:0<=n
  ·simp[hn]
  ·simp[hn]
theorem Awa(L:Nat)(p:Ac)(to:Int)(i:Aq)(hs:inP p to):Uq L p to i=some (Aw8 p to i):=by
 simp only[Aql,Uq,aN,aB,H3];rw[if_pos hs.1,if_pos hs.2];show(bif decide (i.B<0) || decide (i.B>=((Ez p to).aD.length:Int))then some 2 else if(0:Int)<=i.B then(if i.B<(((Ez p to).aD.length:Nat):Int) then(bif (i.aM.length:Int) != ((Ez p to).aD.getD (Int.toNat i.B) default).aI then some 8 else some 0)else none)else none)=_
 unfold Aw8 Yw;rw[Bdk];by_cases h1:i.B<0
 ·rw[decide_eq_true h1,decide_eq_false (show¬0<=i.B by omega)];rfl
 ·rw[decide_eq_false h1,decide_eq_true (show 0<=i.B by omega)];by_cases h2:i.B<((Ez p to).aD.length:Int)
  ·rw[decide_eq_false (show¬i.B>=((Ez p to).aD.length:Int) by omega),decide_eq_true h2,if_pos (show(0:Int)<=i.B by omega),if_pos h2];show(bif !((i.aM.length:Int) == ((Ez p to).aD.getD (Int.toNat i.B) default).aI)then some 8 else some 0)=_
   cases (i.aM.length:Int) == ((Ez p to).aD.getD (Int.toNat i.B) default).aI<;>rfl
  ·rw[decide_eq_true (show i.B>=((Ez p to).aD.length:Int) by omega),decide_eq_false h2];rfl
theorem Bkp(L:Nat)(a b:Int)(p:Ac):∀(k:List Dr) (i:Nat) (v:Int) (w:Bool),p.aH.drop i=k->
  ∃j,R9 L a b p k i v w=some (match A0s k a b with|some d=>(0,(d,true,j))|none=>(1,(v,w,j))):=by
 intro k
 induction k with
 |nil=>intro i v w _;exact⟨i,rfl⟩
 |cons x k ih=>
  intro i v w h;obtain⟨hi,_,hk⟩:=Lz h;obtain⟨j,hj⟩:=ih (i+1) v w hk;rw[R9,if_pos (show(0:Int)<=(i:Int) by omega),if_pos (show(i:Int)<((p.aH.length:Nat):Int) by omega)];have e:A0s (x::k) a b=if(x.aV == a && x.To == b)=true then some x.bR else A0s k a b:=by
   unfold A0s;rw[List.find?_cons];cases (x.aV == a && x.To == b)<;>rfl
  rw[e];cases h1:x.aV == a with
  |false=>exact⟨j,hj⟩
  |true=>cases h2:x.To == b with
   |false=>exact⟨j,hj⟩
   |true=>exact⟨i,rfl⟩
theorem Bgl(L:Nat)(p:Ac)(a b:Int)(hl:p.aH.length<=maxLen)(hL:maxLen<L):Alh L p a b=some (match A0s p.aH a b with|some d=>(d,true)|none=>(0,false)):=by
 obtain⟨j,hj⟩:=Bkp L a b p p.aH 0 0 false rfl;simp only[A7i,Agz,Alh,Agz,aN,aB,A6a L a b p L hl (by omega),hj,Cr];cases A0s p.aH a b<;>rfl
theorem A4u(L:Nat)(p:Ac)(s:Int)(c:Ap)(i:Aq)(hs:inP p s)(hk:Mf i.Op=true)(hlk:p.aH.length<=maxLen)(hL:maxLen<L):W0 L p s c i=some (Bki p s c i):=by
 obtain⟨h1,h2⟩:=R4.1 hk;obtain⟨ha0,ha1,hb0,hb1⟩:=Bzx hk;simp only[Akc,W0,aN,aB,Ab.cp_eq,Aon,Cr];rw[if_pos (show(0:Int)<=i.Op by omega),if_pos (show i.Op<((Aop.length:Nat):Int) by rw[Aug];omega)];rw[show Aop.getD (Int.toNat i.Op) default=frR i.Op from rfl,Bf3 hk];rw[show Ru L ⟨p.aF,p.aA,p.aH⟩ s c (wS (O6 i.Op).fU) i.A=_ from As0 L p s c hs ha0 ha1 (Bw3 hk) (Bw1 hk) i.A,Cr];unfold Bki;generalize hga:(Yw p s c (O6 i.Op).fU i.A 0 || (O6 i.Op).fU == 0)=ga;cases ga with
 |false=>rfl
 |true=>
  simp only[Bool.not_true,cond_false,Bool.true_eq_false,if_false];by_cases h15:i.Op=15
  ·have e15:(i.Op == 15)=true:=beq_iff_eq.2 h15;rw[e15,cond_true,if_neg (show¬i.Op=14 by omega),if_pos h15];rw[show Uq L ⟨p.aF,p.aA,p.aH⟩ s ⟨i.Op,i.A,i.B,i.C,i.E,i.F,i.aM,i.bE,i.bU⟩=_ from Awa L p s i hs,Cr]
  ·have e15:(i.Op == 15)=false:=beq_eq_false_iff_ne.2 h15;rw[e15,cond_false];by_cases h14:i.Op=14
   ·have hA:inP p i.A:=by
     have hfa:(O6 i.Op).fU=9:=by rw[h14];rfl
     rw[hfa]at hga;have hgt:Yw p s c 9 i.A 0=true:=by simpa using hga
     simp only[Yw,Bool.and_eq_true,decide_eq_true_eq]at hgt;exact hgt
    have e14:(i.Op == 14)=true:=beq_iff_eq.2 h14;rw[e14,cond_true,if_pos h14,show Alh L ⟨p.aF,p.aA,p.aH⟩ s i.A=_ from Bgl L p s i.A hlk hL,Cr];cases ha:A0s p.aH s i.A with
    |none=>rfl
    |some d=>
     by_cases hd:d=i.C
     ·have e7:(d != i.C)=false:=by rw[hd];simp
      simp only[Bool.not_true,cond_false,e7];rw[if_pos (show some d=some i.C by rw[hd])];rw[show Uq L ⟨p.aF,p.aA,p.aH⟩ i.A ⟨i.Op,i.A,i.B,i.C,i.E,i.F,i.aM,i.bE,i.bU⟩=_ from Awa L p i.A i hA,Cr]
     ·have e7:(d != i.C)=true:=bne_iff_ne.2 hd;simp only[Bool.not_true,cond_false,e7,cond_true];rw[if_neg (λh=>hd (Option.some.inj h))]
   ·have e14:(i.Op == 14)=false:=beq_eq_false_iff_ne.2 h14;rw[e14,cond_false,if_neg h14,if_neg h15];rw[show Ru L ⟨p.aF,p.aA,p.aH⟩ s c (wS (O6 i.Op).fZ) i.B=_ from As0 L p s c hs hb0 hb1 (Bw4 hk h14 h15) (Bw2 hk) i.B,Cr];generalize (Yw p s c (O6 i.Op).fZ i.B 0 || (O6 i.Op).fZ == 0)=gb;cases gb<;>rfl
theorem Bl4:∀ {k:List Ab},Aq4 true k=0->∀x∈k,Aq3 true x=0
 |y::k,h,x,hx=>by
  rw[Aq4]at h;split at h
  ·next h1=>exact absurd h h1
  ·next h1=>
   rcases List.mem_cons.1 hx with rfl|hx
   ·exact Decidable.not_not.1 h1
   ·exact Bl4 h x hx
theorem B18{e:Ab}(h:Av5 true e=0)(ho:e.Op=22\/e.Op=23\/e.Op=24\/e.Op=25\/e.Op=26):0<=e.N:=by
 obtain⟨hi,hm⟩:∃hi,Ayl true e.Op=some hi:=by rcases ho with h|h|h|h|h<;>rw[h]<;>exact⟨_,rfl⟩
 unfold Av5 at h;rw[hm,if_neg (show¬e.Op=1 by omega)]at h;split at h
 ·exact absurd h (by decide)
 ·have h':(if e.N<0\/hi<e.N then(2:Int)else if Agt true e.Op then Jd e.aF else 0)=0:=h;split at h'
  ·exact absurd h' (by decide)
  ·omega
theorem Bgu(rec:Ac->Int->Ap->Ab->Option Bool)(L:Nat)(s:Int)(p:Ac)(c:Ap)(e:Ab):∀(k:List Ab) (i:Nat) (v:Bool),(∀y∈k,rec p s c y=some (Aie p s c y))->
  ∃n:Nat,Lx rec L s p c e k i v=some (bif Agc p s c k then(1,(v,(n:Int))) else(0,(false,(n:Int)))):=by
 intro k
 induction k with
 |nil=>intro i v _;exact⟨i,by rw[Lx,Agc];rfl⟩
 |cons y k ih=>
  intro i v h;obtain⟨n,hn⟩:=ih (i+1) v λz hz=>h z (by simp[hz]);rw[Lx,show rec ⟨p.aF,p.aA,p.aH⟩ s c y=_ from h y (by simp),Cr,Agc];cases Aie p s c y with
  |true=>exact⟨n,by rw[Bool.not_true,cond_false,hn,Bool.true_and]⟩
  |false=>exact⟨i,rfl⟩
theorem Bdy{e:Ab}(h:B1 e)(p:Ac)(s:Int)(c:Ap)(hs:inP p s):∀L,maxLen+dE e<L->Aq3 true e=0->Ir L p s c e=some (Aie p s c e):=by
 induction h with
 |mk a0 a1 a2 a3 h0 h1 h2 h3 h4 ih=>
  intro L hL hc;obtain⟨L,rfl⟩:∃k,L=k+1:=⟨L-1,by omega⟩;rw[dE]at hL;rw[Aq3]at hc;have hnd:Av5 true (.mk a0 a1 a2 a3)=0/\Aq4 true a3=0:=by
   split at hc
   ·next hh=>exact absurd hc hh
   ·next hh=>exact⟨Decidable.not_not.1 hh,hc⟩
  have hr:∀y∈a3,Ir L p s c y=some (Aie p s c y):=λy hy=>ih y hy L (by have:=Ai7 hy;omega) (Bl4 hnd.2 y hy);obtain⟨n,hn⟩:=Bgu (Ir L) L s p c (.mk a0 a1 a2 a3) a3 0 false hr;have hN:a0=22\/a0=23\/a0=24\/a0=25\/a0=26->0<=a2:=λho=>B18 (e:=.mk a0 a1 a2 a3) hnd.1 ho;have hq0:Hg (Ir L) L s p c (.mk a0 a1 a2 a3) L false 0=some (bif Agc p s c a3 then(1,(false,(n:Int))) else(0,(false,(n:Int)))):=by
   rw[<-hn];exact A4j (Ir L) L s p c (.mk a0 a1 a2 a3) L h3 (show a3.length<L by omega) false
  show Ane (Ir L) L p s c _=_
  unfold Ane A22 Alc;have eq:∀(a b:Int),(a == b)=decide (a=b):=λ_ _=>rfl;have hw:0<=a2->∀w,Yw p s c w a2 0=decide (a2<Apc p s c w 0):=λh w=>by unfold Yw;rw[decide_eq_true h,Bool.true_and]
  simp only[Aky,Akz,Ak0,Ak1,aN,aB,Ab.cp_eq,Ab.Op,Ab.aF,Ab.N,Ab.aY,Ab.eta,hq0,Cr,Aie,Bn6,eq];rw[if_pos hs.1,if_pos hs.2];generalize Agc p s c a3=r;by_cases e1:a0=25
  ·subst e1;rw[hw (hN (by omega)) 1];show _=some (decide (a2<c.dD) && r)
   by_cases hq:a2<c.dD
   ·have hg:(a2>=c.dD)=False:=eq_false (by omega);simp only[hg,hq,decide_true,decide_false];cases r<;>rfl
   ·have hg:(a2>=c.dD)=True:=eq_true (by omega);simp only[hg,hq,decide_true,decide_false];cases r<;>rfl
  by_cases e2:a0=26
  ·subst e2;rw[hw (hN (by omega)) 2];show _=some (decide (a2<((p.aA.getD (Int.toNat s) default).aK.bX.length:Int)) && r)
   by_cases hq:a2<((p.aA.getD (Int.toNat s) default).aK.bX.length:Int)
   ·have hg:(a2>=((p.aA.getD (Int.toNat s) default).aK.bX.length:Int))=False:=eq_false (by omega);simp only[hg,hq,decide_true,decide_false];cases r<;>rfl
   ·have hg:(a2>=((p.aA.getD (Int.toNat s) default).aK.bX.length:Int))=True:=eq_true (by omega);simp only[hg,hq,decide_true,decide_false];cases r<;>rfl
  by_cases e3:a0=22
  ·subst e3;rw[hw (hN (by omega)) 5];show _=some (decide (a2<((p.aA.getD (Int.toNat s) default).aK.aG.length:Int)) && r)
   by_cases hq:a2<((p.aA.getD (Int.toNat s) default).aK.aG.length:Int)
   ·have hg:(a2>=((p.aA.getD (Int.toNat s) default).aK.aG.length:Int))=False:=eq_false (by omega);simp only[hg,hq,decide_true,decide_false];cases r<;>rfl
   ·have hg:(a2>=((p.aA.getD (Int.toNat s) default).aK.aG.length:Int))=True:=eq_true (by omega);simp only[hg,hq,decide_true,decide_false];cases r<;>rfl
  by_cases e4:a0=23
  ·subst e4;rw[hw (hN (by omega)) 6];show _=some (decide (a2<((p.aA.getD (Int.toNat s) default).aK.aL.length:Int)) && r)
   by_cases hq:a2<((p.aA.getD (Int.toNat s) default).aK.aL.length:Int)
   ·have hg:(a2>=((p.aA.getD (Int.toNat s) default).aK.aL.length:Int))=False:=eq_false (by omega);simp only[hg,hq,decide_true,decide_false];cases r<;>rfl
   ·have hg:(a2>=((p.aA.getD (Int.toNat s) default).aK.aL.length:Int))=True:=eq_true (by omega);simp only[hg,hq,decide_true,decide_false];cases r<;>rfl
  by_cases e5:a0=24
  ·subst e5;show _=some (decide (a2<Bu (((p.aA.getD (Int.toNat s) default).aK.aG.length:Int)+((p.aA.getD (Int.toNat s) default).aK.bH.length:Int))) && r)
   by_cases hq:a2<Bu (((p.aA.getD (Int.toNat s) default).aK.aG.length:Int)+((p.aA.getD (Int.toNat s) default).aK.bH.length:Int))
   ·have hg:(a2>=Bu (((p.aA.getD (Int.toNat s) default).aK.aG.length:Int)+((p.aA.getD (Int.toNat s) default).aK.bH.length:Int)))=False:=eq_false (by omega);simp only[hg,hq,decide_true,decide_false];cases r<;>rfl
   ·have hg:(a2>=Bu (((p.aA.getD (Int.toNat s) default).aK.aG.length:Int)+((p.aA.getD (Int.toNat s) default).aK.bH.length:Int)))=True:=eq_true (by omega);simp only[hg,hq,decide_true,decide_false];cases r<;>rfl
  ·simp only[e1,e2,e3,e4,e5,decide_false,cond_false,if_false,Bool.true_and];cases r<;>rfl
theorem Baj(L:Nat)(i:Aq)(hk:Mf i.Op=true)(hl:i.aM.length<=1048576):Aec L i=some (R2 i):=by
 obtain⟨h1,h2⟩:=R4.1 hk;simp only[Aqk,Aec,aN,aB,Ab.cp_eq,Awb,Aon,hk,Cr,Bool.not_true,cond_false];rw[if_pos (show(0:Int)<=i.Op by omega),if_pos (show i.Op<((Aop.length:Nat):Int) by rw[Aug];omega)];rw[show Aop.getD (Int.toNat i.Op) default=frR i.Op from rfl,Bf3 hk];unfold R2;cases (O6 i.Op).fH<;>cases (O6 i.Op).fM<;>cases (O6 i.Op).dF<;>simp only[cond_true,cond_false,if_true,if_false,List.length_cons,List.length_nil,List.length_append,List.nil_append,List.append_nil,Bool.false_eq_true,List.cons_append]
 all_goals (unfold maxLen;repeat (first|rw[if_pos (by omega)]|rfl))
theorem Ayr{e:Ab}(h:B1 e)(L:Nat)(hL:maxLen+dE e<L):Sj L e=some (D2 true e):=by
 simp only[Afb,Sj,aN,aB,Ab.cp_eq,Av9 h true L hL,Cr]
theorem Bfn{e:Ab}(h:D2 true e=0):Aq3 true e=0:=by
 unfold D2 at h;split at h
 ·exact absurd h (by decide)
 ·split at h
  ·exact absurd h (by decide)
  ·exact h
theorem Bd7(L:Nat)(s:Int)(l:List Ab)(p:Ac)(c:Ap)(i:Aq)(hs:inP p s):∀(k:List Ab) (j:Nat) (v w:Int),(∀e∈k,B1 e/\maxLen+dE e<L)->
  ∃m w',J0 L s l p c i k j v w=some (if Qm (Alo p s c) k=0 then(1,(v,w',m)) else(0,(Qm (Alo p s c) k,w',m))):=by
 intro k
 induction k with
 |nil=>intro j v w _;exact⟨j,w,rfl⟩
 |cons e k ih=>
  intro j v w h;obtain⟨h1,h2⟩:=h e (by simp);obtain⟨m,w',hm⟩:=ih (j+1) v 0 λy hy=>h y (by simp[hy]);rw[J0,Ayr h1 L h2,Cr,Qm];by_cases h0:D2 true e=0
  ·have hx:Alo p s c e=Rj (Aie p s c e) 2:=by unfold Alo;rw[h0,Hx]
   rw[hx,h0];rw[show Ir L ⟨p.aF,p.aA,p.aH⟩ s c e=_ from Bdy h1 p s c hs L h2 (Bfn h0),Cr];cases Aie p s c e with
   |true=>
    rw[show Rj true 2=0 from rfl,Hx];exact⟨m,w',hm⟩
   |false=>
    rw[show Rj false 2=2 from rfl,Gu (by decide)];exact⟨j,2,rfl⟩
  ·have hx:Alo p s c e=D2 true e:=by unfold Alo;rw[Gu h0]
   have hb:(D2 true e == 0)=false:=beq_eq_false_iff_ne.2 h0;rw[hx,Gu h0,hb,W8 h0];exact⟨j,D2 true e,by rw[if_neg h0];rfl⟩
theorem Bal(L:Nat)(p:Ac)(s:Int)(c:Ap)(i:Aq)(hi:InG i)(hs:inP p s)(hlk:p.aH.length<=maxLen)(hL:Pp<=L):Y3 L p s c i=some (Ahz p s c i):=by
 have hl:=H2 hL;have hbig:maxLen+4194304<=L:=hL;unfold Y3 Azw Aim;simp only[aN,aB,Ab.cp_eq,Awb,Cr];unfold Ahz;cases hk:Mf i.Op with
 |false=>rfl
 |true=>
  have hc:Aef L ⟨i.Op,i.A,i.B,i.C,i.E,i.F,i.aM,i.bE,i.bU⟩=_:=Bam L i hk hi.dist hl;simp only[Bool.not_true,cond_false,hc,Cr];cases hcl:An9 i with
  |false=>rfl
  |true=>
   simp only[Bool.not_true,cond_false,Bool.and_self,Bool.true_eq_false,if_false];rw[show W0 L ⟨p.aF,p.aA,p.aH⟩ s c ⟨i.Op,i.A,i.B,i.C,i.E,i.F,i.aM,i.bE,i.bU⟩=_ from A4u L p s c i hs hk hlk hl,Cr];by_cases h0:Bki p s c i=0
   ·rw[h0,Hx];simp only[bne_self_eq_false,cond_false];rw[show Aec L ⟨i.Op,i.A,i.B,i.C,i.E,i.F,i.aM,i.bE,i.bU⟩=_ from Baj L i hk hi.args,Cr];have hle:=A3t hi;obtain⟨m,w',hm⟩:=Bd7 L s (R2 i) p c i hs (R2 i) 0 0 0 (λe he=>⟨(hi.exprs e he).1,by have:=(hi.exprs e he).2;omega⟩);rw[A1i L s (R2 i) p c i L (by unfold maxLen;omega) (by omega),hm,Cr];by_cases ha:Qm (Alo p s c) (R2 i)=0
    ·rw[if_pos ha,ha,Hx];show(bif i.Op == 3 then(Rl L i.bE).bind λr=>some r else some 0)=_
     rw[B6y hk,Agu L i.bE hi.dist hl,Cr];cases (O6 i.Op).bO<;>rfl
    ·rw[if_neg ha,Gu ha];rfl
   ·rw[W8 h0,cond_true,Gu h0]
theorem Bza{α :Type}{f: α->Int}{lq:List α->Nat->Int->Int->Option (Nat×(Int×Int×Int))}{bd: α->Option Int}
  (hn:∀i v w,lq [] i v w=some (1,(v,w,(i:Int))))
  (hc:∀x k i v w,lq (x::k) i v w=(bd x).bind λo=>bif o != 0 then some (0,(o,o,(i:Int)))else lq k (i+1) v o):
  ∀(k:List α) (i:Nat) (v w:Int),(∀x∈k,bd x=some (f x))->∃j w',lq k i v w=some (if Qm f k=0 then(1,(v,w',j)) else(0,(Qm f k,w',j))):=by
 intro k
 induction k with
 |nil=>intro i v w _;exact⟨i,w,by rw[hn];rfl⟩
 |cons x k ih=>
  intro i v w h;rw[hc,h x (by simp),Cr,Qm];by_cases h0:f x=0
  ·obtain⟨j,w',hj⟩:=ih (i+1) v 0 λy hy=>h y (by simp[hy]);rw[h0,Hx];exact⟨j,w',hj⟩
  ·rw[Gu h0,W8 h0];exact⟨i,f x,by rw[if_neg h0];rfl⟩
theorem A68(L:Nat)(c:Ap)(p:Ac)(s:Int)(hs:inP p s)(hlk:p.aH.length<=maxLen)(hL:Pp<=L)(k:List Aq)(hk:∀i∈k,InG i)(j:Nat)(v w:Int):
  ∃m w',I9 L s p c k j v w=some (if Qm (Ahz p s c) k=0 then(1,(v,w',m)) else(0,(Qm (Ahz p s c) k,w',m))):=
 Bza (lq:=I9 L s p c) (bd:=λi=>Y3 L p s c i) (λ_ _ _=>rfl) (λ_ _ _ _ _=>rfl) k j v w λi hi=>Bal L p s c i (hk i hi) hs hlk hL
theorem A4t(L:Nat)(p:Ac)(s:Int)(c:Ap)(hc:CoG c)(hlk:p.aH.length<=maxLen)(hL:Pp<=L):Wz L p s c=some (Aq5 p s c):=by
 have hl:=H2 hL;have hM:=Br;obtain⟨hn,hP,hS,hI,_⟩:=hc.ok;have hnm:c.aF.size<L:=Nat.lt_of_le_of_lt hn hl;have e0:((c.aP.length:Int) == 0)=decide (c.aP.length=0):=by
  by_cases h:c.aP.length=0
  ·rw[h];rfl
  ·rw[decide_eq_false h];exact beq_eq_false_iff_ne.2 (by omega)
 have e1000:decide ((c.aP.length:Int)>1000)=decide (1000<c.aP.length):=gtN _ 1000;simp only[Aso,Wb,Vs,Wz,Wb,Vs,aN,aB,Sa L c.aF hn hnm (by omega),Cr,e0,e1000];unfold Aq5;cases hs:(decide (s<0) || decide (s>=(p.aA.length:Int))) with
 |true=>rw[H3,hs];rfl
 |false=>
  rw[H3,hs];rw[Bool.or_eq_false_iff,decide_eq_false_iff_not,decide_eq_false_iff_not]at hs;have hin:inP p s:=⟨by omega,by omega⟩;simp only[cond_false,Bool.false_eq_true,if_false];by_cases h0:Jd c.aF=0
  ·rw[h0,Hx];have eP:(bif bif bif decide (c.aI<0)then true else decide (c.aI>c.dD)then true else decide (c.aI>6)then true else decide (c.dD>16))=decide (c.aI<0\/c.aI>c.dD\/c.aI>6\/c.dD>16):=by
    simp only[H3,Bool.decide_or,Bool.or_assoc]
   simp only[bne_self_eq_false,cond_false,eP];by_cases hp:c.aI<0\/c.aI>c.dD\/c.aI>6\/c.dD>16
   ·rw[decide_eq_true hp,if_pos hp];rfl
   ·rw[decide_eq_false hp,if_neg hp,cond_false];by_cases hz:c.aP.length=0
    ·rw[decide_eq_true hz,if_pos hz];rfl
    ·rw[decide_eq_false hz,if_neg hz,cond_false];by_cases hm:1000<c.aP.length
     ·rw[decide_eq_true hm,if_pos hm];rfl
     ·rw[decide_eq_false hm,if_neg hm,cond_false];obtain⟨m,w',hq⟩:=A68 L c p s hin hlk hL c.aP hc.ins 0 0 0;rw[Avy L s p c L hI (by omega),hq,Cr];have ew:Bu ((c.aP.length:Int)-1)=((c.aP.length-1:Nat):Int):=by rw[No (by omega) (by omega)];omega
      by_cases ha:Qm (Ahz p s c) c.aP=0
      ·rw[if_pos ha,ha,Hx];simp only[Sr,ew,toN];rw[if_pos (by omega),if_pos (by omega)];have e1:∀(a b:Int),(a != b)= !decide (a=b):=λ_ _=>rfl;simp only[e1];cases decide ((c.aP.getD (c.aP.length-1) default).Op=19)<;>cases decide ((c.aP.getD (c.aP.length-1) default).Op=4)<;>rfl
      ·rw[if_neg ha,Gu ha];rfl
  ·rw[Gu h0,W8 h0];rfl
theorem Bgt(L:Nat)(s:Az):∀(k:List Ap) (i:Nat) (v:Bool),i+k.length=s.aK.aD.length->
  ∃j,P4 L s k i v=some (bif agL k (s.aK.aD.drop i) then(1,(v,j)) else(0,(false,j))):=by
 intro k
 induction k with
 |nil=>intro i v _;exact⟨i,rfl⟩
 |cons c k ih=>
  intro i v h;rw[List.length_cons]at h;obtain⟨j,hj⟩:=ih (i+1) v (by omega);have hi:i<s.aK.aD.length:=by omega
  rw[P4,A7y s.aK.aD i hi,if_pos (show(i:Int)<((s.aK.aD.length:Nat):Int) by omega),hj,toN,agL];generalize s.aK.aD.getD i default=r;have e0:decide ((r.bD.length:Int)>0)= !decide (r.bD.length=0):=by
   by_cases h:r.bD.length=0
   ·rw[h];rfl
   ·rw[decide_eq_false h,decide_eq_true (by omega)];rfl
  have e1:((r.aI.length:Int) != c.aI)= !(c.aI == (r.aI.length:Int)):=by
   by_cases h:c.aI=(r.aI.length:Int)
   ·rw[h];simp
   ·rw[beq_eq_false_iff_ne.2 h];exact bne_iff_ne.2 λhh=>h hh.symm
  have e2:decide (r.aF=c.aF)=decide (c.aF=r.aF):=decide_eq_decide.2 ⟨Eq.symm,Eq.symm⟩;rw[Ie,e0,e1,e2];unfold agP;cases decide (c.aF=r.aF)<;>cases (c.aI == (r.aI.length:Int))<;>cases decide (r.bD.length=0)
  all_goals first|exact⟨j,rfl⟩|exact⟨i,rfl⟩
theorem Bdx(L:Nat)(s:Az)(hl:s.aD.length<=maxLen)(hL:maxLen<L):Abg L s=some (An3 s):=by
 rw[A3a];unfold Abg A21 Alb;simp only[Akx,aN,aB,A4i L s L hl (by omega)];by_cases h:s.aD.length=s.aK.aD.length
 ·obtain⟨j,hj⟩:=Bgt L s s.aD 0 false (by omega);rw[hj,Cr,List.drop_zero,decide_eq_true h,show((s.aD.length:Int) != (s.aK.aD.length:Int))=false by rw[h];simp];cases agL s.aD s.aK.aD<;>rfl
 ·rw[decide_eq_false h,show((s.aD.length:Int) != (s.aK.aD.length:Int))=true from bne_iff_ne.2 (by omega)];rfl
theorem Bgs(L:Nat)(p:Ac)(hl:p.aH.length<=maxLen)(hL:maxLen<L):∀(k:List Dr) (i:Nat) (v:Int),p.aH.drop i=k->
  ∃j,Lw L p k i v=some (if Ao2 p (p.aH.take i) k=0 then(1,(v,j)) else(0,(Ao2 p (p.aH.take i) k,j))):=by
 intro k
 induction k with
 |nil=>intro i v _;exact⟨i,rfl⟩
 |cons x k ih=>
  intro i v h;obtain⟨hi,hx,hk⟩:=Lz h;obtain⟨j,hj⟩:=ih (i+1) v hk;have e:p.aH.take i++ [x]=p.aH.take (i+1):=by rw[List.take_add_one,List.getElem?_eq_getElem hi];congr 1;rw[<-hx,J4 _ i hi];rfl
  have hin:∃c,Lu L p (i:Int) L v 0=some (bif (p.aH.take i).any (λy=>y.aV == x.aV && y.To == x.To) then(0,(4,c)) else(1,(v,c))):=by
   refine Bou (lp:=Lu L p (i:Int)) (l:=p.aH) (i:=i) (p:=λy=>y.aV == x.aV && y.To == x.To) (e:=4) ?_ ?_ (by omega) i 0 L v (by omega) (by omega)
   ·intro n v c hc;simp only[Lu,Adl,aN,aB,nn,Dx hc,Ly (Nat.lt_trans hc hi),if_true,toN,cond_true,hx,Bb (Nat.lt_trans hc hi) hl];cases (p.aH.getD c default).aV == x.aV<;>cases (p.aH.getD c default).To == x.To<;>rfl
   ·intro n v;simp only[Lu,Adl,aN,aB,D3 (Nat.le_refl i),cond_false]
  obtain⟨c,hc⟩:=hin;have e1:(bif (bif (bif (bif (bif (bif decide (x.aV<0)then true else decide (x.aV>=(p.aA.length:Int)))then true else decide (x.To<0))then true else decide (x.To>=(p.aA.length:Int)))then true else x.aV == x.To)then true else decide (x.bR<1))then true else decide (x.bR>1000000000))
    =decide (x.aV<0\/x.aV>=(p.aA.length:Int)\/x.To<0\/x.To>=(p.aA.length:Int)\/x.aV=x.To\/x.bR<1\/x.bR>1000000000):=by
   simp only[H3,Bool.decide_or,Bool.or_assoc,show(x.aV == x.To)=decide (x.aV=x.To)from rfl]
  rw[Lw,Ao2,e];simp only[e1,hc,Cr];unfold Bzf;by_cases h1:x.aV<0\/x.aV>=(p.aA.length:Int)\/x.To<0\/x.To>=(p.aA.length:Int)\/x.aV=x.To\/x.bR<1\/x.bR>1000000000
  ·rw[decide_eq_true h1,if_pos h1,Gu (by decide)];exact⟨i,rfl⟩
  ·rw[decide_eq_false h1,if_neg h1,cond_false];cases (p.aH.take i).any (λy=>y.aV == x.aV && y.To == x.To) with
   |true=>
    rw[show Rj (!true) 4=4 from rfl,Gu (by decide)];exact⟨i,rfl⟩
   |false=>
    rw[show Rj (!false) 4=0 from rfl,Hx];exact⟨j,hj⟩
theorem Bdw(L:Nat)(p:Ac)(hl:p.aH.length<=maxLen)(hL:maxLen<L):Aha L p=some (A3c p):=by
 obtain⟨j,hj⟩:=Bgs L p hl hL p.aH 0 0 rfl;have hj':Lw L p p.aH 0 0=some (if Ao2 p [] p.aH=0 then(1,(0,j)) else(0,(Ao2 p [] p.aH,j))):=hj;have e32:decide ((p.aH.length:Int)>32)=decide (32<p.aH.length):=gtN _ 32;simp only[A20,Ad9,Ad0,Aha,Ad9,Ad0,aN,aB,e32,A4h L p L hl (by omega),hj',Cr,A3c];by_cases h:32<p.aH.length
 ·rw[decide_eq_true h,if_pos h];rfl
 ·rw[decide_eq_false h,if_neg h,cond_false];by_cases h0:Ao2 p [] p.aH=0
  ·rw[if_pos h0,Sr,h0]
  ·rw[if_neg h0,Ip]
def Bdm(l:List Az):List Yb:=l.map λx=>x.aK.aF
theorem A65(L:Nat)(p:Ac)(hS:p.aA.length<=maxLen)(hL:Pp<=L)(hG:∀s∈p.aA,MG (Ak3 p s)/\s.aD.length<=maxLen):∀(k:List Az) (i:Nat) (v w:Int),p.aA.drop i=k->
  ∃j w',Jz L p k i v w=some (if Af2 Aai p (Bdm (p.aA.take i)) k=0 then(1,(v,w',j)) else(0,(Af2 Aai p (Bdm (p.aA.take i)) k,w',j))):=by
 have hl:=H2 hL;intro k
 induction k with
 |nil=>intro i v w _;exact⟨i,w,rfl⟩
 |cons s k ih=>
  intro i v w h;obtain⟨hi,hx,hk⟩:=Lz h;have hs:s∈p.aA:=List.mem_of_mem_drop (by rw[h];simp);obtain⟨hM,hR⟩:=hG s hs;obtain⟨j,w',hj⟩:=ih (i+1) v 0 hk;have e:Bdm (p.aA.take i)++ [s.aK.aF]=Bdm (p.aA.take (i+1)):=by
   unfold Bdm;rw[List.take_add_one,List.getElem?_eq_getElem hi,List.map_append];congr 1;rw[<-hx,J4 _ i hi];rfl
  have hin:∃c,Jo L 0 (i:Int) p L v 0=some (bif (Bdm (p.aA.take i)).any (λx=>decide (x=s.aK.aF)) then(0,(4,c)) else(1,(v,c))):=by
   unfold Bdm;rw[List.any_map];refine Bou (lp:=Jo L 0 (i:Int) p) (l:=p.aA) (i:=i) (p:=(λx=>decide (x=s.aK.aF)) ∘ λx=>x.aK.aF) (e:=4) ?_ ?_ (by omega) i 0 L v (by omega) (by omega)
   ·intro n v c hc;simp only[Jo,d8,aN,aB,nn,Dx hc,Ly (Nat.lt_trans hc hi),Ly hi,if_true,toN,cond_true,hx,Ie,Bb (Nat.lt_trans hc hi) hS];rfl
   ·intro n v;simp only[Jo,d8,aN,aB,D3 (Nat.le_refl i),cond_false]
  obtain⟨c,hc⟩:=hin;rw[Jz,show Yz L ⟨p.aF,[],[s.aK],[]⟩=_ from Bae L (Ak3 p s) hM hL,Cr,Af2,e];by_cases h0:At5 Aai (Ak3 p s)=0
  ·rw[h0,Hx];simp only[bne_self_eq_false,cond_false,hc,Cr];cases (Bdm (p.aA.take i)).any (λx=>decide (x=s.aK.aF)) with
   |true=>
    rw[show Rj (!true) 4=4 from rfl,Gu (by decide)];exact⟨i,0,rfl⟩
   |false=>
    rw[show Rj (!false) 4=0 from rfl,Hx];simp only[cond_false,Sr];rw[show Abg L ⟨s.aK,s.aD⟩=_ from Bdx L s hR hl,Cr];cases An3 s with
    |false=>
     rw[show Rj false 8=8 from rfl,Gu (by decide)];exact⟨i,0,rfl⟩
    |true=>
     rw[show Rj true 8=0 from rfl,Hx];exact⟨j,w',hj⟩
  ·rw[Gu h0,W8 h0];exact⟨i,_,by rw[if_neg h0];rfl⟩
theorem Bw0(a b c:Int):fE (fE a b) c=fE a (fE b c):=by
 unfold fE;by_cases h:a=0
 ·rw[if_pos h,if_pos h]
 ·rw[if_neg h,if_neg h,if_neg h]
theorem A67(L:Nat)(o:Nat×(Int×Int×Int))(i:Nat)(p:Ac)(s:Az)(hi:i<p.aA.length)(hg:p.aA.getD i default=s)(hR:s.aD.length<=maxLen)(hC:∀c∈s.aD,CoG c)(hlk:p.aH.length<=maxLen)(hL:Pp<=L):
  ∀(k:List Ap) (c n:Nat) (v:Int),s.aD.drop c=k->k.length<n->∃j,Jp L o (i:Int) p n v (c:Int)=some (0,(fE v (Qm (Aq5 p (i:Int)) k),j)):=by
 intro k
 induction k with
 |nil=>
  intro c n v h hn;obtain⟨n,rfl⟩:∃m,n=m+1:=⟨n-1,by omega⟩;refine⟨c,?_⟩;simp only[Jp,d9,aN,aB,nn,Ly hi,if_true,toN,hg,D3 (Bci h),cond_false];show some (0,(v,(c:Int)))=some (0,(fE v 0,(c:Int)))
  unfold fE;split
  ·next hv=>rw[hv]
  ·rfl
 |cons x k ih=>
  intro c n v h hn;obtain⟨n,rfl⟩:∃m,n=m+1:=⟨n-1,by omega⟩;obtain⟨hc,hx,hk⟩:=Lz h;rw[List.length_cons]at hn;obtain⟨j,hj⟩:=ih (c+1) n (fE v (Aq5 p (i:Int) x)) hk (by omega);refine⟨j,?_⟩;rw[Qm,<-Bw0,<-hj];have hxm:x∈s.aD:=List.mem_of_mem_drop (by rw[h];simp);simp only[Jp,d9,aN,aB,nn,Ly hi,if_true,toN,hg,Dx hc,Ly hc,cond_true,hx,Bb hc hR];by_cases hv:v=0
  ·subst hv;rw[show Wz L ⟨p.aF,p.aA,p.aH⟩ (i:Int) x=_ from A4t L p i x (hC x hxm) hlk hL];rfl
  ·rw[Gu hv,beq_eq_false_iff_ne.2 hv];rfl
theorem A66(L:Nat)(p:Ac)(o:Nat×(Int×Int×Int))(hlk:p.aH.length<=maxLen)(hL:Pp<=L)(hS:∀s∈p.aA,s.aD.length<=maxLen/\∀c∈s.aD,CoG c):
  ∀(k:List Az) (i:Nat) (v:Int),p.aA.drop i=k->∃m,M8 L o p k i v=some (0,(fE v (Aq6 p i k),m)):=by
 have hl:=H2 hL;intro k
 induction k with
 |nil=>
  intro i v _;refine⟨i,?_⟩;show some (0,(v,(i:Int)))=some (0,(fE v 0,(i:Int)))
  unfold fE;split
  ·next hv=>rw[hv]
  ·rfl
 |cons s k ih=>
  intro i v hd;obtain⟨hi,hg,hd'⟩:=Lz hd;have hs:s∈p.aA:=List.mem_of_mem_drop (by rw[hd];simp);obtain⟨h1,h2⟩:=hS s hs;obtain⟨m,hm⟩:=A67 L o i p s hi hg h1 h2 hlk hL s.aD 0 L v rfl (by omega);have hm:Jp L o (i:Int) p L v 0=_:=hm;obtain⟨j,hj⟩:=ih (i+1) (fE v (Qm (Aq5 p (i:Int)) s.aD)) hd';rw[M8,hm,Cr,Aq6,<-Bw0];exact⟨j,hj⟩
theorem Bai(L:Nat)(p:Ac)(h:PG p)(hL:Pp<=L):Uo L p=some (A0k Aai p):=by
 have hl:=H2 hL;have hM:=Br;obtain⟨hn,⟨hSl,_⟩,⟨hLl,_⟩⟩:=h.ok;have hS:=h.site;have hnm:p.aF.size<L:=Nat.lt_of_le_of_lt hn hl;have e0:((p.aA.length:Int) == 0)=decide (p.aA.length=0):=by
  by_cases h:p.aA.length=0
  ·rw[h];rfl
  ·rw[decide_eq_false h];exact beq_eq_false_iff_ne.2 (by omega)
 have e16:decide ((p.aA.length:Int)>16)=decide (16<p.aA.length):=gtN _ 16;unfold Uo Azu Aik;simp only[Arr,Ail,Aid,aN,aB,Sa L p.aF hn hnm (by omega),Cr,e0,e16];unfold A0k;by_cases h0:Jd p.aF=0
 ·rw[h0,Hx];simp only[bne_self_eq_false,cond_false];by_cases hz:p.aA.length=0
  ·rw[decide_eq_true hz,if_pos hz];rfl
  ·rw[decide_eq_false hz,if_neg hz,cond_false];by_cases hm:16<p.aA.length
   ·rw[decide_eq_true hm,if_pos hm];rfl
   ·rw[decide_eq_false hm,if_neg hm,cond_false];obtain⟨j,w',hj⟩:=A65 L p hSl hL (λs hs=>⟨(hS s hs).1,(hS s hs).2.1⟩) p.aA 0 0 0 rfl;have hj':Jz L p p.aA 0 0 0=some (if Af2 Aai p [] p.aA=0 then(1,(0,w',j)) else(0,(Af2 Aai p [] p.aA,w',j))):=hj;rw[A1g L p L hSl (by omega),hj',Cr];by_cases hs:Af2 Aai p [] p.aA=0
    ·rw[if_pos hs,hs,Hx];simp only[Sr];rw[show Aha L ⟨p.aF,p.aA,p.aH⟩=_ from Bdw L p hLl hl,Cr];obtain⟨m,hm⟩:=A66 L p (1,(0,w',j)) hLl hL (λs hs=>⟨(hS s hs).2.1,(hS s hs).2.2⟩) p.aA 0 (A3c p) rfl;rw[A1h L (1,(0,w',j)) p L hSl (by omega),hm,Cr,Ip]
    ·rw[if_neg hs,Gu hs];rfl
 ·rw[Gu h0,W8 h0];rfl
theorem A43(m:Dim)(s t:Int):∀(a b:List Au) (v:Pic),Wr m s t (a++b) v=Wr m s t b (Wr m s t a v)
 | [],_,_=>rfl
 |x::a,b,v=>by rw[List.cons_append,Wr,Wr,A43 m s t a b]
theorem Bnv(p:Ac)(a b:List Au)(o:Au)(s t:Int)(h:A5n s t o=false):Bgo p (a++ [o]++b) s t=Bgo p (a++b) s t:=by
 unfold Bgo;rw[List.append_assoc,A43,A43 _ _ _ a b,List.cons_append,Wr,h];rfl
theorem Bzg(p:Ac)(l:List Au)(s t:Int)(h:PG p):Ba7 (atF p l s t).1 1048576:=by
 unfold atF;split
 ·exact⟨Nat.zero_le _,Nat.zero_le _,Nat.zero_le _,Nat.zero_le _⟩
 ·cases hb:Bfk p s t with
  |true=>exact⟨Nat.zero_le _,Nat.zero_le _,Nat.zero_le _,Nat.zero_le _⟩
  |false=>exact Bu4 p l s t 1048576 (h.dim (Bh3 hb).1)
theorem Axx(c:H1)(o:Au)(n:Int)(hc:Ap5 c)(_:Ann o)(hn:j9 .u8 n)(hb:Aek c+Ys o<=1048576):∃L,Yj L c o n=some true:=by
 obtain⟨hP,hR⟩:=Bq9 hc (by omega);refine⟨Pp,?_⟩;have hw:∀L,Jj L=some true:=λ_=>rfl;have hl:=H2 (Nat.le_refl Pp);have hm:1048577<maxLen:=by unfold maxLen;omega
 have hM:=Br;have eR:Uo Pp ⟨c.P.aF,c.P.aA,c.P.aH⟩=_:=Bai Pp c.P hP (Nat.le_refl _);unfold Yj Yq;simp only[aN,aB,hw,eR,Cr];by_cases h300:(c.bK.length:Int)>300
 ·rw[decide_eq_true h300];rfl
 rw[decide_eq_false h300,cond_false,Cr];by_cases h0:A0k Aai c.P=0
 ·rw[h0];simp only[bne_self_eq_false,cond_false];cases hs:(bif o.bW == c.bW then decide (o.Time<=c.T)else false) with
  |true=>rfl
  |false=>
   have hsel:A5n c.bW c.T o=false:=by unfold A5n;rw[<-hs,Ds]
   obtain⟨κ,hκ,hle⟩:∃κ :Nat,Int.tmod (Bu n) (Bu ((c.bK.length:Int)+1))=(κ :Int)/\κ<=c.bK.length:=by
    have hn1:0<=n/\n<=255:=by simp only[j9,Lit.wf,Bool.and_eq_true,decide_eq_true_eq]at hn;exact⟨hn.1,Int.le_trans hn.2 (by decide)⟩
    rw[No (n:=n) (by omega) (by omega),No (n:=(c.bK.length:Int)+1) (by omega) (by omega)];have h1:=Int.tmod_nonneg ((c.bK.length:Int)+1) hn1.1;have h2:=Int.tmod_lt_of_pos n (show(0:Int)<(c.bK.length:Int)+1 by omega);exact⟨(Int.tmod n ((c.bK.length:Int)+1)).toNat,by omega,by omega⟩
   have hz:decide (Bu ((c.bK.length:Int)+1)=0)=false:=decide_eq_false (by rw[No (by omega) (by omega)];omega);simp only[hκ,hz,Bool.not_false,cond_true,cond_false,toN,List.drop_zero,List.take_length,List.length_take,List.length_drop,List.length_append,List.length_singleton,Nat.min_eq_left hle]
   repeat rw[if_pos (by omega)]
   have eA:Je Pp ⟨c.P.aF,c.P.aA,c.P.aH⟩ c.bK c.bW c.T=_:=As1 Pp c.P c.bK c.bW c.T hP hR (Nat.le_refl _);have eB:Je Pp ⟨c.P.aF,c.P.aA,c.P.aH⟩ (c.bK.take κ ++ [o]++c.bK.drop κ) c.bW c.T=some (atF c.P c.bK c.bW c.T):=by
    rw[show Je Pp ⟨c.P.aF,c.P.aA,c.P.aH⟩ (c.bK.take κ ++ [o]++c.bK.drop κ) c.bW c.T=_ from As1 Pp c.P (c.bK.take κ ++ [o]++c.bK.drop κ) c.bW c.T hP (by simp only[List.length_append,List.length_take,List.length_drop,List.length_singleton];omega) (Nat.le_refl _)];unfold atF;rw[Bnv _ _ _ _ _ _ hsel,List.take_append_drop]
   have hle:=Bzg c.P c.bK c.bW c.T hP;have eS:O8 Pp (atF c.P c.bK c.bW c.T).1 (atF c.P c.bK c.bW c.T).1=some true:=by
    rw[Bdz Pp _ _ ⟨by have:=hle.1;omega,by have:=hle.2.1;omega,by have:=hle.2.2.1;omega,by have:=hle.2.2.2;omega⟩ ⟨by have:=hle.1;omega,by have:=hle.2.1;omega,by have:=hle.2.2.1;omega,by have:=hle.2.2.2;omega⟩ (by omega),(Bky _ _).2 rfl]
   rw[eA,Cr,eB,Cr,beq_self_eq_true,cond_true,eS];rfl
 ·rw[W8 h0];rfl
end Go.Proofs.YthjhkpgonleelaaGreatDoor.Ev
