import Derived.Test.YthjhkpgonleelaaGreatDoorDG8
set_option maxRecDepth 100000
set_option maxHeartbeats 4000000
set_option linter.unusedVariables false
set_option linter.unusedSimpArgs false
set_option linter.unnecessarySimpa false
namespace Go.Proofs.YthjhkpgonleelaaGreatDoor.Ev
open Go An
noncomputable section
variable {A:Type} (L n:Nat) (kk:Lr) (K:Ei) (k:Dj)
def Bjh(F:Ab->Bool->Option Int):Prop:=∀y0 y1 r,F y0 y1=some r->Ho Tryz.prog 182 [Bi.en y0,cB.en y1] I r
def Aj4:=CC Tryz.f182
def Aom(Bf:Ab->Bool->Option Int)(L:Nat):Bc:=(orc 182 (A2 I Bi cB Bf) (oL [X30 L,Bsp L,B6z L,B60 L,B61 L]))
theorem Cef(Bf:Ab->Bool->Option Int)(Bor:Bjh Bf)(L:Nat):Dl Tryz.prog (Aom Bf L):=(Er (a2 _ Bor) (oS [X30 L,Bsp L,B6z L,B60 L,B61 L]))
def Bxw(a1:Bool)(a0:Ab)(v:Js):St:=⟨[(0,.any),(1,B a1),Tp,(4,I v.1),(5,.any),(6,.any),(7,.any),(8,.any),(9,.any),(10,I v.2)],[(2,(Cl a0))],0⟩
def Aep [An A C3](Bf:Ab->Bool->Option Int)(L:Nat)(a1:Bool)(a0:Ab)(rec:Int->Int->A)(Ag:Int)(Al:Int):A:=
 (lw Al a0.aY
 (bd (Bf (Ab.cp (gD a0.aY Al)) a1) λr22=>
 (cn (r22 != 0)
 (lf (0,r22,Al))
 (rec Ag (Bs (Al+1)))))
 (lf (1,Ag,Al)))
def Mb(Bf:Ab->Bool->Option Int)(L:Nat)(a1:Bool)(a0:Ab):Nat->Int->Int->Option C3
 |0,_,_=>none
 |n+1,Ag,Al=>Aep Bf L a1 a0 (Mb Bf L a1 a0 n) Ag Al
theorem Bv8(Bf:Ab->Bool->Option Int)(L:Nat)(K:Ei)(a1:Bool)(a0:Ab):LP (EV (Aom Bf L) L 9 Aj4.x.x.u.l.u.l.l) [0,1,2,4,5,6,7,8,9,10] [2] (Bxw a1 a0) [.ret,.exit 0] (λn v=>Mb Bf L a1 a0 n v.1 v.2) K:=lE (λ_=>rfl) λn v ih=>eE (Aep Bf L a1 a0 (λAg Al=>re (ih (Ag,Al))) v.1 v.2)
def Bkw(a1:Bool)(b3:Bool)(a0:Ab):St:=⟨[(1,B a1),Tp,(4,I 0),(7,B b3)],[(2,(Cl a0))],0⟩
def Bke(Bf:Ab->Bool->Option Int)(L:Nat)(kk:Lr):Ei:=(KE Tryz.f182 kk)
def Ae4 [An A Int](Bf:Ab->Bool->Option Int)(L:Nat)(o23:Nat×Js):A:=
 (sl o23.1 [(lf o23.2.1),
 (lf 0)])
def Afd [An A Int](Bf:Ab->Bool->Option Int)(L:Nat)(a1:Bool)(b3:Bool)(a0:Ab)(nx1:A):A:=
 (jb (.cn b3
 (.bd (Jz L a0.aF) λr20=>
 (.lf (r20 != 0)))
 (.lf false)) (λb19=>
 (cn b19
 (bd (Jz L a0.aF) λr21=>
 (lf r21))
 nx1)))
def Amd [An A Int](Bf:Ab->Bool->Option Int)(L:Nat)(a1:Bool)(b3:Bool)(a0:Ab):A:=Afd Bf L a1 b3 a0 (bd (Mb Bf L a1 a0 L 0 0) λo23=>Ae4 Bf L o23)
theorem Btd(Bf:Ab->Bool->Option Int)(L:Nat)(kk:Lr)(a1:Bool)(b3:Bool)(a0:Ab):EV (Aom Bf L) L 9 Aj4.x.x (Bkw a1 b3 a0) (Bke Bf L kk)=ob (Amd Bf L a1 b3 a0) (kQ I kk):=eE (Afd Bf L a1 b3 a0 (hq (Bv8 Bf L (KA (Aom Bf L) L 9 Aj4 (rl [18,1,2,1]) (KE Tryz.f182 kk)) a1 a0 L (0,0)) λo23=>Ae4 Bf L o23))
def A3o(a1:Bool)(b3:Bool)(b5:Bool)(a0:Ab):St:=⟨[(1,B a1),Tp,(4,I 0),(7,B b3),(8,B b5)],[(2,(Cl a0))],0⟩
def A3e(Bf:Ab->Bool->Option Int)(L:Nat)(kk:Lr):Ei:=(KE Tryz.f182 kk)
def sx_R09_node_3 [An A Int](Bf:Ab->Bool->Option Int)(L:Nat)(a1:Bool)(b3:Bool)(b5:Bool)(a0:Ab)(nx4:Bool->Bool->Ab->A):A:=
 (cn (a0.Op == 1)
 (bd (Amk L a0.N) λr12=>
 (cn (!r12)
 (lf 2)
 (cn (a0.Op == 2)
 (cn (a0.N != 0)
 (cn (a0.N != 1)
 (lf 2)
 (cn b5
 (cn (decide (a0.N<0))
 (lf 2)
 (bd (Sg L a0.Op) λr13=>
 (cn (decide (a0.N>r13))
 (lf 2)
 (nx4 a1 b3 a0))))
 (nx4 a1 b3 a0)))
 (cn b5
 (cn (decide (a0.N<0))
 (lf 2)
 (bd (Sg L a0.Op) λr14=>
 (cn (decide (a0.N>r14))
 (lf 2)
 (nx4 a1 b3 a0))))
 (nx4 a1 b3 a0)))
 (cn b5
 (cn (decide (a0.N<0))
 (lf 2)
 (bd (Sg L a0.Op) λr15=>
 (cn (decide (a0.N>r15))
 (lf 2)
 (nx4 a1 b3 a0))))
 (nx4 a1 b3 a0)))))
 (cn (a0.Op == 2)
 (cn (a0.N != 0)
 (cn (a0.N != 1)
 (lf 2)
 (cn b5
 (cn (decide (a0.N<0))
 (lf 2)
 (bd (Sg L a0.Op) λr16=>
 (cn (decide (a0.N>r16))
 (lf 2)
 (nx4 a1 b3 a0))))
 (nx4 a1 b3 a0)))
 (cn b5
 (cn (decide (a0.N<0))
 (lf 2)
 (bd (Sg L a0.Op) λr17=>
 (cn (decide (a0.N>r17))
 (lf 2)
 (nx4 a1 b3 a0))))
 (nx4 a1 b3 a0)))
 (cn b5
 (cn (decide (a0.N<0))
 (lf 2)
 (bd (Sg L a0.Op) λr18=>
 (cn (decide (a0.N>r18))
 (lf 2)
 (nx4 a1 b3 a0))))
 (nx4 a1 b3 a0))))
def Amc [An A Int](Bf:Ab->Bool->Option Int)(L:Nat)(a1:Bool)(b3:Bool)(b5:Bool)(a0:Ab):A:=sx_R09_node_3 Bf L a1 b3 b5 a0 (λa1 b3 a0=>Amd Bf L a1 b3 a0)
theorem Btq(Bf:Ab->Bool->Option Int)(L:Nat)(kk:Lr)(a1:Bool)(b3:Bool)(b5:Bool)(a0:Ab)(z4:EC):EV (Aom Bf L) L 9 (EC.put (rl [2]) z4 Aj4.x.w.u) (A3o a1 b3 b5 a0) (A3e Bf L kk)= @sx_R09_node_3 Prop (anP (kQ I kk)) Bf L a1 b3 b5 a0 (λa1 b3 a0=>EV (Aom Bf L) L 9 z4 (Bkw a1 b3 a0) (Bke Bf L kk)):=by kernel_rfl
theorem Btc(Bf:Ab->Bool->Option Int)(L:Nat)(kk:Lr)(a1:Bool)(b3:Bool)(b5:Bool)(a0:Ab):EV (Aom Bf L) L 9 Aj4.x.w.u (A3o a1 b3 b5 a0) (A3e Bf L kk)=ob (Amc Bf L a1 b3 b5 a0) (kQ I kk):=Eq.trans (b:=EV (Aom Bf L) L 9 (EC.put (rl [2]) Aj4.x.x Aj4.x.w.u) (A3o a1 b3 b5 a0) (A3e Bf L kk)) (by kernel_rfl) ((Btq Bf L kk a1 b3 b5 a0 Aj4.x.x).trans (eE (sx_R09_node_3 Bf L a1 b3 b5 a0 (λa1 b3 a0=>re (Btd Bf L kk a1 b3 a0)))))
def A3n(a1:Bool)(r1:Int)(b2:Bool)(b3:Bool)(b5:Bool)(b8:Bool)(a0:Ab):St:=⟨[(1,B a1),Tp,(4,I 0),(5,I r1),(6,B b2),(7,B b3),(8,B b5),(9,B b8)],[(2,(Cl a0))],0⟩
def A3d(Bf:Ab->Bool->Option Int)(L:Nat)(kk:Lr):Ei:=(KE Tryz.f182 kk)
def sx_R09_node_2 [An A Int](Bf:Ab->Bool->Option Int)(L:Nat)(a1:Bool)(r1:Int)(b2:Bool)(b3:Bool)(b5:Bool)(b8:Bool)(a0:Ab)(nx3:Bool->Bool->Bool->Ab->A):A:=
 (jp (.cn (!b2)
 (.lf true)
 (.cn (!b3)
 (.lf (!(a0.aF.toList == (⟨#[]⟩:Yb).toList)))
 (.lf false))) (λb9=>
 (jp (.cn b9
 (.lf true)
 (.cn (!b8)
 (.lf (a0.N != 0))
 (.lf false))) (λb10=>
 (jp (.cn b10
 (.lf true)
 (.lf ((a0.aY.length:Int) != r1))) (λb11=>
 (cn b11
 (lf 1)
 (nx3 a1 b3 b5 a0))))))))
def Amb [An A Int](Bf:Ab->Bool->Option Int)(L:Nat)(a1:Bool)(r1:Int)(b2:Bool)(b3:Bool)(b5:Bool)(b8:Bool)(a0:Ab):A:=sx_R09_node_2 Bf L a1 r1 b2 b3 b5 b8 a0 (λa1 b3 b5 a0=>Amc Bf L a1 b3 b5 a0)
theorem Btp(Bf:Ab->Bool->Option Int)(L:Nat)(kk:Lr)(a1:Bool)(r1:Int)(b2:Bool)(b3:Bool)(b5:Bool)(b8:Bool)(a0:Ab)(z3:EC):EV (Aom Bf L) L 9 (EC.put (rl [2]) z3 Aj4.x.w) (A3n a1 r1 b2 b3 b5 b8 a0) (A3d Bf L kk)= @sx_R09_node_2 Prop (anP (kQ I kk)) Bf L a1 r1 b2 b3 b5 b8 a0 (λa1 b3 b5 a0=>EV (Aom Bf L) L 9 z3 (A3o a1 b3 b5 a0) (A3e Bf L kk)):=by kernel_rfl
theorem Btb(Bf:Ab->Bool->Option Int)(L:Nat)(kk:Lr)(a1:Bool)(r1:Int)(b2:Bool)(b3:Bool)(b5:Bool)(b8:Bool)(a0:Ab):EV (Aom Bf L) L 9 Aj4.x.w (A3n a1 r1 b2 b3 b5 b8 a0) (A3d Bf L kk)=ob (Amb Bf L a1 r1 b2 b3 b5 b8 a0) (kQ I kk):=Eq.trans (b:=EV (Aom Bf L) L 9 (EC.put (rl [2]) Aj4.x.w.u Aj4.x.w) (A3n a1 r1 b2 b3 b5 b8 a0) (A3d Bf L kk)) (by kernel_rfl) ((Btp Bf L kk a1 r1 b2 b3 b5 b8 a0 Aj4.x.w.u).trans (eE (sx_R09_node_2 Bf L a1 r1 b2 b3 b5 b8 a0 (λa1 b3 b5 a0=>re (Btc Bf L kk a1 b3 b5 a0)))))
def A3m(a1:Bool)(r1:Int)(b2:Bool)(b3:Bool)(a0:Ab):St:=⟨[(1,B a1),Tp,(4,I 0),(5,I r1),(6,B b2),(7,B b3)],[(2,(Cl a0))],0⟩
def A3c(Bf:Ab->Bool->Option Int)(L:Nat)(kk:Lr):Ei:=(KE Tryz.f182 kk)
def sx_R09_node_1 [An A Int](Bf:Ab->Bool->Option Int)(L:Nat)(a1:Bool)(r1:Int)(b2:Bool)(b3:Bool)(a0:Ab)(nx2:Bool->Int->Bool->Bool->Bool->Bool->Ab->A):A:=
 (jb (.cn a1
 (.bd (g8 L a0.Op) λr6=>
 (.cn r6
 (.lf true)
 (.cn (a0.Op == 25)
 (.lf true)
 (.lf (a0.Op == 26)))))
 (.lf false)) (λb5=>
 (jp (.cn (a0.Op == 1)
 (.lf true)
 (.lf (a0.Op == 2))) (λb7=>
 (jp (.cn b7
 (.lf true)
 (.lf b5)) (λb8=>
 (nx2 a1 r1 b2 b3 b5 b8 a0)))))))
def Ama [An A Int](Bf:Ab->Bool->Option Int)(L:Nat)(a1:Bool)(r1:Int)(b2:Bool)(b3:Bool)(a0:Ab):A:=sx_R09_node_1 Bf L a1 r1 b2 b3 a0 (λa1 r1 b2 b3 b5 b8 a0=>Amb Bf L a1 r1 b2 b3 b5 b8 a0)
theorem Bto(Bf:Ab->Bool->Option Int)(L:Nat)(kk:Lr)(a1:Bool)(r1:Int)(b2:Bool)(b3:Bool)(a0:Ab)(z2:EC):EV (Aom Bf L) L 9 (EC.put (rl [4]) z2 Aj4.x) (A3m a1 r1 b2 b3 a0) (A3c Bf L kk)= @sx_R09_node_1 Prop (anP (kQ I kk)) Bf L a1 r1 b2 b3 a0 (λa1 r1 b2 b3 b5 b8 a0=>EV (Aom Bf L) L 9 z2 (A3n a1 r1 b2 b3 b5 b8 a0) (A3d Bf L kk)):=by kernel_rfl
theorem Bta(Bf:Ab->Bool->Option Int)(L:Nat)(kk:Lr)(a1:Bool)(r1:Int)(b2:Bool)(b3:Bool)(a0:Ab):EV (Aom Bf L) L 9 Aj4.x (A3m a1 r1 b2 b3 a0) (A3c Bf L kk)=ob (Ama Bf L a1 r1 b2 b3 a0) (kQ I kk):=Eq.trans (b:=EV (Aom Bf L) L 9 (EC.put (rl [4]) Aj4.x.w Aj4.x) (A3m a1 r1 b2 b3 a0) (A3c Bf L kk)) (by kernel_rfl) ((Bto Bf L kk a1 r1 b2 b3 a0 Aj4.x.w).trans (eE (sx_R09_node_1 Bf L a1 r1 b2 b3 a0 (λa1 r1 b2 b3 b5 b8 a0=>re (Btb Bf L kk a1 r1 b2 b3 b5 b8 a0)))))
def sx_R09_node_0 [An A Int](Bf:Ab->Bool->Option Int)(L:Nat)(a0:Ab)(a1:Bool)(nx1:Bool->Int->Bool->Bool->Ab->A):A:=
 (bd (Aj9 L a0.Op) λr1=>
 (jp (.cn (decide (r1>=0))
 (.cn a1
 (.cn (a0.Op != 3)
 (.lf true)
 (.cn (!a1)
 (.lf (decide (a0.Op<=24)))
 (.lf false)))
 (.cn (!a1)
 (.lf (decide (a0.Op<=24)))
 (.lf false)))
 (.lf false)) (λb2=>
 (jb (.cn (!a1)
 (.cn (a0.Op == 3)
 (.lf true)
 (.bd (g8 L a0.Op) λr4=>
 (.lf r4)))
 (.lf false)) (λb3=>
 (nx1 a1 r1 b2 b3 a0))))))
def A35 [An A Int](Bf:Ab->Bool->Option Int)(L:Nat)(a0:Ab)(a1:Bool):A:=sx_R09_node_0 Bf L a0 a1 (λa1 r1 b2 b3 a0=>Ama Bf L a1 r1 b2 b3 a0)
theorem Btn(Bf:Ab->Bool->Option Int)(L:Nat)(kk:Lr)(a0:Ab)(a1:Bool)(z1:EC):EW (Aom Bf L) L 9 (RS Tryz.f182) (EC.put (rl [8]) z1 Aj4) [.agg (Cl a0),B a1] kk= @sx_R09_node_0 Prop (anP (kQ I kk)) Bf L a0 a1 (λa1 r1 b2 b3 a0=>EV (Aom Bf L) L 9 z1 (A3m a1 r1 b2 b3 a0) (A3c Bf L kk)):=by kernel_rfl
def Aue(Bf:Ab->Bool->Option Int)(L:Nat)(a0:Ab)(a1:Bool):Option Int:=A35 Bf L a0 a1
theorem Ccw(Bf:Ab->Bool->Option Int)(Bor:Bjh Bf)(L:Nat):Bjh (Aue Bf L):=λa0 a1 r h=>hF Tryz.func182 (Cef Bf Bor L) L (λkk=>Eq.trans (b:=EW (Aom Bf L) L 9 (RS Tryz.f182) (EC.put (rl [8]) Aj4.x Aj4) [.agg (Cl a0),B a1] kk) (by kernel_rfl) ((Btn Bf L kk a0 a1 Aj4.x).trans (eE (sx_R09_node_0 Bf L a0 a1 (λa1 r1 b2 b3 a0=>re (Bta Bf L kk a1 r1 b2 b3 a0)))))) h
def P3:Nat->Ab->Bool->Option Int
 |0,_,_=>none
 |L+1,a0,a1=>Aue (P3 L) L a0 a1
theorem Bub(L:Nat):Bjh (P3 L):=by
 induction L with
 |zero=>exact λ_ _ _ h=>(by cases h)
 |succ L ih=>
  have i182:=ih;exact Ccw (P3 L) i182 L
def Cb0(L:Nat):F6:=E2 I 182 Bi cB (P3 L) (Bub L)
def Ara [An A Int](a0:Ab)(a1:Bool):A:=
 (bd (Ol L (Ab.cp a0)) λr1=>
 (cn (decide (r1>60))
 (lf 6)
 (bd (Ok L (Ab.cp a0)) λr2=>
 (cn (decide (r2>12))
 (lf 11)
 (bd (P3 L (Ab.cp a0) a1) λr3=>
 (lf r3))))))
def Afl(a0:Ab)(a1:Bool):Option Int:=Ara L a0 a1
def B6t:F6:=E2 I 142 Bi cB (Afl L) λa0 a1 r h=>hF Tryz.func142 (oS [Cby L,Cbz L,Cb0 L]) L (λkk=>eE (Ara L a0 a1)) h
def Aq9 [An A Int](a0:Ab):A:=
 (bd (Afl L (Ab.cp a0) false) λr1=>
 (lf r1))
def R9(a0:Ab):Option Int:=Aq9 L a0
def Cci:F6:=E1 I 230 Bi (R9 L) λa0 r h=>hF Tryz.func230 (oS [B6t L]) L (λkk=>eE (Aq9 L a0)) h
def Bax:=CC Tryz.f227
def A7a:Bc:=oL [Cci L]
def Byb(a0:Ad)(a1:C1)(v:Js):St:=⟨[(0,.any),(1,.any),Tp,(3,.any),(4,I 0),(5,I v.1),(6,I v.2)],[(2,(Zt a0)),(3,(Apb a1))],0⟩
def Vr [An A C3](a0:Ad)(a1:C1)(rec:Int->Int->A)(Ag:Int)(Al:Int):A:=
 (jp (.cn (Ag == 0)
 (.lf (decide (Al<(a0.aP.length:Int))))
 (.lf false)) (λb5=>
 (cn b5
 (gi Al a0.aP
 (bd (R9 L (Ab.cp (gD a0.aP Al))) λr6=>
 (rec r6 (Bs (Al+1)))))
 (lf (0,Ag,Al)))))
def Dd(L:Nat)(a0:Ad)(a1:C1):Nat->Int->Int->Option C3
 |0,_,_=>none
 |n+1,Ag,Al=>Vr L a0 a1 (Dd L a0 a1 n) Ag Al
theorem Akv(a0:Ad)(a1:C1):LP (EV (A7a L) L 9 Bax.x.u.l.u.l.l) [0,1,2,3,4,5,6] [2,3] (Byb a0 a1) [.exit 0] (λn v=>Dd L a0 a1 n v.1 v.2) K:=lE (λ_=>rfl) λn v ih=>eE (Vr L a0 a1 (λAg Al=>re (ih (Ag,Al))) v.1 v.2)
def Aay [An A Int](L:Nat)(o10:Nat×Js):A:=
 (sl o10.1 [(lf o10.2.1)])
def Aaz [An A Int](L:Nat)(o11:Nat×Js):A:=
 (sl o11.1 [(lf o11.2.1)])
def Aa0 [An A Int](L:Nat)(o12:Nat×Js):A:=
 (sl o12.1 [(lf o12.2.1)])
def Aa1 [An A Int](L:Nat)(o13:Nat×Js):A:=
 (sl o13.1 [(lf o13.2.1)])
def Aa2 [An A Int](L:Nat)(o14:Nat×Js):A:=
 (sl o14.1 [(lf o14.2.1)])
def Aa3 [An A Int](L:Nat)(o15:Nat×Js):A:=
 (sl o15.1 [(lf o15.2.1)])
def Aa4 [An A Int](L:Nat)(o16:Nat×Js):A:=
 (sl o16.1 [(lf o16.2.1)])
def Aa5 [An A Int](L:Nat)(o17:Nat×Js):A:=
 (sl o17.1 [(lf o17.2.1)])
def Abw [An A Int](a0:Ad)(a1:C1)(nx1:A)(nx2:Int->A)(nx3:A)(nx4:Int->A)(nx5:A)(nx6:Int->A)(nx7:A)(nx8:A):A:=
 (cn a1.E
 (bd (R9 L (Ab.cp a0.E)) λr1=>
 (jp (.cn (r1 == 0)
 (.lf a1.F)
 (.lf false)) (λb2=>
 (cn b2
 (bd (R9 L (Ab.cp a0.F)) λr3=>
 (jp (.cn (r3 == 0)
 (.lf (decide ((a0.aP.length:Int)>6)))
 (.lf false)) (λb4=>
 (cn b4
 nx1
 (nx2 r3)))))
 (jp (.cn (r1 == 0)
 (.lf (decide ((a0.aP.length:Int)>6)))
 (.lf false)) (λb7=>
 (cn b7
 nx3
 (nx4 r1))))))))
 (nq (cn a1.F
 (bd (R9 L (Ab.cp a0.F)) λr8=>
 (jp (.cn (r8 == 0)
 (.lf (decide ((a0.aP.length:Int)>6)))
 (.lf false)) (λb9=>
 (cn b9
 nx5
 (nx6 r8)))))
 (nq (cn (decide ((a0.aP.length:Int)>6))
 nx7
 nx8)))))
def A00 [An A Int](a0:Ad)(a1:C1):A:=Abw L a0 a1 (bd (Dd L a0 a1 L 6 0) λo10=>Aay L o10) (λr3=>bd (Dd L a0 a1 L r3 0) λo11=>Aaz L o11) (bd (Dd L a0 a1 L 6 0) λo12=>Aa0 L o12) (λr1=>bd (Dd L a0 a1 L r1 0) λo13=>Aa1 L o13) (bd (Dd L a0 a1 L 6 0) λo14=>Aa2 L o14) (λr8=>bd (Dd L a0 a1 L r8 0) λo15=>Aa3 L o15) (bd (Dd L a0 a1 L 6 0) λo16=>Aa4 L o16) (bd (Dd L a0 a1 L 0 0) λo17=>Aa5 L o17)
def Akb(a0:Ad)(a1:C1):Option Int:=A00 L a0 a1
def Ccg:F6:=E2 I 227 Afx Bdv (Akb L) λa0 a1 r h=>hF Tryz.func227 (C:=A7a L) (oS _) L (λkk=>eE (Abw L a0 a1 (hq (Akv L (KA (A7a L) L 9 Bax (rl [10,1,2,1]) (KE Tryz.f227 kk)) a0 a1 L (6,0)) λo10=>Aay L o10) (λr3=>hq (Akv L (KA (A7a L) L 9 Bax (rl [10,1,2,1]) (KE Tryz.f227 kk)) a0 a1 L (r3,0)) λo11=>Aaz L o11) (hq (Akv L (KA (A7a L) L 9 Bax (rl [10,1,2,1]) (KE Tryz.f227 kk)) a0 a1 L (6,0)) λo12=>Aa0 L o12) (λr1=>hq (Akv L (KA (A7a L) L 9 Bax (rl [10,1,2,1]) (KE Tryz.f227 kk)) a0 a1 L (r1,0)) λo13=>Aa1 L o13) (hq (Akv L (KA (A7a L) L 9 Bax (rl [10,1,2,1]) (KE Tryz.f227 kk)) a0 a1 L (6,0)) λo14=>Aa2 L o14) (λr8=>hq (Akv L (KA (A7a L) L 9 Bax (rl [10,1,2,1]) (KE Tryz.f227 kk)) a0 a1 L (r8,0)) λo15=>Aa3 L o15) (hq (Akv L (KA (A7a L) L 9 Bax (rl [10,1,2,1]) (KE Tryz.f227 kk)) a0 a1 L (6,0)) λo16=>Aa4 L o16) (hq (Akv L (KA (A7a L) L 9 Bax (rl [10,1,2,1]) (KE Tryz.f227 kk)) a0 a1 L (0,0)) λo17=>Aa5 L o17))) h
def Ayl [An A Int](a0:Ad):A:=
 (bd (Aqz L a0.Op) λr1=>
 (bd (Ahr L (Ad.cp a0)) λr2=>
 (cn (!r2)
 (lf 1)
 (jb (.cn r1.1.aF
 (.bd (Jz L a0.aF) λr4=>
 (.lf (r4 != 0)))
 (.lf false)) (λb3=>
 (jb (.cn b3
 (.lf true)
 (.cn r1.1.Of
 (.bd (Jz L a0.Of) λr6=>
 (.lf (r6 != 0)))
 (.lf false))) (λb5=>
 (cn b5
 (lf 3)
 (bd (Akb L (Ad.cp a0) (⟨r1.1.aF,r1.1.Of,r1.1.E,r1.1.F,r1.1.aP,r1.1.bF,r1.1.bY,r1.1.bE,r1.1.bN⟩:C1)) λr7=>
 (jp (.cn (r7 == 0)
 (.lf r1.1.bF)
 (.lf false)) (λb8=>
 (cn b8
 (bd (R8 L a0.bF) λr9=>
 (lf r9))
 (lf r7)))))))))))))
def Aml(a0:Ad):Option Int:=Ayl L a0
def B66:F6:=E1 I 218 Afx (Aml L) λa0 r h=>hF Tryz.func218 (oS [X30 L,X85 L,B68 L,Ccf L,Ccg L]) L (λkk=>eE (Ayl L a0)) h
def Bjr(F:(List Ad)->Option Int):Prop:=∀y0 r,F y0=some r->Ho Tryz.prog 206 [Z8.en y0] I r
def B8l:=CC Tryz.f206
def B0w(Ef:(List Ad)->Option Int)(L:Nat):Bc:=(orc 206 (A1 I Z8 Ef) (oL [B66 L]))
theorem Cep(Ef:(List Ad)->Option Int)(Bo2:Bjr Ef)(L:Nat):Dl Tryz.prog (B0w Ef L):=(Er (a1 _ Bo2) (oS [B66 L]))
def Bx7(a0:List Ad)(v:Js):St:=⟨[(0,lv (.dX a0)),(2,I v.1),(3,I v.2)],[],0⟩
def Aeq [An A C3](Ef:(List Ad)->Option Int)(L:Nat)(a0:List Ad)(rec:Int->Int->A)(Ag:Int)(Al:Int):A:=
 (lw Al a0
 (bd (Aml L (Ad.cp (gD a0 Al))) λr1=>
 (cn (r1 == 0)
 (gi Al a0
 (bd (Ef ((gD a0 Al).bE)) λr2=>
 (cn (r2 == 0)
 (gi Al a0
 (bd (Ef ((gD a0 Al).bN)) λr3=>
 (cn (r3 != 0)
 (lf (0,r3,Al))
 (rec Ag (Bs (Al+1))))))
 (cn (r2 != 0)
 (lf (0,r2,Al))
 (rec Ag (Bs (Al+1)))))))
 (cn (r1 == 0)
 (gi Al a0
 (bd (Ef ((gD a0 Al).bN)) λr4=>
 (cn (r4 != 0)
 (lf (0,r4,Al))
 (rec Ag (Bs (Al+1))))))
 (cn (r1 != 0)
 (lf (0,r1,Al))
 (rec Ag (Bs (Al+1)))))))
 (lf (1,Ag,Al)))
def Qb(Ef:(List Ad)->Option Int)(L:Nat)(a0:List Ad):Nat->Int->Int->Option C3
 |0,_,_=>none
 |n+1,Ag,Al=>Aeq Ef L a0 (Qb Ef L a0 n) Ag Al
theorem Bwj(Ef:(List Ad)->Option Int)(L:Nat)(K:Ei)(a0:List Ad):LP (EV (B0w Ef L) L 9 B8l.u.l.u.l.l) [0,2,3] [] (Bx7 a0) [.ret,.exit 0] (λn v=>Qb Ef L a0 n v.1 v.2) K:=lE (λ_=>rfl) λn v ih=>eE (Aeq Ef L a0 (λAg Al=>re (ih (Ag,Al))) v.1 v.2)
def Ae5 [An A Int](Ef:(List Ad)->Option Int)(L:Nat)(o5:Nat×Js):A:=
 (sl o5.1 [(lf o5.2.1),
 (lf 0)])
def A36 [An A Int](Ef:(List Ad)->Option Int)(L:Nat)(a0:List Ad):A:=(bd (Qb Ef L a0 L 0 0) λo5=>Ae5 Ef L o5)
def Auf(Ef:(List Ad)->Option Int)(L:Nat)(a0:List Ad):Option Int:=A36 Ef L a0
theorem Cc6(Ef:(List Ad)->Option Int)(Bo2:Bjr Ef)(L:Nat):Bjr (Auf Ef L):=λa0 r h=>hF Tryz.func206 (Cep Ef Bo2 L) L (λkk=>eE ((hq (Bwj Ef L (KA (B0w Ef L) L 9 B8l (rl [2,1,2,1]) (KE Tryz.f206 kk)) a0 L (0,0)) λo5=>Ae5 Ef L o5))) h
def Sh:Nat->(List Ad)->Option Int
 |0,_=>none
 |L+1,a0=>Auf (Sh L) L a0
theorem Bul(L:Nat):Bjr (Sh L):=by
 induction L with
 |zero=>exact λ_ _ h=>(by cases h)
 |succ L ih=>
  have i206:=ih;exact Cc6 (Sh L) i206 L
def Cca(L:Nat):F6:=E1 I 206 Z8 (Sh L) (Bul L)
def Arb [An A Int](a0:List Ad):A:=
 (bd (Om L a0) λr1=>
 (cn (decide (r1>200))
 (lf 6)
 (bd (On L a0) λr2=>
 (cn (decide (r2>12))
 (lf 11)
 (bd (Sh L a0) λr3=>
 (lf r3))))))
def Aka(a0:List Ad):Option Int:=Arb L a0
def Cbt:F6:=E1 I 175 Z8 (Aka L) λa0 r h=>hF Tryz.func175 (oS [Cb8 L,Cb9 L,Cca L]) L (λkk=>eE (Arb L a0)) h
def B7u:=CC Tryz.f133
def B0d:Bc:=oL [X47 L,X48 L,X50 L,X71 L,Cbt L]
def Bxi(a0:Am)(v:Tu7):St:=⟨[(0,.any),zq7,(2,I v.1),(3,.bB true (.t9 v.2.1)),(4,.bB true (.dQ (a0.aJ++a0.bC))),(5,I v.2.2)],[(1,(Cs a0))],0⟩
def Wa [An A (Nat×Tu7)](a0:Am)(rec:Int->List Yb->Int->A)(Ai:Int)(Ag:List Yb)(Af:Int):A:=
 (lw Af (a0.aJ++a0.bC)
 (bd (L4 L ((gD (a0.aJ++a0.bC) Af).aF) Ag) λr2=>
 (gi Af (a0.aJ++a0.bC)
 (bd (Vf L ((gD (a0.aJ++a0.bC) Af).bO)) λr3=>
 (bd (Cj L r3 1) λr4=>
 (bd (Cy L r2 r4) λr5=>
 (cn (r5 != 0)
 (lf (0,r5,Ag,Af))
 (gi Af (a0.aJ++a0.bC)
 (gq ((Ag.length+ [(gD (a0.aJ++a0.bC) Af).aF].length)*16<=140737488355328)
 (gq (Ag.length+ [(gD (a0.aJ++a0.bC) Af).aF].length<=maxLen)
 (rec Ai (Ag++ [(gD (a0.aJ++a0.bC) Af).aF]) (Bs (Af+1))))))))))))
 (lf (1,Ai,Ag,Af)))
def Jc(L:Nat)(a0:Am):Nat->Int->List Yb->Int->Option (Nat×Tu7)
 |0,_,_,_=>none
 |n+1,Ai,Ag,Af=>Wa L a0 (Jc L a0 n) Ai Ag Af
theorem Bvu(a0:Am):LP (EV (B0d L) L 9 B7u.x.l.u.l.l) [0,1,2,3,4,5] [1] (Bxi a0) [.ret,.exit 0] (λn v=>Jc L a0 n v.1 v.2.1 v.2.2) K:=lE (λ_=>rfl) λn v ih=>eE (Wa L a0 (λAi Ag Af=>re (ih (Ai,Ag,Af))) v.1 v.2.1 v.2.2)
def Wl [An A Int](a0:Am)(o6:Nat×Tu7):A:=
 (sl o6.1 [(lf o6.2.1),
 (bd (Aka L a0.bE) λr7=>
 (lf r7))])
def W8 [An A Int](L:Nat)(a0:Am)(nx1:A):A:=
 (jp (.cn (decide ((a0.aJ.length:Int)>6))
 (.lf true)
 (.lf (decide ((Bs ((a0.aJ.length:Int)+(a0.bC.length:Int)))>16)))) (λb1=>
 (cn b1
 (lf 6)
 (gq ((0+a0.aJ.length)*24<=140737488355328)
 (gq (0+a0.aJ.length<=maxLen)
 (gq ((a0.aJ.length+a0.bC.length)*24<=140737488355328)
 (gq (a0.aJ.length+a0.bC.length<=maxLen)
 nx1)))))))
def Atr [An A Int](a0:Am):A:=W8 L a0 (bd (Jc L a0 L 0 [] 0) λo6=>Wl L a0 o6)
def Aej(a0:Am):Option Int:=Atr L a0
def Cbd:F6:=E1 I 133 Ar0 (Aej L) λa0 r h=>hF Tryz.func133 (C:=B0d L) (oS _) L (λkk=>eE (W8 L a0 (hq (Bvu L (KA (B0d L) L 9 B7u (rl [8,1,2,1]) (KE Tryz.f133 kk)) a0 L (0,[],0)) λo6=>Wl L a0 o6))) h
def J0 [An A Int](a0:Aa)(a1:Int)(a2:Int):A:=
 (cn (a1 == 0)
 (gi a2 a0.bX
 (bd (Vf L ((gD a0.bX a2).bO)) λr1=>
 (bd (Cj L r1 1) λr2=>
 (gi a2 a0.bX
 (gi a2 a0.bX
 (bd (Zn L ((gD a0.bX a2).bO) ((gD a0.bX a2).N)) λr3=>
 (bd (Cj L r3 2) λr4=>
 (bd (Cy L r2 r4) λr5=>
 (lf r5)))))))))
 (cn (a1 == 1)
 (gi a2 a0.aG
 (bd (Vg L a0 (⟨(gD a0.aG a2).aF,(gD a0.aG a2).Units,(gD a0.aG a2).bA,(gD a0.aG a2).dA,(⟨(gD a0.aG a2).bS.dG,((gD a0.aG a2).bS.Up),((gD a0.aG a2).bS.Down)⟩:N7)⟩:Ak)) λr6=>
 (lf r6)))
 (cn (a1 == 2)
 (gi a2 a0.aM
 (gi a2 a0.aM
 (bd (Dh L ((gD a0.aM a2).Room) 1 1000) λr7=>
 (bd (Cj L r7 2) λr8=>
 (jp (.cn (decide ((gD a0.aM a2).dM>=1))
 (.lf (decide ((gD a0.aM a2).dM<=3)))
 (.lf false)) (λb9=>
 (bd (Cj L b9 1) λr10=>
 (bd (Cy L r8 r10) λr11=>
 (lf r11)))))))))
 (cn (a1 == 3)
 (gi a2 a0.bL
 (bd (Dh L ((gD a0.bL a2).Length) 1 1000) λr12=>
 (jb (.cn r12
 (.gq (0<=a2)
 (.gq (a2<(a0.bL.length:Int))
 (.bd (Dh L ((gD a0.bL a2).Step) 1 1000) λr14=>
 (.lf r14))))
 (.lf false)) (λb13=>
 (bd (Cj L b13 2) λr15=>
 (lf r15))))))
 (cn (a1 == 9)
 (gi a2 a0.aD
 (bd (Aej L (gD a0.aD a2)) λr16=>
 (lf r16)))
 (lf 0))))))
def Da(a0:Aa)(a1:Int)(a2:Int):Option Int:=J0 L a0 a1 a2
def X74:F6:=E3 I 74 C7 (cI .i64) (cI .i64) (Da L) λa0 a1 a2 r h=>hF Tryz.func74 (oS [X47 L,X48 L,X71 L,X72 L,X78 L,Cbc L,Cbd L]) L (λkk=>eE (J0 L a0 a1 a2)) h
def Alf [An A Int](a0:Aa)(a1:Yb):A:=
 (bd (Z0 L a0) λr1=>
 (gi 9 r1
 (bd (Km L (r1.getD 9 default) a1) λr2=>
 (lf r2))))
def Aei(a0:Aa)(a1:Yb):Option Int:=Alf L a0 a1
def Cbe:F6:=E2 I 134 C7 cS (Aei L) λa0 a1 r h=>hF Tryz.func134 (oS [X69 L,X73 L]) L (λkk=>eE (Alf L a0 a1)) h
def c75:=CC Tryz.f75
def O75:Bc:=oL [X48 L,X72 L,X78 L,Cbe L]
def B53(a0:Aa)(r1:Int)(a1:Bv)(v:Js):St:=⟨[(0,.any),(1,.any),(2,.any),T4,(4,I v.1),(5,.any),(6,lv (.dQ ((gD a0.aD r1).aJ))),(7,I v.2),(8,.any)],[(2,(Ae a0)),(3,(Akn a1))],0⟩
def Aab [An A C3](a0:Aa)(r1:Int)(a1:Bv)(rec:Int->Int->A)(Ai:Int)(Al:Int):A:=
 (lw Al ((gD a0.aD r1).aJ)
 (gi Al a1.aP
 (bd (Zn L ((gD ((gD a0.aD r1).aJ) Al).bO) (gD a1.aP Al)) λr2=>
 (cn (!r2)
 (lf (0,2,Al))
 (rec Ai (Bs (Al+1))))))
 (lf (1,Ai,Al)))
def Ni(L:Nat)(a0:Aa)(r1:Int)(a1:Bv):Nat->Int->Int->Option C3
 |0,_,_=>none
 |n+1,Ai,Al=>Aab L a0 r1 a1 (Ni L a0 r1 a1 n) Ai Al
theorem B32(a0:Aa)(r1:Int)(a1:Bv):LP (EV (O75 L) L 9 c75.x.u.l.u.l.l) [0,1,2,3,4,5,6,7,8] [2,3] (B53 a0 r1 a1) [.ret,.exit 0] (λn v=>Ni L a0 r1 a1 n v.1 v.2) K:=lE (λ_=>rfl) λn v ih=>eE (Aab L a0 r1 a1 (λAi Al=>re (ih (Ai,Al))) v.1 v.2)
def Abb [An A Int](a1:Bv)(o3:Nat×Js):A:=
 (sl o3.1 [(lf o3.2.1),
 (bd (Dh L a1.At 0 1000000000) λr4=>
 (jb (.cn r4
 (.bd (Dh L a1.Every 0 1000000000) λr6=>
 (.lf r6))
 (.lf false)) (λb5=>
 (jb (.cn b5
 (.bd (Dh L a1.Until 0 1000000000) λr8=>
 (.lf r8))
 (.lf false)) (λb7=>
 (jp (.cn b7
 (.cn (a1.Every != 0)
 (.lf true)
 (.lf (a1.Until == 0)))
 (.lf false)) (λb9=>
 (bd (Cj L b9 2) λr10=>
 (lf r10)))))))))])
def Ab5 [An A Int](a0:Aa)(a1:Bv)(nx1:Int->A):A:=
 (bd (Aei L a0 a1.dJ) λr1=>
 (cn (decide (r1<0))
 (lf 5)
 (gi r1 a0.aD
 (cn ((a1.aP.length:Int) != ((gD a0.aD r1).aJ.length:Int))
 (lf 8)
 (nx1 r1)))))
def A04 [An A Int](a0:Aa)(a1:Bv):A:=Ab5 L a0 a1 (λr1=>bd (Ni L a0 r1 a1 L 0 0) λo3=>Abb L a1 o3)
def Z1(a0:Aa)(a1:Bv):Option Int:=A04 L a0 a1
def X75:F6:=E2 I 75 C7 Awp (Z1 L) λa0 a1 r h=>hF Tryz.func75 (C:=O75 L) (oS _) L (λkk=>eE (Ab5 L a0 a1 (λr1=>hq (B32 L (KA (O75 L) L 9 c75 (rl [10,1,2,1]) (KE Tryz.f75 kk)) a0 r1 a1 L (0,0)) λo3=>Abb L a1 o3))) h
def B73:=CC Tryz.f176
def B0h:Bc:=oL [X69 L,X73 L]
def Bxr(a1:Yb)(r1:List (List Yb))(a0:Aa)(v:Yb×Int):St:=⟨[(0,.any),(1,S a1),(2,.any),(4,S v.1),(5,lv (.t61 r1)),(6,.bB true (.t9 [(⟨#[118,97,114]⟩:Yb),(⟨#[114,101,115,111,117,114,99,101]⟩:Yb),(⟨#[115,116,111,114,101]⟩:Yb),(⟨#[98,101,108,116]⟩:Yb),(⟨#[113,117,101,117,101]⟩:Yb),(⟨#[115,116,114,101,97,109]⟩:Yb),(⟨#[116,97,108,108,121]⟩:Yb),(⟨#[108,101,118,101,108]⟩:Yb),(⟨#[99,111,117,110,116]⟩:Yb),(⟨#[114,111,117,116,105,110,101]⟩:Yb)])),(7,I v.2)],[(2,(Ae a0))],0⟩
def Aer [An A (Nat×Yb×Int)](a1:Yb)(r1:List (List Yb))(a0:Aa)(rec:Yb->Int->A)(Ag:Yb)(Bj:Int):A:=
 (lw Bj r1
 (bd (Km L (gD r1 Bj) a1) λr2=>
 (cn (decide (r2>=0))
 (gq (0<=Bj)
 (gq (Bj<(([(⟨#[118,97,114]⟩:Yb),(⟨#[114,101,115,111,117,114,99,101]⟩:Yb),(⟨#[115,116,111,114,101]⟩:Yb),(⟨#[98,101,108,116]⟩:Yb),(⟨#[113,117,101,117,101]⟩:Yb),(⟨#[115,116,114,101,97,109]⟩:Yb),(⟨#[116,97,108,108,121]⟩:Yb),(⟨#[108,101,118,101,108]⟩:Yb),(⟨#[99,111,117,110,116]⟩:Yb),(⟨#[114,111,117,116,105,110,101]⟩:Yb)].length:Nat):Int))
 (lf (0,(([(⟨#[118,97,114]⟩:Yb),(⟨#[114,101,115,111,117,114,99,101]⟩:Yb),(⟨#[115,116,111,114,101]⟩:Yb),(⟨#[98,101,108,116]⟩:Yb),(⟨#[113,117,101,117,101]⟩:Yb),(⟨#[115,116,114,101,97,109]⟩:Yb),(⟨#[116,97,108,108,121]⟩:Yb),(⟨#[108,101,118,101,108]⟩:Yb),(⟨#[99,111,117,110,116]⟩:Yb),(⟨#[114,111,117,116,105,110,101]⟩:Yb)].getD (Int.toNat Bj) default),Bj)))))
 (rec Ag (Bs (Bj+1)))))
 (lf (1,Ag,Bj)))
def Qc(L:Nat)(a1:Yb)(r1:List (List Yb))(a0:Aa):Nat->Yb->Int->Option (Nat×Yb×Int)
 |0,_,_=>none
 |n+1,Ag,Bj=>Aer L a1 r1 a0 (Qc L a1 r1 a0 n) Ag Bj
theorem Bv3(a1:Yb)(r1:List (List Yb))(a0:Aa):LP (EV (B0h L) L 9 B73.w.u.l.u.l.l) [0,1,2,4,5,6,7] [2] (Bxr a1 r1 a0) [.ret,.exit 0] (λn v=>Qc L a1 r1 a0 n v.1 v.2) K:=lE (λ_=>rfl) λn v ih=>eE (Aer L a1 r1 a0 (λAg Bj=>re (ih (Ag,Bj))) v.1 v.2)
def Ae6 [An A Yb](L:Nat)(o3:Nat×Yb×Int):A:=
 (sl o3.1 [(lf o3.2.1),
 (lf (⟨#[]⟩:Yb))])
def Afe [An A Yb](a0:Aa)(a1:Yb)(nx1:(List (List Yb))->A):A:=
 (bd (Z0 L a0) λr1=>
 (nx1 r1))
def A37 [An A Yb](a0:Aa)(a1:Yb):A:=Afe L a0 a1 (λr1=>bd (Qc L a1 r1 a0 L (⟨#[]⟩:Yb) 0) λo3=>Ae6 L o3)
def Aok(a0:Aa)(a1:Yb):Option Yb:=A37 L a0 a1
def Cbu:F6:=E2 S 176 C7 cS (Aok L) λa0 a1 r h=>hF Tryz.func176 (C:=B0h L) (oS _) L (λkk=>eE (Afe L a0 a1 (λr1=>hq (Bv3 L (KA (B0h L) L 9 B73 (rl [6,1,2,1]) (KE Tryz.f176 kk)) a1 r1 a0 L ((⟨#[]⟩:Yb),0)) λo3=>Ae6 L o3))) h
def Agp:=CC Tryz.f135
def Ate:Bc:=oL [X47 L,X48 L,X78 L,Cbu L]
def Bcv(a0:Aa)(a1:Bd)(p801_1:Yb):St:=⟨[Tp,T4,(4,I 0),(5,S p801_1)],[(2,(Ae a0)),(3,(Cv a1))],0⟩
def Bbi(L:Nat)(kk:Lr):Ei:=(KE Tryz.f135 kk)
def Qr [An A Int](a0:Aa)(a1:Bd)(p801_1:Yb):A:=
 (bd (Cj L (!(p801_1.toList == (⟨#[]⟩:Yb).toList)) 1) λr1=>
 (bd (Aok L a0 a1.aF) λr2=>
 (bd (Cj L (r2.toList == p801_1.toList) 5) λr3=>
 (bd (Cy L r1 r3) λr4=>
 (bd (Dh L a1.cZ (-1000) 1000) λr5=>
 (jp (.cn r5
 (.lf (a1.cZ != 0))
 (.lf false)) (λb6=>
 (bd (Cj L b6 2) λr7=>
 (bd (Cy L r4 r7) λr8=>
 (lf r8))))))))))
theorem Bj0(a0:Aa)(a1:Bd)(p801_1:Yb):EV (Ate L) L 9 Agp.w.u (Bcv a0 a1 p801_1) (Bbi L kk)=ob (Qr L a0 a1 p801_1) (kQ I kk):=eE (Qr L a0 a1 p801_1)
def A3l(a1:Bd)(a0:Aa)(p803_3:Bool):St:=⟨[Tp,T4,(4,I 0),(5,S (⟨#[]⟩:Yb)),(8,S a1.aO),(13,B p803_3)],[(2,(Ae a0)),(3,(Cv a1))],0⟩
def A3b(e0:EC):Ei:=(Gn 0 (Rn (EV (Ate L) L 9 e0) (KE Tryz.f135 kk)))
def sx_R11_term_3 [An A Int](L:Nat)(a1:Bd)(a0:Aa)(p803_3:Bool)(nx1:Aa->Bd->Yb->A):A:=
 (cn p803_3
 (nx1 a0 a1 (⟨#[115,116,111,114,101]⟩:Yb))
 (cn (a1.aO.toList == (⟨#[99,111,117,110,116,101,100]⟩:Yb).toList)
 (nx1 a0 a1 (⟨#[99,111,117,110,116]⟩:Yb))
 (nx1 a0 a1 (⟨#[]⟩:Yb))))
def Amf [An A Int](a1:Bd)(a0:Aa)(p803_3:Bool):A:=sx_R11_term_3 L a1 a0 p803_3 (λa0 a1 p801_1=>Qr L a0 a1 p801_1)
theorem Btm(a1:Bd)(a0:Aa)(p803_3:Bool)(z1:EC):EV (Ate L) L 9 Agp.w.l.u.l.w.r (A3l a1 a0 p803_3) (A3b L kk (EC.put (rl [1]) z1 Agp.w.r))= @sx_R11_term_3 Prop (anP (kQ I kk)) L a1 a0 p803_3 (λa0 a1 p801_1=>EV (Ate L) L 9 z1 (Bcv a0 a1 p801_1) (Bbi L kk)):=by kernel_rfl
theorem Bs9(a1:Bd)(a0:Aa)(p803_3:Bool):EV (Ate L) L 9 Agp.w.l.u.l.w.r (A3l a1 a0 p803_3) (A3b L kk Agp.w.r)=ob (Amf L a1 a0 p803_3) (kQ I kk):=Eq.trans (b:=EV (Ate L) L 9 Agp.w.l.u.l.w.r (A3l a1 a0 p803_3) (A3b L kk (EC.put (rl [1]) Agp.w.u Agp.w.r))) (by kernel_rfl) ((Btm L kk a1 a0 p803_3 Agp.w.u).trans (eE (sx_R11_term_3 L a1 a0 p803_3 (λa0 a1 p801_1=>re (Bj0 L kk a0 a1 p801_1)))))
def A3k(a1:Bd)(a0:Aa)(p802_3:Bool):St:=⟨[Tp,T4,(4,I 0),(5,S (⟨#[]⟩:Yb)),(8,S a1.aO),(9,B p802_3)],[(2,(Ae a0)),(3,(Cv a1))],0⟩
def A3a(e0:EC):Ei:=(Gn 0 (Rn (EV (Ate L) L 9 e0) (KE Tryz.f135 kk)))
def sx_R11_term_2 [An A Int](L:Nat)(a1:Bd)(a0:Aa)(p802_3:Bool)(nx1:Aa->Bd->Yb->A)(nx3:Bd->Aa->Bool->A):A:=
 (cn p802_3
 (nx1 a0 a1 (⟨#[114,111,117,116,105,110,101]⟩:Yb))
 (cn (a1.aO.toList == (⟨#[115,116,111,114,101,100]⟩:Yb).toList)
 (nx3 a1 a0 (a1.aO.toList == (⟨#[115,116,111,114,101,100]⟩:Yb).toList))
 (cn (a1.aO.toList == (⟨#[101,110,116,101,114,101,100]⟩:Yb).toList)
 (nx3 a1 a0 (a1.aO.toList == (⟨#[101,110,116,101,114,101,100]⟩:Yb).toList))
 (nx3 a1 a0 (a1.aO.toList == (⟨#[108,101,102,116]⟩:Yb).toList)))))
def Ame [An A Int](a1:Bd)(a0:Aa)(p802_3:Bool):A:=sx_R11_term_2 L a1 a0 p802_3 (λa0 a1 p801_1=>Qr L a0 a1 p801_1) (λa1 a0 p803_3=>Amf L a1 a0 p803_3)
theorem Btl(a1:Bd)(a0:Aa)(p802_3:Bool)(z1 z3:EC):EV (Ate L) L 9 (EC.put (rl [3]) z3 Agp.w.l.u.l.u) (A3k a1 a0 p802_3) (A3a L kk (EC.put (rl [1]) z1 Agp.w.r))= @sx_R11_term_2 Prop (anP (kQ I kk)) L a1 a0 p802_3 (λa0 a1 p801_1=>EV (Ate L) L 9 z1 (Bcv a0 a1 p801_1) (Bbi L kk)) (λa1 a0 p803_3=>EV (Ate L) L 9 z3 (A3l a1 a0 p803_3) (A3b L kk (EC.put (rl [1]) z1 Agp.w.r))):=by kernel_rfl
theorem Bs8(a1:Bd)(a0:Aa)(p802_3:Bool):EV (Ate L) L 9 Agp.w.l.u.l.u (A3k a1 a0 p802_3) (A3a L kk Agp.w.r)=ob (Ame L a1 a0 p802_3) (kQ I kk):=Eq.trans (b:=EV (Ate L) L 9 (EC.put (rl [3]) Agp.w.l.u.l.w.r Agp.w.l.u.l.u) (A3k a1 a0 p802_3) (A3a L kk (EC.put (rl [1]) Agp.w.u Agp.w.r))) (by kernel_rfl) ((Btl L kk a1 a0 p802_3 Agp.w.u Agp.w.l.u.l.w.r).trans (eE (sx_R11_term_2 L a1 a0 p802_3 (λa0 a1 p801_1=>re (Bj0 L kk a0 a1 p801_1)) (λa1 a0 p803_3=>re (Bs9 L kk a1 a0 p803_3)))))
def sx_R11_term_0 [An A Int](L:Nat)(a0:Aa)(a1:Bd)(nx2:Bd->Aa->Bool->A):A:=
 (cn (a1.aO.toList == (⟨#[99,114,101,97,116,101,100]⟩:Yb).toList)
 (nx2 a1 a0 (a1.aO.toList == (⟨#[99,114,101,97,116,101,100]⟩:Yb).toList))
 (cn (a1.aO.toList == (⟨#[101,110,100,101,100]⟩:Yb).toList)
 (nx2 a1 a0 (a1.aO.toList == (⟨#[101,110,100,101,100]⟩:Yb).toList))
 (nx2 a1 a0 (a1.aO.toList == (⟨#[105,110,115,105,100,101]⟩:Yb).toList))))
def A4a [An A Int](a0:Aa)(a1:Bd):A:=sx_R11_term_0 L a0 a1 (λa1 a0 p802_3=>Ame L a1 a0 p802_3)
theorem Btk(a0:Aa)(a1:Bd)(z2:EC):EW (Ate L) L 9 (RS Tryz.f135) (EC.put (rl [4,1,2,1,2]) z2 Agp) [.agg (Ae a0),.agg (Cv a1)] kk= @sx_R11_term_0 Prop (anP (kQ I kk)) L a0 a1 (λa1 a0 p802_3=>EV (Ate L) L 9 z2 (A3k a1 a0 p802_3) (A3a L kk Agp.w.r)):=by kernel_rfl
def Aim(a0:Aa)(a1:Bd):Option Int:=A4a L a0 a1
def Cbf:F6:=E2 I 135 C7 A1d (Aim L) λa0 a1 r h=>hF Tryz.func135 (C:=Ate L) (oS _) L (λkk=>Eq.trans (b:=EW (Ate L) L 9 (RS Tryz.f135) (EC.put (rl [4,1,2,1,2]) Agp.w.l.u.l.u Agp) [.agg (Ae a0),.agg (Cv a1)] kk) (by kernel_rfl) ((Btk L kk a0 a1 Agp.w.l.u.l.u).trans (eE (sx_R11_term_0 L a0 a1 (λa1 a0 p802_3=>re (Bs8 L kk a1 a0 p802_3)))))) h
def c76:=CC Tryz.f76
def O76:Bc:=oL [X47 L,X48 L,X50 L,Bsp L,Cbf L]
def B54(a0:Aa)(a1:Bh)(v:Js):St:=⟨[(0,.any),(1,.any),(2,.any),T4,Bgt,(6,I 0),(7,I v.1),(8,I v.2)],[(3,(Ae a0)),(4,(Dv a1))],0⟩
def Ah4 [An A C3](a0:Aa)(a1:Bh)(rec:Int->Int->A)(Ag:Int)(Al:Int):A:=
 (lw Al a1.bV
 (bd (Aim L a0 (gD a1.bV Al)) λr6=>
 (bd (Cy L Ag r6) λr7=>
 (rec r7 (Bs (Al+1)))))
 (lf (0,Ag,Al)))
def Sw(L:Nat)(a0:Aa)(a1:Bh):Nat->Int->Int->Option C3
 |0,_,_=>none
 |n+1,Ag,Al=>Ah4 L a0 a1 (Sw L a0 a1 n) Ag Al
theorem B33(a0:Aa)(a1:Bh):LP (EV (O76 L) L 9 c76.x.l.u.l.l) [0,1,2,3,4,6,7,8] [3,4] (B54 a0 a1) [.exit 0] (λn v=>Sw L a0 a1 n v.1 v.2) K:=lE (λ_=>rfl) λn v ih=>eE (Ah4 L a0 a1 (λAg Al=>re (ih (Ag,Al))) v.1 v.2)
def Aib [An A Int](a1:Bh)(o8:Nat×Js):A:=
 (sl o8.1 [(bd (Amk L a1.Total) λr9=>
 (bd (Cj L r9 2) λr10=>
 (bd (Cy L o8.2.1 r10) λr11=>
 (lf r11))))])
def Aie [An A Int](a0:Aa)(a1:Bh)(a2:List Yb)(nx1:Int->A):A:=
 (bd (L4 L a1.aF a2) λr1=>
 (bd (Cj L (decide ((a1.bV.length:Int)>0)) 7) λr2=>
 (bd (Cy L r1 r2) λr3=>
 (bd (Cj L (decide ((a1.bV.length:Int)<=8)) 6) λr4=>
 (bd (Cy L r3 r4) λr5=>
 (nx1 r5))))))
def A8v [An A Int](a0:Aa)(a1:Bh)(a2:List Yb):A:=Aie L a0 a1 a2 (λr5=>bd (Sw L a0 a1 L r5 0) λo8=>Aib L a1 o8)
def Amm(a0:Aa)(a1:Bh)(a2:List Yb):Option Int:=A8v L a0 a1 a2
def X76:F6:=E3 I 76 C7 Bg7 cl9 (Amm L) λa0 a1 a2 r h=>hF Tryz.func76 (C:=O76 L) (oS _) L (λkk=>eE (Aie L a0 a1 a2 (λr5=>hq (B33 L (KA (O76 L) L 9 c76 (rl [8,1,2,1]) (KE Tryz.f76 kk)) a0 a1 L (r5,0)) λo8=>Aib L a1 o8))) h
def c51:=CC Tryz.f51
def O51:Bc:=oL [X47 L,X50 L,X73 L,X74 L,X75 L,X76 L]
def B5j(r1:List (List Yb))(Af:Int)(a0:Aa)(v:Tu7):St:=⟨[(0,.any),zq7,(2,I v.1),(3,.bB true (.t9 v.2.1)),(4,lv (.t61 r1)),(5,I Af),(6,I v.2.2),(8,.any),(9,.any),(10,.any),A8s,Bdf],[(1,(Ae a0))],0⟩
def Aet [An A (Nat×Tu7)](r1:List (List Yb))(Af:Int)(a0:Aa)(rec:Int->List Yb->Int->A)(Bz:Int)(Gi:List Yb)(Lo:Int):A:=
 (gi Af r1
 (cn (decide (Lo<((gD r1 Af).length:Int)))
 (gi Af r1
 (gi Lo (gD r1 Af)
 (bd (L4 L (gD (gD r1 Af) Lo) Gi) λr3=>
 (bd (Da L a0 Af Lo) λr4=>
 (bd (Cy L r3 r4) λr5=>
 (cn (r5 != 0)
 (lf (0,r5,Gi,Lo))
 (gi Af r1
 (gi Lo (gD r1 Af)
 (gq ((Gi.length+ [(gD (gD r1 Af) Lo)].length)*16<=140737488355328)
 (gq (Gi.length+ [(gD (gD r1 Af) Lo)].length<=maxLen)
 (rec Bz (Gi++ [(gD (gD r1 Af) Lo)]) (Bs (Lo+1)))))))))))))
 (lf (1,Bz,Gi,Lo))))
def Mc(L:Nat)(r1:List (List Yb))(Af:Int)(a0:Aa):Nat->Int->List Yb->Int->Option (Nat×Tu7)
 |0,_,_,_=>none
 |n+1,Bz,Gi,Lo=>Aet L r1 Af a0 (Mc L r1 Af a0 n) Bz Gi Lo
theorem B3i(r1:List (List Yb))(Af:Int)(a0:Aa):LP (EV (O51 L) L 9 c51.w.u.l.u.l.l.u.l.l.w.l.l) [0,1,2,3,4,5,6,8,9,10,11,12] [1] (B5j r1 Af a0) [.ret,.exit 2] (λn v=>Mc L r1 Af a0 n v.1 v.2.1 v.2.2) K:=lE (λ_=>rfl) λn v ih=>eE (Aet L r1 Af a0 (λBz Gi Lo=>re (ih (Bz,Gi,Lo))) v.1 v.2.1 v.2.2)
def B5i(r1:List (List Yb))(a0:Aa)(v:Tu7):St:=⟨[(0,.any),zq7,(2,I v.1),(3,.bB true (.t9 v.2.1)),(4,lv (.t61 r1)),(5,I v.2.2),(8,.any),(9,.any),(10,.any),A8s,Bdf],[(1,(Ae a0))],0⟩
def Ae8 [An A (Nat×Tu7)](L:Nat)(Af:Int)(rec:Int->List Yb->Int->A)(o6:Nat×Tu7):A:=
 (sl o6.1 [(lf (0,o6.2.1,o6.2.2.1,Af)),
 (rec o6.2.1 o6.2.2.1 (Bs (Af+1)))])
def Aff [An A (Nat×Tu7)](L:Nat)(r1:List (List Yb))(a0:Aa)(rec:Int->List Yb->Int->A)(Ai:Int)(Ag:List Yb)(Af:Int)(nx1:Int->Int->(List Yb)->A):A:=
 (lw Af r1
 (jb (.cn (decide (((gD r1 Af).length:Int)>32))
 (.lf true)
 (.cn (Af == 9)
 (.gq (0<=Af)
 (.gq (Af<(r1.length:Int))
 (.lf (decide (((gD r1 Af).length:Int)>16)))))
 (.lf false))) (λb2=>
 (cn b2
 (lf (0,6,Ag,Af))
 (nx1 Af Ai Ag))))
 (lf (1,Ai,Ag,Af)))
def Alq [An A (Nat×Tu7)](r1:List (List Yb))(a0:Aa)(rec:Int->List Yb->Int->A)(Ai:Int)(Ag:List Yb)(Af:Int):A:=Aff L r1 a0 rec Ai Ag Af (λAf Ai Ag=>bd (Mc L r1 Af a0 L Ai Ag 0) λo6=>Ae8 L Af rec o6)
def Qe(L:Nat)(r1:List (List Yb))(a0:Aa):Nat->Int->List Yb->Int->Option (Nat×Tu7)
 |0,_,_,_=>none
 |n+1,Ai,Ag,Af=>Alq L r1 a0 (Qe L r1 a0 n) Ai Ag Af
theorem B3h(r1:List (List Yb))(a0:Aa):LP (EV (O51 L) L 9 c51.w.u.l.u.l.l) [0,1,2,3,4,5,8,9,10,11,12] [1] (B5i r1 a0) [.ret,.exit 0] (λn v=>Qe L r1 a0 n v.1 v.2.1 v.2.2) K:=lE (λ_=>rfl) λn v ih=>eE (Aff L r1 a0 (λAi Ag Af=>re (ih (Ai,Ag,Af))) v.1 v.2.1 v.2.2 (λAf Ai Ag=>hq (B3i L (KA (O51 L) L 9 c51.w.u.l.u.l.l (rl [2,2,4,1]) (Hm (I2 (EV (O51 L) L 9 c51.w.u.l.u.l.l) [0,1,2,3,4,5,8,9,10,11,12] [1] n) [0,1,2,3,4,5,8,9,10,11,12] [1] K)) r1 Af a0 L (Ai,Ag,0)) λo6=>Ae8 L Af (λAi Ag Af=>re (ih (Ai,Ag,Af))) o6))
def B5k(a0:Aa)(v:Js):St:=⟨[(0,.any),zq7,(2,I v.1),(3,.any),(4,.any),(5,.any),(6,.any),(7,.any),(8,I v.2),(10,.any),A8s,Bdf],[(1,(Ae a0))],0⟩
def Aeu [An A C3](a0:Aa)(rec:Int->Int->A)(D9:Int)(Iv:Int):A:=
 (lw Iv a0.bZ
 (bd (Z1 L a0 (gD a0.bZ Iv)) λr8=>
 (cn (r8 != 0)
 (lf (0,r8,Iv))
 (rec D9 (Bs (Iv+1)))))
 (lf (1,D9,Iv)))
def Qf(L:Nat)(a0:Aa):Nat->Int->Int->Option C3
 |0,_,_=>none
 |n+1,D9,Iv=>Aeu L a0 (Qf L a0 n) D9 Iv
theorem B3j(a0:Aa):LP (EV (O51 L) L 9 c51.x.u.l.u.l.l) [0,1,2,3,4,5,6,7,8,10,11,12] [1] (B5k a0) [.ret,.exit 4] (λn v=>Qf L a0 n v.1 v.2) K:=lE (λ_=>rfl) λn v ih=>eE (Aeu L a0 (λD9 Iv=>re (ih (D9,Iv))) v.1 v.2)
def B5l(a0:Aa)(v:Tu7):St:=⟨[(0,.any),zq7,(2,I v.1),(3,.any),(4,.any),(5,.any),(6,.any),(7,.any),(8,.any),(9,.any),(10,.bB true (.t9 v.2.1)),(11,I v.2.2)],[(1,(Ae a0))],0⟩
def Aev [An A (Nat×Tu7)](a0:Aa)(rec:Int->List Yb->Int->A)(Mu:Int)(H6:List Yb)(A0q:Int):A:=
 (lw A0q a0.Laws
 (bd (Amm L a0 (gD a0.Laws A0q) H6) λr10=>
 (cn (r10 != 0)
 (lf (0,r10,H6,A0q))
 (gi A0q a0.Laws
 (gq ((H6.length+ [(gD a0.Laws A0q).aF].length)*16<=140737488355328)
 (gq (H6.length+ [(gD a0.Laws A0q).aF].length<=maxLen)
 (rec Mu (H6++ [(gD a0.Laws A0q).aF]) (Bs (A0q+1))))))))
 (lf (1,Mu,H6,A0q)))
def Qg(L:Nat)(a0:Aa):Nat->Int->List Yb->Int->Option (Nat×Tu7)
 |0,_,_,_=>none
 |n+1,Mu,H6,A0q=>Aev L a0 (Qg L a0 n) Mu H6 A0q
theorem B3k(a0:Aa):LP (EV (O51 L) L 9 c51.x.x.l.u.l.l) [0,1,2,3,4,5,6,7,8,9,10,11] [1] (B5l a0) [.ret,.exit 6] (λn v=>Qg L a0 n v.1 v.2.1 v.2.2) K:=lE (λ_=>rfl) λn v ih=>eE (Aev L a0 (λMu H6 A0q=>re (ih (Mu,H6,A0q))) v.1 v.2.1 v.2.2)
def Ae9 [An A Int](L:Nat)(o11:Nat×Tu7):A:=
 (sl o11.1 [(lf o11.2.1),
 (lf 0)])
def Afi [An A Int](L:Nat)(a0:Aa)(o9:Nat×Js)(nx4:C3->A):A:=
 (sl o9.1 [(lf o9.2.1),
 (cn (decide ((a0.Laws.length:Int)>32))
 (lf 6)
 (nx4 o9))])
def Al1 [An A Int](a0:Aa)(o9:Nat×Js):A:=Afi L a0 o9 (λo9=>bd (Qg L a0 L o9.2.1 [] 0) λo11=>Ae9 L o11)
def Afh [An A Int](L:Nat)(a0:Aa)(o7:Nat×Tu7)(nx3:(Nat×Tu7)->A):A:=
 (sl o7.1 [(lf o7.2.1),
 (cn (decide ((a0.bZ.length:Int)>32))
 (lf 6)
 (nx3 o7))])
def Al0 [An A Int](a0:Aa)(o7:Nat×Tu7):A:=Afh L a0 o7 (λo7=>bd (Qf L a0 L o7.2.1 0) λo9=>Al1 L a0 o9)
def Afg [An A Int](a0:Aa)(nx2:(List (List Yb))->A):A:=
 (bd (Z0 L a0) λr1=>
 (nx2 r1))
def A39 [An A Int](a0:Aa):A:=Afg L a0 (λr1=>bd (Qe L r1 a0 L 0 [] 0) λo7=>Al0 L a0 o7)
def Ail(a0:Aa):Option Int:=A39 L a0
def X51:F6:=E1 I 51 C7 (Ail L) λa0 r h=>hF Tryz.func51 (C:=O51 L) (oS _) L (λkk=>eE (Afg L a0 (λr1=>hq (B3h L (KA (O51 L) L 9 c51 (rl [6,1,2,1]) (KE Tryz.f51 kk)) r1 a0 L (0,[],0)) λo7=>Afh L a0 o7 (λo7=>hq (B3j L (KA (O51 L) L 9 c51 (rl [10,1,2,1]) (KE Tryz.f51 kk)) a0 L (o7.2.1,0)) λo9=>Afi L a0 o9 (λo9=>hq (B3k L (KA (O51 L) L 9 c51 (rl [16,1,2,1]) (KE Tryz.f51 kk)) a0 L (o9.2.1,[],0)) λo11=>Ae9 L o11))))) h
def c77:=CC Tryz.f77
def O77(L:Nat):Bc:=oL []
def B55(a1:Yb)(a0:Aj)(v:Js):St:=⟨[(0,.any),(1,S a1),Tp,(4,I v.1),(5,I v.2)],[(2,(Bu a0))],0⟩
def Aes [An A C3](L:Nat)(a1:Yb)(a0:Aj)(rec:Int->Int->A)(Ag:Int)(Al:Int):A:=
 (lw Al a0.aA
 (cn ((gD a0.aA Al).aF.toList == a1.toList)
 (lf (0,Al,Al))
 (rec Ag (Bs (Al+1))))
 (lf (1,Ag,Al)))
def Qd(L:Nat)(a1:Yb)(a0:Aj):Nat->Int->Int->Option C3
 |0,_,_=>none
 |n+1,Ag,Al=>Aes L a1 a0 (Qd L a1 a0 n) Ag Al
theorem B34(a1:Yb)(a0:Aj):LP (EV (O77 L) L 9 c77.u.l.u.l.l) [0,1,2,4,5] [2] (B55 a1 a0) [.ret,.exit 0] (λn v=>Qd L a1 a0 n v.1 v.2) K:=lE (λ_=>rfl) λn v ih=>eE (Aes L a1 a0 (λAg Al=>re (ih (Ag,Al))) v.1 v.2)
def Ae7 [An A Int](L:Nat)(o1:Nat×Js):A:=
 (sl o1.1 [(lf o1.2.1),
 (lf (-1))])
def A38 [An A Int](a0:Aj)(a1:Yb):A:=(bd (Qd L a1 a0 L 0 0) λo1=>Ae7 L o1)
def Zo(a0:Aj)(a1:Yb):Option Int:=A38 L a0 a1
def X77:F6:=E2 I 77 V6 cS (Zo L) λa0 a1 r h=>hF Tryz.func77 (C:=O77 L) (oS _) L (λkk=>eE ((hq (B34 L (KA (O77 L) L 9 c77 (rl [2,1,2,1]) (KE Tryz.f77 kk)) a1 a0 L (0,0)) λo1=>Ae7 L o1))) h
def c52:=CC Tryz.f52
def O52:Bc:=oL [X77 L,X78 L]
def B5n(Ag:Int)(a0:Aj)(v:Js):St:=⟨[(0,.any),zq7,(2,I v.1),(3,I Ag),Bgt,(5,I v.2)],[(1,(Bu a0)),(4,(P9 (gD a0.aH Ag)))],0⟩
def Aaa [An A C3](L:Nat)(Ag:Int)(a0:Aj)(rec:Int->Int->A)(Bz:Int)(R7:Int):A:=
 (cn (decide (R7<Ag))
 (gi R7 a0.aH
 (cn ((gD a0.aH R7).aV.toList == (gD a0.aH Ag).aV.toList)
 (gi R7 a0.aH
 (cn ((gD a0.aH R7).To.toList == (gD a0.aH Ag).To.toList)
 (lf (0,4,R7))
 (rec Bz (Bs (R7+1)))))
 (rec Bz (Bs (R7+1)))))
 (lf (1,Bz,R7)))
def J3(L:Nat)(Ag:Int)(a0:Aj):Nat->Int->Int->Option C3
 |0,_,_=>none
 |n+1,Bz,R7=>Aaa L Ag a0 (J3 L Ag a0 n) Bz R7
theorem B3m(Ag:Int)(a0:Aj):LP (EV (O52 L) L 9 c52.w.l.u.l.l.u.l.l.x.u.l.l) [0,1,2,3,4,5] [1,4] (B5n Ag a0) [.ret,.exit 2] (λn v=>J3 L Ag a0 n v.1 v.2) K:=lE (λ_=>rfl) λn v ih=>eE (Aaa L Ag a0 (λBz R7=>re (ih (Bz,R7))) v.1 v.2)
def B5m(a0:Aj)(v:Js):St:=⟨[(0,.any),zq7,(2,I v.1),(3,I v.2)],[(1,(Bu a0))],0⟩
def Aa9 [An A C3](L:Nat)(Ag:Int)(rec:Int->Int->A)(o5:Nat×Js):A:=
 (sl o5.1 [(lf (0,o5.2.1,Ag)),
 (rec o5.2.1 (Bs (Ag+1)))])
def Ab3 [An A C3](a0:Aj)(rec:Int->Int->A)(Ai:Int)(Ag:Int)(nx1:Int->Int->A):A:=
 (lw Ag a0.aH
 (bd (Zo L a0 ((gD a0.aH Ag).aV)) λr1=>
 (jb (.cn (decide (r1<0))
 (.lf true)
 (.bd (Zo L a0 ((gD a0.aH Ag).To)) λr3=>
 (.lf (decide (r3<0))))) (λb2=>
 (cn b2
 (lf (0,5,Ag))
 (cn ((gD a0.aH Ag).aV.toList == (gD a0.aH Ag).To.toList)
 (lf (0,1,Ag))
 (bd (Dh L ((gD a0.aH Ag).bU) 1 1000000000) λr4=>
 (cn (!r4)
 (lf (0,2,Ag))
 (nx1 Ag Ai))))))))
 (lf (1,Ai,Ag)))
def Ajg [An A C3](a0:Aj)(rec:Int->Int->A)(Ai:Int)(Ag:Int):A:=Ab3 L a0 rec Ai Ag (λAg Ai=>bd (J3 L Ag a0 L Ai 0) λo5=>Aa9 L Ag rec o5)
def Nh(L:Nat)(a0:Aj):Nat->Int->Int->Option C3
 |0,_,_=>none
 |n+1,Ai,Ag=>Ajg L a0 (Nh L a0 n) Ai Ag
theorem B3l(a0:Aj):LP (EV (O52 L) L 9 c52.w.l.u.l.l) [0,1,2,3] [1] (B5m a0) [.ret,.exit 0] (λn v=>Nh L a0 n v.1 v.2) K:=lE (λ_=>rfl) λn v ih=>eE (Ab3 L a0 (λAi Ag=>re (ih (Ai,Ag))) v.1 v.2 (λAg Ai=>hq (B3m L (KA (O52 L) L 9 c52.w.l.u.l.l (rl [2,2,10,1]) (Hm (I2 (EV (O52 L) L 9 c52.w.l.u.l.l) [0,1,2,3] [1] n) [0,1,2,3] [1] K)) Ag a0 L (Ai,0)) λo5=>Aa9 L Ag (λAi Ag=>re (ih (Ai,Ag))) o5))
def Aba [An A Int](L:Nat)(o6:Nat×Js):A:=
 (sl o6.1 [(lf o6.2.1),
 (lf 0)])
def Ab4 [An A Int](L:Nat)(a0:Aj)(nx2:A):A:=
 (cn (decide ((a0.aH.length:Int)>32))
 (lf 6)
 nx2)
def A03 [An A Int](a0:Aj):A:=Ab4 L a0 (bd (Nh L a0 L 0 0) λo6=>Aba L o6)
def Akc(a0:Aj):Option Int:=A03 L a0
def X52:F6:=E1 I 52 V6 (Akc L) λa0 r h=>hF Tryz.func52 (C:=O52 L) (oS _) L (λkk=>eE (Ab4 L a0 (hq (B3l L (KA (O52 L) L 9 c52 (rl [4,1,2,1]) (KE Tryz.f52 kk)) a0 L (0,0)) λo6=>Aba L o6))) h
end
end Go.Proofs.YthjhkpgonleelaaGreatDoor.Ev
