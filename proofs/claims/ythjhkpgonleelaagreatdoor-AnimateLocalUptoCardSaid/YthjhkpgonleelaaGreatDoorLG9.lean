import Derived.Test.YthjhkpgonleelaaGreatDoorLG8
set_option maxRecDepth 100000
set_option maxHeartbeats 4000000
set_option linter.unusedVariables false
set_option linter.unusedSimpArgs false
set_option linter.unnecessarySimpa false
namespace Go.Proofs.YthjhkpgonleelaaGreatDoor.Ev
open Go An
noncomputable section
variable {A:Type} (L n:Nat) (kk:K5) (K:Ef) (k:Dj)
def Bhr(F:Ab->Bool->Option Int):Prop:=∀y0 y1 r,F y0 y1=some r->Ho Tryz.prog 182 [Bi.en y0,cB.en y1] I r
def Aio:=CC Tryz.f182
def Anm(Bf:Ab->Bool->Option Int)(L:Nat):Bc:=(orc 182 (A2 I Bi cB Bf) (oL [X30 L,Bqw L,B4y L,B4z L,B40 L]))
theorem Ccd(Bf:Ab->Bool->Option Int)(Bmw:Bhr Bf)(L:Nat):Dl Tryz.prog (Anm Bf L):=(Em (a2 _ Bmw) (oS [X30 L,Bqw L,B4y L,B4z L,B40 L]))
def Bv1(a1:Bool)(a0:Ab)(v:Jc):St:=⟨[(0,.any),(1,B a1),Sw,(4,I v.1),(5,.any),(6,.any),(7,.any),(8,.any),(9,.any),(10,I v.2)],[(2,(Cl a0))],0⟩
def Ade [An A C3](Bf:Ab->Bool->Option Int)(L:Nat)(a1:Bool)(a0:Ab)(rec:Int->Int->A)(Ag:Int)(Ak:Int):A:=
 (lw Ak a0.aY
 (bd (Bf (Ab.cp (gD a0.aY Ak)) a1) λr22=>
 (cn (r22 != 0)
 (lf (0,r22,Ak))
 (rec Ag (Bu (Ak+1)))))
 (lf (1,Ag,Ak)))
def Ls(Bf:Ab->Bool->Option Int)(L:Nat)(a1:Bool)(a0:Ab):Nat->Int->Int->Option C3
 |0,_,_=>none
 |n+1,Ag,Ak=>Ade Bf L a1 a0 (Ls Bf L a1 a0 n) Ag Ak
theorem Bud(Bf:Ab->Bool->Option Int)(L:Nat)(K:Ef)(a1:Bool)(a0:Ab):LP (EV (Anm Bf L) L 9 Aio.x.x.u.l.u.l.l) [0,1,2,4,5,6,7,8,9,10] [2] (Bv1 a1 a0) [.ret,.exit 0] (λn v=>Ls Bf L a1 a0 n v.1 v.2) K:=lE (λ_=>rfl) λn v ih=>eE (Ade Bf L a1 a0 (λAg Ak=>re (ih (Ag,Ak))) v.1 v.2)
def Bi7(a1:Bool)(b3:Bool)(a0:Ab):St:=⟨[(1,B a1),Sw,(4,I 0),(7,B b3)],[(2,(Cl a0))],0⟩
def Biq(Bf:Ab->Bool->Option Int)(L:Nat)(kk:K5):Ef:=(KE Tryz.f182 kk)
def Adt [An A Int](Bf:Ab->Bool->Option Int)(L:Nat)(o23:Nat×Jc):A:=
 (sl o23.1 [(lf o23.2.1),
 (lf 0)])
def Ad2 [An A Int](Bf:Ab->Bool->Option Int)(L:Nat)(a1:Bool)(b3:Bool)(a0:Ab)(nx1:A):A:=
 (jb (.cn b3
 (.bd (Jk L a0.aF) λr20=>
 (.lf (r20 != 0)))
 (.lf false)) (λb19=>
 (cn b19
 (bd (Jk L a0.aF) λr21=>
 (lf r21))
 nx1)))
def Ak7 [An A Int](Bf:Ab->Bool->Option Int)(L:Nat)(a1:Bool)(b3:Bool)(a0:Ab):A:=Ad2 Bf L a1 b3 a0 (bd (Ls Bf L a1 a0 L 0 0) λo23=>Adt Bf L o23)
theorem Brj(Bf:Ab->Bool->Option Int)(L:Nat)(kk:K5)(a1:Bool)(b3:Bool)(a0:Ab):EV (Anm Bf L) L 9 Aio.x.x (Bi7 a1 b3 a0) (Biq Bf L kk)=ob (Ak7 Bf L a1 b3 a0) (kQ I kk):=eE (Ad2 Bf L a1 b3 a0 (hq (Bud Bf L (KA (Anm Bf L) L 9 Aio (rl [18,1,2,1]) (KE Tryz.f182 kk)) a1 a0 L (0,0)) λo23=>Adt Bf L o23))
def A2d(a1:Bool)(b3:Bool)(b5:Bool)(a0:Ab):St:=⟨[(1,B a1),Sw,(4,I 0),(7,B b3),(8,B b5)],[(2,(Cl a0))],0⟩
def A13(Bf:Ab->Bool->Option Int)(L:Nat)(kk:K5):Ef:=(KE Tryz.f182 kk)
def sx_R09_node_3 [An A Int](Bf:Ab->Bool->Option Int)(L:Nat)(a1:Bool)(b3:Bool)(b5:Bool)(a0:Ab)(nx4:Bool->Bool->Ab->A):A:=
 (cn (a0.Op == 1)
 (bd (Ale L a0.N) λr12=>
 (cn (!r12)
 (lf 2)
 (cn (a0.Op == 2)
 (cn (a0.N != 0)
 (cn (a0.N != 1)
 (lf 2)
 (cn b5
 (cn (decide (a0.N<0))
 (lf 2)
 (bd (Rs L a0.Op) λr13=>
 (cn (decide (a0.N>r13))
 (lf 2)
 (nx4 a1 b3 a0))))
 (nx4 a1 b3 a0)))
 (cn b5
 (cn (decide (a0.N<0))
 (lf 2)
 (bd (Rs L a0.Op) λr14=>
 (cn (decide (a0.N>r14))
 (lf 2)
 (nx4 a1 b3 a0))))
 (nx4 a1 b3 a0)))
 (cn b5
 (cn (decide (a0.N<0))
 (lf 2)
 (bd (Rs L a0.Op) λr15=>
 (cn (decide (a0.N>r15))
 (lf 2)
 (nx4 a1 b3 a0))))
 (nx4 a1 b3 a0)))))
 (cn (a0.Op == 2)
 (cn (a0.N != 0)
 (cn (a0.N != 1)
 (lf 2)
 (cn b5
 (cn (decide (a0.N<0))
 (lf 2)
 (bd (Rs L a0.Op) λr16=>
 (cn (decide (a0.N>r16))
 (lf 2)
 (nx4 a1 b3 a0))))
 (nx4 a1 b3 a0)))
 (cn b5
 (cn (decide (a0.N<0))
 (lf 2)
 (bd (Rs L a0.Op) λr17=>
 (cn (decide (a0.N>r17))
 (lf 2)
 (nx4 a1 b3 a0))))
 (nx4 a1 b3 a0)))
 (cn b5
 (cn (decide (a0.N<0))
 (lf 2)
 (bd (Rs L a0.Op) λr18=>
 (cn (decide (a0.N>r18))
 (lf 2)
 (nx4 a1 b3 a0))))
 (nx4 a1 b3 a0))))
def Ak6 [An A Int](Bf:Ab->Bool->Option Int)(L:Nat)(a1:Bool)(b3:Bool)(b5:Bool)(a0:Ab):A:=sx_R09_node_3 Bf L a1 b3 b5 a0 (λa1 b3 a0=>Ak7 Bf L a1 b3 a0)
theorem Brw(Bf:Ab->Bool->Option Int)(L:Nat)(kk:K5)(a1:Bool)(b3:Bool)(b5:Bool)(a0:Ab)(z4:EC):EV (Anm Bf L) L 9 (EC.put (rl [2]) z4 Aio.x.w.u) (A2d a1 b3 b5 a0) (A13 Bf L kk)= @sx_R09_node_3 Prop (anP (kQ I kk)) Bf L a1 b3 b5 a0 (λa1 b3 a0=>EV (Anm Bf L) L 9 z4 (Bi7 a1 b3 a0) (Biq Bf L kk)):=by kernel_rfl
theorem Bri(Bf:Ab->Bool->Option Int)(L:Nat)(kk:K5)(a1:Bool)(b3:Bool)(b5:Bool)(a0:Ab):EV (Anm Bf L) L 9 Aio.x.w.u (A2d a1 b3 b5 a0) (A13 Bf L kk)=ob (Ak6 Bf L a1 b3 b5 a0) (kQ I kk):=Eq.trans (b:=EV (Anm Bf L) L 9 (EC.put (rl [2]) Aio.x.x Aio.x.w.u) (A2d a1 b3 b5 a0) (A13 Bf L kk)) (by kernel_rfl) ((Brw Bf L kk a1 b3 b5 a0 Aio.x.x).trans (eE (sx_R09_node_3 Bf L a1 b3 b5 a0 (λa1 b3 a0=>re (Brj Bf L kk a1 b3 a0)))))
def A2c(a1:Bool)(r1:Int)(b2:Bool)(b3:Bool)(b5:Bool)(b8:Bool)(a0:Ab):St:=⟨[(1,B a1),Sw,(4,I 0),(5,I r1),(6,B b2),(7,B b3),(8,B b5),(9,B b8)],[(2,(Cl a0))],0⟩
def A12(Bf:Ab->Bool->Option Int)(L:Nat)(kk:K5):Ef:=(KE Tryz.f182 kk)
def sx_R09_node_2 [An A Int](Bf:Ab->Bool->Option Int)(L:Nat)(a1:Bool)(r1:Int)(b2:Bool)(b3:Bool)(b5:Bool)(b8:Bool)(a0:Ab)(nx3:Bool->Bool->Bool->Ab->A):A:=
 (jp (.cn (!b2)
 (.lf true)
 (.cn (!b3)
 (.lf (!(a0.aF.toList == (⟨#[]⟩:Yb).toList)))
 (.lf false))) (λb9=>
 (jp (.cn b9
 (.lf true)
 (.cn (!b8)
 (.lf (a0.N != 0))
 (.lf false))) (λb10=>
 (jp (.cn b10
 (.lf true)
 (.lf ((a0.aY.length:Int) != r1))) (λb11=>
 (cn b11
 (lf 1)
 (nx3 a1 b3 b5 a0))))))))
def Ak5 [An A Int](Bf:Ab->Bool->Option Int)(L:Nat)(a1:Bool)(r1:Int)(b2:Bool)(b3:Bool)(b5:Bool)(b8:Bool)(a0:Ab):A:=sx_R09_node_2 Bf L a1 r1 b2 b3 b5 b8 a0 (λa1 b3 b5 a0=>Ak6 Bf L a1 b3 b5 a0)
theorem Brv(Bf:Ab->Bool->Option Int)(L:Nat)(kk:K5)(a1:Bool)(r1:Int)(b2:Bool)(b3:Bool)(b5:Bool)(b8:Bool)(a0:Ab)(z3:EC):EV (Anm Bf L) L 9 (EC.put (rl [2]) z3 Aio.x.w) (A2c a1 r1 b2 b3 b5 b8 a0) (A12 Bf L kk)= @sx_R09_node_2 Prop (anP (kQ I kk)) Bf L a1 r1 b2 b3 b5 b8 a0 (λa1 b3 b5 a0=>EV (Anm Bf L) L 9 z3 (A2d a1 b3 b5 a0) (A13 Bf L kk)):=by kernel_rfl
theorem Brh(Bf:Ab->Bool->Option Int)(L:Nat)(kk:K5)(a1:Bool)(r1:Int)(b2:Bool)(b3:Bool)(b5:Bool)(b8:Bool)(a0:Ab):EV (Anm Bf L) L 9 Aio.x.w (A2c a1 r1 b2 b3 b5 b8 a0) (A12 Bf L kk)=ob (Ak5 Bf L a1 r1 b2 b3 b5 b8 a0) (kQ I kk):=Eq.trans (b:=EV (Anm Bf L) L 9 (EC.put (rl [2]) Aio.x.w.u Aio.x.w) (A2c a1 r1 b2 b3 b5 b8 a0) (A12 Bf L kk)) (by kernel_rfl) ((Brv Bf L kk a1 r1 b2 b3 b5 b8 a0 Aio.x.w.u).trans (eE (sx_R09_node_2 Bf L a1 r1 b2 b3 b5 b8 a0 (λa1 b3 b5 a0=>re (Bri Bf L kk a1 b3 b5 a0)))))
def A2b(a1:Bool)(r1:Int)(b2:Bool)(b3:Bool)(a0:Ab):St:=⟨[(1,B a1),Sw,(4,I 0),(5,I r1),(6,B b2),(7,B b3)],[(2,(Cl a0))],0⟩
def A11(Bf:Ab->Bool->Option Int)(L:Nat)(kk:K5):Ef:=(KE Tryz.f182 kk)
def sx_R09_node_1 [An A Int](Bf:Ab->Bool->Option Int)(L:Nat)(a1:Bool)(r1:Int)(b2:Bool)(b3:Bool)(a0:Ab)(nx2:Bool->Int->Bool->Bool->Bool->Bool->Ab->A):A:=
 (jb (.cn a1
 (.bd (Zh L a0.Op) λr6=>
 (.cn r6
 (.lf true)
 (.cn (a0.Op == 25)
 (.lf true)
 (.lf (a0.Op == 26)))))
 (.lf false)) (λb5=>
 (jp (.cn (a0.Op == 1)
 (.lf true)
 (.lf (a0.Op == 2))) (λb7=>
 (jp (.cn b7
 (.lf true)
 (.lf b5)) (λb8=>
 (nx2 a1 r1 b2 b3 b5 b8 a0)))))))
def Ak4 [An A Int](Bf:Ab->Bool->Option Int)(L:Nat)(a1:Bool)(r1:Int)(b2:Bool)(b3:Bool)(a0:Ab):A:=sx_R09_node_1 Bf L a1 r1 b2 b3 a0 (λa1 r1 b2 b3 b5 b8 a0=>Ak5 Bf L a1 r1 b2 b3 b5 b8 a0)
theorem Bru(Bf:Ab->Bool->Option Int)(L:Nat)(kk:K5)(a1:Bool)(r1:Int)(b2:Bool)(b3:Bool)(a0:Ab)(z2:EC):EV (Anm Bf L) L 9 (EC.put (rl [4]) z2 Aio.x) (A2b a1 r1 b2 b3 a0) (A11 Bf L kk)= @sx_R09_node_1 Prop (anP (kQ I kk)) Bf L a1 r1 b2 b3 a0 (λa1 r1 b2 b3 b5 b8 a0=>EV (Anm Bf L) L 9 z2 (A2c a1 r1 b2 b3 b5 b8 a0) (A12 Bf L kk)):=by kernel_rfl
theorem Brg(Bf:Ab->Bool->Option Int)(L:Nat)(kk:K5)(a1:Bool)(r1:Int)(b2:Bool)(b3:Bool)(a0:Ab):EV (Anm Bf L) L 9 Aio.x (A2b a1 r1 b2 b3 a0) (A11 Bf L kk)=ob (Ak4 Bf L a1 r1 b2 b3 a0) (kQ I kk):=Eq.trans (b:=EV (Anm Bf L) L 9 (EC.put (rl [4]) Aio.x.w Aio.x) (A2b a1 r1 b2 b3 a0) (A11 Bf L kk)) (by kernel_rfl) ((Bru Bf L kk a1 r1 b2 b3 a0 Aio.x.w).trans (eE (sx_R09_node_1 Bf L a1 r1 b2 b3 a0 (λa1 r1 b2 b3 b5 b8 a0=>re (Brh Bf L kk a1 r1 b2 b3 b5 b8 a0)))))
def sx_R09_node_0 [An A Int](Bf:Ab->Bool->Option Int)(L:Nat)(a0:Ab)(a1:Bool)(nx1:Bool->Int->Bool->Bool->Ab->A):A:=
 (bd (Aiu L a0.Op) λr1=>
 (jp (.cn (decide (r1>=0))
 (.cn a1
 (.cn (a0.Op != 3)
 (.lf true)
 (.cn (!a1)
 (.lf (decide (a0.Op<=24)))
 (.lf false)))
 (.cn (!a1)
 (.lf (decide (a0.Op<=24)))
 (.lf false)))
 (.lf false)) (λb2=>
 (jb (.cn (!a1)
 (.cn (a0.Op == 3)
 (.lf true)
 (.bd (Zh L a0.Op) λr4=>
 (.lf r4)))
 (.lf false)) (λb3=>
 (nx1 a1 r1 b2 b3 a0))))))
def A2u [An A Int](Bf:Ab->Bool->Option Int)(L:Nat)(a0:Ab)(a1:Bool):A:=sx_R09_node_0 Bf L a0 a1 (λa1 r1 b2 b3 a0=>Ak4 Bf L a1 r1 b2 b3 a0)
theorem Brt(Bf:Ab->Bool->Option Int)(L:Nat)(kk:K5)(a0:Ab)(a1:Bool)(z1:EC):EW (Anm Bf L) L 9 (RS Tryz.f182) (EC.put (rl [8]) z1 Aio) [.agg (Cl a0),B a1] kk= @sx_R09_node_0 Prop (anP (kQ I kk)) Bf L a0 a1 (λa1 r1 b2 b3 a0=>EV (Anm Bf L) L 9 z1 (A2b a1 r1 b2 b3 a0) (A11 Bf L kk)):=by kernel_rfl
def As9(Bf:Ab->Bool->Option Int)(L:Nat)(a0:Ab)(a1:Bool):Option Int:=A2u Bf L a0 a1
theorem Cau(Bf:Ab->Bool->Option Int)(Bmw:Bhr Bf)(L:Nat):Bhr (As9 Bf L):=λa0 a1 r h=>hF Tryz.func182 (Ccd Bf Bmw L) L (λkk=>Eq.trans (b:=EW (Anm Bf L) L 9 (RS Tryz.f182) (EC.put (rl [8]) Aio.x Aio) [.agg (Cl a0),B a1] kk) (by kernel_rfl) ((Brt Bf L kk a0 a1 Aio.x).trans (eE (sx_R09_node_0 Bf L a0 a1 (λa1 r1 b2 b3 a0=>re (Brg Bf L kk a1 r1 b2 b3 a0)))))) h
def O7:Nat->Ab->Bool->Option Int
 |0,_,_=>none
 |L+1,a0,a1=>As9 (O7 L) L a0 a1
theorem Bsh(L:Nat):Bhr (O7 L):=by
 induction L with
 |zero=>exact λ_ _ _ h=>(by cases h)
 |succ L ih=>
  have i182:=ih;exact Cau (O7 L) i182 L
def B9y(L:Nat):F3:=E2 I 182 Bi cB (O7 L) (Bsh L)
def Aqd [An A Int](a0:Ab)(a1:Bool):A:=
 (bd (N2 L (Ab.cp a0)) λr1=>
 (cn (decide (r1>60))
 (lf 6)
 (bd (N1 L (Ab.cp a0)) λr2=>
 (cn (decide (r2>12))
 (lf 11)
 (bd (O7 L (Ab.cp a0) a1) λr3=>
 (lf r3))))))
def Aea(a0:Ab)(a1:Bool):Option Int:=Aqd L a0 a1
def B4s:F3:=E2 I 142 Bi cB (Aea L) λa0 a1 r h=>hF Tryz.func142 (oS [B9w L,B9x L,B9y L]) L (λkk=>eE (Aqd L a0 a1)) h
def Aqc [An A Int](a0:Ab):A:=
 (bd (Aea L (Ab.cp a0) false) λr1=>
 (lf r1))
def Rm(a0:Ab):Option Int:=Aqc L a0
def Cag:F3:=E1 I 230 Bi (Rm L) λa0 r h=>hF Tryz.func230 (oS [B4s L]) L (λkk=>eE (Aqc L a0)) h
def A9d:=CC Tryz.f227
def A50:Bc:=oL [Cag L]
def Bwg(a0:Ad)(a1:Cz)(v:Jc):St:=⟨[(0,.any),(1,.any),Sw,(3,.any),(4,I 0),(5,I v.1),(6,I v.2)],[(2,(Yu a0)),(3,(Aoc a1))],0⟩
def Uz [An A C3](a0:Ad)(a1:Cz)(rec:Int->Int->A)(Ag:Int)(Ak:Int):A:=
 (jp (.cn (Ag == 0)
 (.lf (decide (Ak<(a0.aM.length:Int))))
 (.lf false)) (λb5=>
 (cn b5
 (gi Ak a0.aM
 (bd (Rm L (Ab.cp (gD a0.aM Ak))) λr6=>
 (rec r6 (Bu (Ak+1)))))
 (lf (0,Ag,Ak)))))
def Dd(L:Nat)(a0:Ad)(a1:Cz):Nat->Int->Int->Option C3
 |0,_,_=>none
 |n+1,Ag,Ak=>Uz L a0 a1 (Dd L a0 a1 n) Ag Ak
theorem Aji(a0:Ad)(a1:Cz):LP (EV (A50 L) L 9 A9d.x.u.l.u.l.l) [0,1,2,3,4,5,6] [2,3] (Bwg a0 a1) [.exit 0] (λn v=>Dd L a0 a1 n v.1 v.2) K:=lE (λ_=>rfl) λn v ih=>eE (Uz L a0 a1 (λAg Ak=>re (ih (Ag,Ak))) v.1 v.2)
def t6 [An A Int](L:Nat)(o10:Nat×Jc):A:=
 (sl o10.1 [(lf o10.2.1)])
def t7 [An A Int](L:Nat)(o11:Nat×Jc):A:=
 (sl o11.1 [(lf o11.2.1)])
def t8 [An A Int](L:Nat)(o12:Nat×Jc):A:=
 (sl o12.1 [(lf o12.2.1)])
def u4 [An A Int](L:Nat)(o13:Nat×Jc):A:=
 (sl o13.1 [(lf o13.2.1)])
def u5 [An A Int](L:Nat)(o14:Nat×Jc):A:=
 (sl o14.1 [(lf o14.2.1)])
def u6 [An A Int](L:Nat)(o15:Nat×Jc):A:=
 (sl o15.1 [(lf o15.2.1)])
def u7 [An A Int](L:Nat)(o16:Nat×Jc):A:=
 (sl o16.1 [(lf o16.2.1)])
def u9 [An A Int](L:Nat)(o17:Nat×Jc):A:=
 (sl o17.1 [(lf o17.2.1)])
def Aaq [An A Int](a0:Ad)(a1:Cz)(nx1:A)(nx2:Int->A)(nx3:A)(nx4:Int->A)(nx5:A)(nx6:Int->A)(nx7:A)(nx8:A):A:=
 (cn a1.E
 (bd (Rm L (Ab.cp a0.E)) λr1=>
 (jp (.cn (r1 == 0)
 (.lf a1.F)
 (.lf false)) (λb2=>
 (cn b2
 (bd (Rm L (Ab.cp a0.F)) λr3=>
 (jp (.cn (r3 == 0)
 (.lf (decide ((a0.aM.length:Int)>6)))
 (.lf false)) (λb4=>
 (cn b4
 nx1
 (nx2 r3)))))
 (jp (.cn (r1 == 0)
 (.lf (decide ((a0.aM.length:Int)>6)))
 (.lf false)) (λb7=>
 (cn b7
 nx3
 (nx4 r1))))))))
 (nq (cn a1.F
 (bd (Rm L (Ab.cp a0.F)) λr8=>
 (jp (.cn (r8 == 0)
 (.lf (decide ((a0.aM.length:Int)>6)))
 (.lf false)) (λb9=>
 (cn b9
 nx5
 (nx6 r8)))))
 (nq (cn (decide ((a0.aM.length:Int)>6))
 nx7
 nx8)))))
def Azp [An A Int](a0:Ad)(a1:Cz):A:=Aaq L a0 a1 (bd (Dd L a0 a1 L 6 0) λo10=>t6 L o10) (λr3=>bd (Dd L a0 a1 L r3 0) λo11=>t7 L o11) (bd (Dd L a0 a1 L 6 0) λo12=>t8 L o12) (λr1=>bd (Dd L a0 a1 L r1 0) λo13=>u4 L o13) (bd (Dd L a0 a1 L 6 0) λo14=>u5 L o14) (λr8=>bd (Dd L a0 a1 L r8 0) λo15=>u6 L o15) (bd (Dd L a0 a1 L 6 0) λo16=>u7 L o16) (bd (Dd L a0 a1 L 0 0) λo17=>u9 L o17)
def Aiw(a0:Ad)(a1:Cz):Option Int:=Azp L a0 a1
def Cae:F3:=E2 I 227 Aem Bcd (Aiw L) λa0 a1 r h=>hF Tryz.func227 (C:=A50 L) (oS _) L (λkk=>eE (Aaq L a0 a1 (hq (Aji L (KA (A50 L) L 9 A9d (rl [10,1,2,1]) (KE Tryz.f227 kk)) a0 a1 L (6,0)) λo10=>t6 L o10) (λr3=>hq (Aji L (KA (A50 L) L 9 A9d (rl [10,1,2,1]) (KE Tryz.f227 kk)) a0 a1 L (r3,0)) λo11=>t7 L o11) (hq (Aji L (KA (A50 L) L 9 A9d (rl [10,1,2,1]) (KE Tryz.f227 kk)) a0 a1 L (6,0)) λo12=>t8 L o12) (λr1=>hq (Aji L (KA (A50 L) L 9 A9d (rl [10,1,2,1]) (KE Tryz.f227 kk)) a0 a1 L (r1,0)) λo13=>u4 L o13) (hq (Aji L (KA (A50 L) L 9 A9d (rl [10,1,2,1]) (KE Tryz.f227 kk)) a0 a1 L (6,0)) λo14=>u5 L o14) (λr8=>hq (Aji L (KA (A50 L) L 9 A9d (rl [10,1,2,1]) (KE Tryz.f227 kk)) a0 a1 L (r8,0)) λo15=>u6 L o15) (hq (Aji L (KA (A50 L) L 9 A9d (rl [10,1,2,1]) (KE Tryz.f227 kk)) a0 a1 L (6,0)) λo16=>u7 L o16) (hq (Aji L (KA (A50 L) L 9 A9d (rl [10,1,2,1]) (KE Tryz.f227 kk)) a0 a1 L (0,0)) λo17=>u9 L o17))) h
def Aw6 [An A Int](a0:Ad):A:=
 (bd (Ap2 L a0.Op) λr1=>
 (bd (Agf L (Ad.cp a0)) λr2=>
 (cn (!r2)
 (lf 1)
 (jb (.cn r1.1.aF
 (.bd (Jk L a0.aF) λr4=>
 (.lf (r4 != 0)))
 (.lf false)) (λb3=>
 (jb (.cn b3
 (.lf true)
 (.cn r1.1.Of
 (.bd (Jk L a0.Of) λr6=>
 (.lf (r6 != 0)))
 (.lf false))) (λb5=>
 (cn b5
 (lf 3)
 (bd (Aiw L (Ad.cp a0) (⟨r1.1.aF,r1.1.Of,r1.1.E,r1.1.F,r1.1.aM,r1.1.bE,r1.1.bU,r1.1.bD,r1.1.bL⟩:Cz)) λr7=>
 (jp (.cn (r7 == 0)
 (.lf r1.1.bE)
 (.lf false)) (λb8=>
 (cn b8
 (bd (Rl L a0.bE) λr9=>
 (lf r9))
 (lf r7)))))))))))))
def Alf(a0:Ad):Option Int:=Aw6 L a0
def B45:F3:=E1 I 218 Aem (Alf L) λa0 r h=>hF Tryz.func218 (oS [X30 L,X85 L,B47 L,Cad L,Cae L]) L (λkk=>eE (Aw6 L a0)) h
def Bh1(F:(List Ad)->Option Int):Prop:=∀y0 r,F y0=some r->Ho Tryz.prog 206 [Y7.en y0] I r
def B6k:=CC Tryz.f206
def Byx(Ec:(List Ad)->Option Int)(L:Nat):Bc:=(orc 206 (A1 I Y7 Ec) (oL [B45 L]))
theorem Ccn(Ec:(List Ad)->Option Int)(Bm6:Bh1 Ec)(L:Nat):Dl Tryz.prog (Byx Ec L):=(Em (a1 _ Bm6) (oS [B45 L]))
def Bwc(a0:List Ad)(v:Jc):St:=⟨[(0,lv (.dW a0)),(2,I v.1),(3,I v.2)],[],0⟩
def Adf [An A C3](Ec:(List Ad)->Option Int)(L:Nat)(a0:List Ad)(rec:Int->Int->A)(Ag:Int)(Ak:Int):A:=
 (lw Ak a0
 (bd (Alf L (Ad.cp (gD a0 Ak))) λr1=>
 (cn (r1 == 0)
 (gi Ak a0
 (bd (Ec ((gD a0 Ak).bD)) λr2=>
 (cn (r2 == 0)
 (gi Ak a0
 (bd (Ec ((gD a0 Ak).bL)) λr3=>
 (cn (r3 != 0)
 (lf (0,r3,Ak))
 (rec Ag (Bu (Ak+1))))))
 (cn (r2 != 0)
 (lf (0,r2,Ak))
 (rec Ag (Bu (Ak+1)))))))
 (cn (r1 == 0)
 (gi Ak a0
 (bd (Ec ((gD a0 Ak).bL)) λr4=>
 (cn (r4 != 0)
 (lf (0,r4,Ak))
 (rec Ag (Bu (Ak+1))))))
 (cn (r1 != 0)
 (lf (0,r1,Ak))
 (rec Ag (Bu (Ak+1)))))))
 (lf (1,Ag,Ak)))
def Ps(Ec:(List Ad)->Option Int)(L:Nat)(a0:List Ad):Nat->Int->Int->Option C3
 |0,_,_=>none
 |n+1,Ag,Ak=>Adf Ec L a0 (Ps Ec L a0 n) Ag Ak
theorem Buo(Ec:(List Ad)->Option Int)(L:Nat)(K:Ef)(a0:List Ad):LP (EV (Byx Ec L) L 9 B6k.u.l.u.l.l) [0,2,3] [] (Bwc a0) [.ret,.exit 0] (λn v=>Ps Ec L a0 n v.1 v.2) K:=lE (λ_=>rfl) λn v ih=>eE (Adf Ec L a0 (λAg Ak=>re (ih (Ag,Ak))) v.1 v.2)
def Adu [An A Int](Ec:(List Ad)->Option Int)(L:Nat)(o5:Nat×Jc):A:=
 (sl o5.1 [(lf o5.2.1),
 (lf 0)])
def A2v [An A Int](Ec:(List Ad)->Option Int)(L:Nat)(a0:List Ad):A:=(bd (Ps Ec L a0 L 0 0) λo5=>Adu Ec L o5)
def Ata(Ec:(List Ad)->Option Int)(L:Nat)(a0:List Ad):Option Int:=A2v Ec L a0
theorem Ca4(Ec:(List Ad)->Option Int)(Bm6:Bh1 Ec)(L:Nat):Bh1 (Ata Ec L):=λa0 r h=>hF Tryz.func206 (Ccn Ec Bm6 L) L (λkk=>eE ((hq (Buo Ec L (KA (Byx Ec L) L 9 B6k (rl [2,1,2,1]) (KE Tryz.f206 kk)) a0 L (0,0)) λo5=>Adu Ec L o5))) h
def Rt:Nat->(List Ad)->Option Int
 |0,_=>none
 |L+1,a0=>Ata (Rt L) L a0
theorem Bsr(L:Nat):Bh1 (Rt L):=by
 induction L with
 |zero=>exact λ_ _ h=>(by cases h)
 |succ L ih=>
  have i206:=ih;exact Ca4 (Rt L) i206 L
def B98(L:Nat):F3:=E1 I 206 Y7 (Rt L) (Bsr L)
def Aqe [An A Int](a0:List Ad):A:=
 (bd (N3 L a0) λr1=>
 (cn (decide (r1>200))
 (lf 6)
 (bd (N4 L a0) λr2=>
 (cn (decide (r2>12))
 (lf 11)
 (bd (Rt L a0) λr3=>
 (lf r3))))))
def Aiv(a0:List Ad):Option Int:=Aqe L a0
def B9r:F3:=E1 I 175 Y7 (Aiv L) λa0 r h=>hF Tryz.func175 (oS [B96 L,B97 L,B98 L]) L (λkk=>eE (Aqe L a0)) h
def B5t:=CC Tryz.f133
def Bye:Bc:=oL [X47 L,X48 L,X50 L,X71 L,B9r L]
def Bvm(a0:Al)(v:Tu7):St:=⟨[(0,.any),zq7,(2,I v.1),(3,.bA true (.t9 v.2.1)),(4,.bA true (.dQ (a0.aI++a0.bC))),(5,I v.2.2)],[(1,(Cp a0))],0⟩
def Vi [An A (Nat×Tu7)](a0:Al)(rec:Int->List Yb->Int->A)(Ah:Int)(Ag:List Yb)(Af:Int):A:=
 (lw Af (a0.aI++a0.bC)
 (bd (Lk L ((gD (a0.aI++a0.bC) Af).aF) Ag) λr2=>
 (gi Af (a0.aI++a0.bC)
 (bd (Um L ((gD (a0.aI++a0.bC) Af).bM)) λr3=>
 (bd (Cj L r3 1) λr4=>
 (bd (Cw L r2 r4) λr5=>
 (cn (r5 != 0)
 (lf (0,r5,Ag,Af))
 (gi Af (a0.aI++a0.bC)
 (gq ((Ag.length+ [(gD (a0.aI++a0.bC) Af).aF].length)*16<=140737488355328)
 (gq (Ag.length+ [(gD (a0.aI++a0.bC) Af).aF].length<=maxLen)
 (rec Ah (Ag++ [(gD (a0.aI++a0.bC) Af).aF]) (Bu (Af+1))))))))))))
 (lf (1,Ah,Ag,Af)))
def Iz(L:Nat)(a0:Al):Nat->Int->List Yb->Int->Option (Nat×Tu7)
 |0,_,_,_=>none
 |n+1,Ah,Ag,Af=>Vi L a0 (Iz L a0 n) Ah Ag Af
theorem Btz(a0:Al):LP (EV (Bye L) L 9 B5t.x.l.u.l.l) [0,1,2,3,4,5] [1] (Bvm a0) [.ret,.exit 0] (λn v=>Iz L a0 n v.1 v.2.1 v.2.2) K:=lE (λ_=>rfl) λn v ih=>eE (Vi L a0 (λAh Ag Af=>re (ih (Ah,Ag,Af))) v.1 v.2.1 v.2.2)
def Vr [An A Int](a0:Al)(o6:Nat×Tu7):A:=
 (sl o6.1 [(lf o6.2.1),
 (bd (Aiv L a0.bD) λr7=>
 (lf r7))])
def Wa [An A Int](L:Nat)(a0:Al)(nx1:A):A:=
 (jp (.cn (decide ((a0.aI.length:Int)>6))
 (.lf true)
 (.lf (decide ((Bu ((a0.aI.length:Int)+(a0.bC.length:Int)))>16)))) (λb1=>
 (cn b1
 (lf 6)
 (gq ((0+a0.aI.length)*24<=140737488355328)
 (gq (0+a0.aI.length<=maxLen)
 (gq ((a0.aI.length+a0.bC.length)*24<=140737488355328)
 (gq (a0.aI.length+a0.bC.length<=maxLen)
 nx1)))))))
def Asn [An A Int](a0:Al):A:=Wa L a0 (bd (Iz L a0 L 0 [] 0) λo6=>Vr L a0 o6)
def Ac8(a0:Al):Option Int:=Asn L a0
def B9b:F3:=E1 I 133 Aq1 (Ac8 L) λa0 r h=>hF Tryz.func133 (C:=Bye L) (oS _) L (λkk=>eE (Wa L a0 (hq (Btz L (KA (Bye L) L 9 B5t (rl [8,1,2,1]) (KE Tryz.f133 kk)) a0 L (0,[],0)) λo6=>Vr L a0 o6))) h
def Jl [An A Int](a0:Aa)(a1:Int)(a2:Int):A:=
 (cn (a1 == 0)
 (gi a2 a0.bX
 (bd (Um L ((gD a0.bX a2).bM)) λr1=>
 (bd (Cj L r1 1) λr2=>
 (gi a2 a0.bX
 (gi a2 a0.bX
 (bd (Ym L ((gD a0.bX a2).bM) ((gD a0.bX a2).N)) λr3=>
 (bd (Cj L r3 2) λr4=>
 (bd (Cw L r2 r4) λr5=>
 (lf r5)))))))))
 (cn (a1 == 1)
 (gi a2 a0.aG
 (bd (Un L a0 (⟨(gD a0.aG a2).aF,(gD a0.aG a2).Units,(gD a0.aG a2).aZ,(gD a0.aG a2).cZ,(⟨(gD a0.aG a2).bQ.dH,((gD a0.aG a2).bQ.Up),((gD a0.aG a2).bQ.Down)⟩:Np)⟩:Aj)) λr6=>
 (lf r6)))
 (cn (a1 == 2)
 (gi a2 a0.aL
 (gi a2 a0.aL
 (bd (Dh L ((gD a0.aL a2).Room) 1 1000) λr7=>
 (bd (Cj L r7 2) λr8=>
 (jp (.cn (decide ((gD a0.aL a2).dM>=1))
 (.lf (decide ((gD a0.aL a2).dM<=3)))
 (.lf false)) (λb9=>
 (bd (Cj L b9 1) λr10=>
 (bd (Cw L r8 r10) λr11=>
 (lf r11)))))))))
 (cn (a1 == 3)
 (gi a2 a0.bN
 (bd (Dh L ((gD a0.bN a2).Length) 1 1000) λr12=>
 (jb (.cn r12
 (.gq (0<=a2)
 (.gq (a2<(a0.bN.length:Int))
 (.bd (Dh L ((gD a0.bN a2).Step) 1 1000) λr14=>
 (.lf r14))))
 (.lf false)) (λb13=>
 (bd (Cj L b13 2) λr15=>
 (lf r15))))))
 (cn (a1 == 9)
 (gi a2 a0.aD
 (bd (Ac8 L (gD a0.aD a2)) λr16=>
 (lf r16)))
 (lf 0))))))
def Da(a0:Aa)(a1:Int)(a2:Int):Option Int:=Jl L a0 a1 a2
def X74:F3:=E3 I 74 C7 (cI .i64) (cI .i64) (Da L) λa0 a1 a2 r h=>hF Tryz.func74 (oS [X47 L,X48 L,X71 L,X72 L,X78 L,B9a L,B9b L]) L (λkk=>eE (Jl L a0 a1 a2)) h
def Akb [An A Int](a0:Aa)(a1:Yb):A:=
 (bd (Y0 L a0) λr1=>
 (gi 9 r1
 (bd (J7 L (r1.getD 9 default) a1) λr2=>
 (lf r2))))
def Ac7(a0:Aa)(a1:Yb):Option Int:=Akb L a0 a1
def B9c:F3:=E2 I 134 C7 cS (Ac7 L) λa0 a1 r h=>hF Tryz.func134 (oS [X69 L,X73 L]) L (λkk=>eE (Akb L a0 a1)) h
def c75:=CC Tryz.f75
def O75:Bc:=oL [X48 L,X72 L,X78 L,B9c L]
def B34(a0:Aa)(r1:Int)(a1:Bv)(v:Jc):St:=⟨[(0,.any),(1,.any),(2,.any),Th,(4,I v.1),(5,.any),(6,lv (.dQ ((gD a0.aD r1).aI))),(7,I v.2),(8,.any)],[(2,(Ae a0)),(3,(Ai9 a1))],0⟩
def d7 [An A C3](a0:Aa)(r1:Int)(a1:Bv)(rec:Int->Int->A)(Ah:Int)(Ak:Int):A:=
 (lw Ak ((gD a0.aD r1).aI)
 (gi Ak a1.aM
 (bd (Ym L ((gD ((gD a0.aD r1).aI) Ak).bM) (gD a1.aM Ak)) λr2=>
 (cn (!r2)
 (lf (0,2,Ak))
 (rec Ah (Bu (Ak+1))))))
 (lf (1,Ah,Ak)))
def Mu(L:Nat)(a0:Aa)(r1:Int)(a1:Bv):Nat->Int->Int->Option C3
 |0,_,_=>none
 |n+1,Ah,Ak=>d7 L a0 r1 a1 (Mu L a0 r1 a1 n) Ah Ak
theorem B14(a0:Aa)(r1:Int)(a1:Bv):LP (EV (O75 L) L 9 c75.x.u.l.u.l.l) [0,1,2,3,4,5,6,7,8] [2,3] (B34 a0 r1 a1) [.ret,.exit 0] (λn v=>Mu L a0 r1 a1 n v.1 v.2) K:=lE (λ_=>rfl) λn v ih=>eE (d7 L a0 r1 a1 (λAh Ak=>re (ih (Ah,Ak))) v.1 v.2)
def z7 [An A Int](a1:Bv)(o3:Nat×Jc):A:=
 (sl o3.1 [(lf o3.2.1),
 (bd (Dh L a1.At 0 1000000000) λr4=>
 (jb (.cn r4
 (.bd (Dh L a1.Every 0 1000000000) λr6=>
 (.lf r6))
 (.lf false)) (λb5=>
 (jb (.cn b5
 (.bd (Dh L a1.Until 0 1000000000) λr8=>
 (.lf r8))
 (.lf false)) (λb7=>
 (jp (.cn b7
 (.cn (a1.Every != 0)
 (.lf true)
 (.lf (a1.Until == 0)))
 (.lf false)) (λb9=>
 (bd (Cj L b9 2) λr10=>
 (lf r10)))))))))])
def Aaz [An A Int](a0:Aa)(a1:Bv)(nx1:Int->A):A:=
 (bd (Ac7 L a0 a1.dI) λr1=>
 (cn (decide (r1<0))
 (lf 5)
 (gi r1 a0.aD
 (cn ((a1.aM.length:Int) != ((gD a0.aD r1).aI.length:Int))
 (lf 8)
 (nx1 r1)))))
def Azt [An A Int](a0:Aa)(a1:Bv):A:=Aaz L a0 a1 (λr1=>bd (Mu L a0 r1 a1 L 0 0) λo3=>z7 L a1 o3)
def Y1(a0:Aa)(a1:Bv):Option Int:=Azt L a0 a1
def X75:F3:=E2 I 75 C7 Avi (Y1 L) λa0 a1 r h=>hF Tryz.func75 (C:=O75 L) (oS _) L (λkk=>eE (Aaz L a0 a1 (λr1=>hq (B14 L (KA (O75 L) L 9 c75 (rl [10,1,2,1]) (KE Tryz.f75 kk)) a0 r1 a1 L (0,0)) λo3=>z7 L a1 o3))) h
def B52:=CC Tryz.f176
def Byi:Bc:=oL [X69 L,X73 L]
def Bvw(a1:Yb)(r1:List (List Yb))(a0:Aa)(v:Yb×Int):St:=⟨[(0,.any),(1,S a1),(2,.any),(4,S v.1),(5,lv (.t61 r1)),(6,.bA true (.t9 [(⟨#[118,97,114]⟩:Yb),(⟨#[114,101,115,111,117,114,99,101]⟩:Yb),(⟨#[115,116,111,114,101]⟩:Yb),(⟨#[98,101,108,116]⟩:Yb),(⟨#[113,117,101,117,101]⟩:Yb),(⟨#[115,116,114,101,97,109]⟩:Yb),(⟨#[116,97,108,108,121]⟩:Yb),(⟨#[108,101,118,101,108]⟩:Yb),(⟨#[99,111,117,110,116]⟩:Yb),(⟨#[114,111,117,116,105,110,101]⟩:Yb)])),(7,I v.2)],[(2,(Ae a0))],0⟩
def Adg [An A (Nat×Yb×Int)](a1:Yb)(r1:List (List Yb))(a0:Aa)(rec:Yb->Int->A)(Ag:Yb)(Bj:Int):A:=
 (lw Bj r1
 (bd (J7 L (gD r1 Bj) a1) λr2=>
 (cn (decide (r2>=0))
 (gq (0<=Bj)
 (gq (Bj<(([(⟨#[118,97,114]⟩:Yb),(⟨#[114,101,115,111,117,114,99,101]⟩:Yb),(⟨#[115,116,111,114,101]⟩:Yb),(⟨#[98,101,108,116]⟩:Yb),(⟨#[113,117,101,117,101]⟩:Yb),(⟨#[115,116,114,101,97,109]⟩:Yb),(⟨#[116,97,108,108,121]⟩:Yb),(⟨#[108,101,118,101,108]⟩:Yb),(⟨#[99,111,117,110,116]⟩:Yb),(⟨#[114,111,117,116,105,110,101]⟩:Yb)].length:Nat):Int))
 (lf (0,(([(⟨#[118,97,114]⟩:Yb),(⟨#[114,101,115,111,117,114,99,101]⟩:Yb),(⟨#[115,116,111,114,101]⟩:Yb),(⟨#[98,101,108,116]⟩:Yb),(⟨#[113,117,101,117,101]⟩:Yb),(⟨#[115,116,114,101,97,109]⟩:Yb),(⟨#[116,97,108,108,121]⟩:Yb),(⟨#[108,101,118,101,108]⟩:Yb),(⟨#[99,111,117,110,116]⟩:Yb),(⟨#[114,111,117,116,105,110,101]⟩:Yb)].getD (Int.toNat Bj) default),Bj)))))
 (rec Ag (Bu (Bj+1)))))
 (lf (1,Ag,Bj)))
def Pt(L:Nat)(a1:Yb)(r1:List (List Yb))(a0:Aa):Nat->Yb->Int->Option (Nat×Yb×Int)
 |0,_,_=>none
 |n+1,Ag,Bj=>Adg L a1 r1 a0 (Pt L a1 r1 a0 n) Ag Bj
theorem Bt8(a1:Yb)(r1:List (List Yb))(a0:Aa):LP (EV (Byi L) L 9 B52.w.u.l.u.l.l) [0,1,2,4,5,6,7] [2] (Bvw a1 r1 a0) [.ret,.exit 0] (λn v=>Pt L a1 r1 a0 n v.1 v.2) K:=lE (λ_=>rfl) λn v ih=>eE (Adg L a1 r1 a0 (λAg Bj=>re (ih (Ag,Bj))) v.1 v.2)
def Adv [An A Yb](L:Nat)(o3:Nat×Yb×Int):A:=
 (sl o3.1 [(lf o3.2.1),
 (lf (⟨#[]⟩:Yb))])
def Ad3 [An A Yb](a0:Aa)(a1:Yb)(nx1:(List (List Yb))->A):A:=
 (bd (Y0 L a0) λr1=>
 (nx1 r1))
def A2w [An A Yb](a0:Aa)(a1:Yb):A:=Ad3 L a0 a1 (λr1=>bd (Pt L a1 r1 a0 L (⟨#[]⟩:Yb) 0) λo3=>Adv L o3)
def Ank(a0:Aa)(a1:Yb):Option Yb:=A2w L a0 a1
def B9s:F3:=E2 S 176 C7 cS (Ank L) λa0 a1 r h=>hF Tryz.func176 (C:=Byi L) (oS _) L (λkk=>eE (Ad3 L a0 a1 (λr1=>hq (Bt8 L (KA (Byi L) L 9 B52 (rl [6,1,2,1]) (KE Tryz.f176 kk)) a1 r1 a0 L ((⟨#[]⟩:Yb),0)) λo3=>Adv L o3))) h
def Afd:=CC Tryz.f135
def Asd:Bc:=oL [X47 L,X48 L,X78 L,B9s L]
def Bbc(a0:Aa)(a1:Bd)(p801_1:Yb):St:=⟨[Sw,Th,(4,I 0),(5,S p801_1)],[(2,(Ae a0)),(3,(Ct a1))],0⟩
def A9w(L:Nat)(kk:K5):Ef:=(KE Tryz.f135 kk)
def P8 [An A Int](a0:Aa)(a1:Bd)(p801_1:Yb):A:=
 (bd (Cj L (!(p801_1.toList == (⟨#[]⟩:Yb).toList)) 1) λr1=>
 (bd (Ank L a0 a1.aF) λr2=>
 (bd (Cj L (r2.toList == p801_1.toList) 5) λr3=>
 (bd (Cw L r1 r3) λr4=>
 (bd (Dh L a1.cO (-1000) 1000) λr5=>
 (jp (.cn r5
 (.lf (a1.cO != 0))
 (.lf false)) (λb6=>
 (bd (Cj L b6 2) λr7=>
 (bd (Cw L r4 r7) λr8=>
 (lf r8))))))))))
theorem Bib(a0:Aa)(a1:Bd)(p801_1:Yb):EV (Asd L) L 9 Afd.w.u (Bbc a0 a1 p801_1) (A9w L kk)=ob (P8 L a0 a1 p801_1) (kQ I kk):=eE (P8 L a0 a1 p801_1)
def A2a(a1:Bd)(a0:Aa)(p803_3:Bool):St:=⟨[Sw,Th,(4,I 0),(5,S (⟨#[]⟩:Yb)),(8,S a1.aQ),(13,B p803_3)],[(2,(Ae a0)),(3,(Ct a1))],0⟩
def A10(e0:EC):Ef:=(Gi 0 (Qr (EV (Asd L) L 9 e0) (KE Tryz.f135 kk)))
def sx_R11_term_3 [An A Int](L:Nat)(a1:Bd)(a0:Aa)(p803_3:Bool)(nx1:Aa->Bd->Yb->A):A:=
 (cn p803_3
 (nx1 a0 a1 (⟨#[115,116,111,114,101]⟩:Yb))
 (cn (a1.aQ.toList == (⟨#[99,111,117,110,116,101,100]⟩:Yb).toList)
 (nx1 a0 a1 (⟨#[99,111,117,110,116]⟩:Yb))
 (nx1 a0 a1 (⟨#[]⟩:Yb))))
def Ak9 [An A Int](a1:Bd)(a0:Aa)(p803_3:Bool):A:=sx_R11_term_3 L a1 a0 p803_3 (λa0 a1 p801_1=>P8 L a0 a1 p801_1)
theorem Brs(a1:Bd)(a0:Aa)(p803_3:Bool)(z1:EC):EV (Asd L) L 9 Afd.w.l.u.l.w.r (A2a a1 a0 p803_3) (A10 L kk (EC.put (rl [1]) z1 Afd.w.r))= @sx_R11_term_3 Prop (anP (kQ I kk)) L a1 a0 p803_3 (λa0 a1 p801_1=>EV (Asd L) L 9 z1 (Bbc a0 a1 p801_1) (A9w L kk)):=by kernel_rfl
theorem Brf(a1:Bd)(a0:Aa)(p803_3:Bool):EV (Asd L) L 9 Afd.w.l.u.l.w.r (A2a a1 a0 p803_3) (A10 L kk Afd.w.r)=ob (Ak9 L a1 a0 p803_3) (kQ I kk):=Eq.trans (b:=EV (Asd L) L 9 Afd.w.l.u.l.w.r (A2a a1 a0 p803_3) (A10 L kk (EC.put (rl [1]) Afd.w.u Afd.w.r))) (by kernel_rfl) ((Brs L kk a1 a0 p803_3 Afd.w.u).trans (eE (sx_R11_term_3 L a1 a0 p803_3 (λa0 a1 p801_1=>re (Bib L kk a0 a1 p801_1)))))
def A19(a1:Bd)(a0:Aa)(p802_3:Bool):St:=⟨[Sw,Th,(4,I 0),(5,S (⟨#[]⟩:Yb)),(8,S a1.aQ),(9,B p802_3)],[(2,(Ae a0)),(3,(Ct a1))],0⟩
def A1z(e0:EC):Ef:=(Gi 0 (Qr (EV (Asd L) L 9 e0) (KE Tryz.f135 kk)))
def sx_R11_term_2 [An A Int](L:Nat)(a1:Bd)(a0:Aa)(p802_3:Bool)(nx1:Aa->Bd->Yb->A)(nx3:Bd->Aa->Bool->A):A:=
 (cn p802_3
 (nx1 a0 a1 (⟨#[114,111,117,116,105,110,101]⟩:Yb))
 (cn (a1.aQ.toList == (⟨#[115,116,111,114,101,100]⟩:Yb).toList)
 (nx3 a1 a0 (a1.aQ.toList == (⟨#[115,116,111,114,101,100]⟩:Yb).toList))
 (cn (a1.aQ.toList == (⟨#[101,110,116,101,114,101,100]⟩:Yb).toList)
 (nx3 a1 a0 (a1.aQ.toList == (⟨#[101,110,116,101,114,101,100]⟩:Yb).toList))
 (nx3 a1 a0 (a1.aQ.toList == (⟨#[108,101,102,116]⟩:Yb).toList)))))
def Ak8 [An A Int](a1:Bd)(a0:Aa)(p802_3:Bool):A:=sx_R11_term_2 L a1 a0 p802_3 (λa0 a1 p801_1=>P8 L a0 a1 p801_1) (λa1 a0 p803_3=>Ak9 L a1 a0 p803_3)
theorem Brr(a1:Bd)(a0:Aa)(p802_3:Bool)(z1 z3:EC):EV (Asd L) L 9 (EC.put (rl [3]) z3 Afd.w.l.u.l.u) (A19 a1 a0 p802_3) (A1z L kk (EC.put (rl [1]) z1 Afd.w.r))= @sx_R11_term_2 Prop (anP (kQ I kk)) L a1 a0 p802_3 (λa0 a1 p801_1=>EV (Asd L) L 9 z1 (Bbc a0 a1 p801_1) (A9w L kk)) (λa1 a0 p803_3=>EV (Asd L) L 9 z3 (A2a a1 a0 p803_3) (A10 L kk (EC.put (rl [1]) z1 Afd.w.r))):=by kernel_rfl
theorem Bre(a1:Bd)(a0:Aa)(p802_3:Bool):EV (Asd L) L 9 Afd.w.l.u.l.u (A19 a1 a0 p802_3) (A1z L kk Afd.w.r)=ob (Ak8 L a1 a0 p802_3) (kQ I kk):=Eq.trans (b:=EV (Asd L) L 9 (EC.put (rl [3]) Afd.w.l.u.l.w.r Afd.w.l.u.l.u) (A19 a1 a0 p802_3) (A1z L kk (EC.put (rl [1]) Afd.w.u Afd.w.r))) (by kernel_rfl) ((Brr L kk a1 a0 p802_3 Afd.w.u Afd.w.l.u.l.w.r).trans (eE (sx_R11_term_2 L a1 a0 p802_3 (λa0 a1 p801_1=>re (Bib L kk a0 a1 p801_1)) (λa1 a0 p803_3=>re (Brf L kk a1 a0 p803_3)))))
def sx_R11_term_0 [An A Int](L:Nat)(a0:Aa)(a1:Bd)(nx2:Bd->Aa->Bool->A):A:=
 (cn (a1.aQ.toList == (⟨#[99,114,101,97,116,101,100]⟩:Yb).toList)
 (nx2 a1 a0 (a1.aQ.toList == (⟨#[99,114,101,97,116,101,100]⟩:Yb).toList))
 (cn (a1.aQ.toList == (⟨#[101,110,100,101,100]⟩:Yb).toList)
 (nx2 a1 a0 (a1.aQ.toList == (⟨#[101,110,100,101,100]⟩:Yb).toList))
 (nx2 a1 a0 (a1.aQ.toList == (⟨#[105,110,115,105,100,101]⟩:Yb).toList))))
def A2z [An A Int](a0:Aa)(a1:Bd):A:=sx_R11_term_0 L a0 a1 (λa1 a0 p802_3=>Ak8 L a1 a0 p802_3)
theorem Brq(a0:Aa)(a1:Bd)(z2:EC):EW (Asd L) L 9 (RS Tryz.f135) (EC.put (rl [4,1,2,1,2]) z2 Afd) [.agg (Ae a0),.agg (Ct a1)] kk= @sx_R11_term_0 Prop (anP (kQ I kk)) L a0 a1 (λa1 a0 p802_3=>EV (Asd L) L 9 z2 (A19 a1 a0 p802_3) (A1z L kk Afd.w.r)):=by kernel_rfl
def Ag9(a0:Aa)(a1:Bd):Option Int:=A2z L a0 a1
def B9d:F3:=E2 I 135 C7 Az3 (Ag9 L) λa0 a1 r h=>hF Tryz.func135 (C:=Asd L) (oS _) L (λkk=>Eq.trans (b:=EW (Asd L) L 9 (RS Tryz.f135) (EC.put (rl [4,1,2,1,2]) Afd.w.l.u.l.u Afd) [.agg (Ae a0),.agg (Ct a1)] kk) (by kernel_rfl) ((Brq L kk a0 a1 Afd.w.l.u.l.u).trans (eE (sx_R11_term_0 L a0 a1 (λa1 a0 p802_3=>re (Bre L kk a1 a0 p802_3)))))) h
def c76:=CC Tryz.f76
def O76:Bc:=oL [X47 L,X48 L,X50 L,Bqw L,B9d L]
def B35(a0:Aa)(a1:Bh)(v:Jc):St:=⟨[(0,.any),(1,.any),(2,.any),Th,Be9,(6,I 0),(7,I v.1),(8,I v.2)],[(3,(Ae a0)),(4,(Dt a1))],0⟩
def Agr [An A C3](a0:Aa)(a1:Bh)(rec:Int->Int->A)(Ag:Int)(Ak:Int):A:=
 (lw Ak a1.bS
 (bd (Ag9 L a0 (gD a1.bS Ak)) λr6=>
 (bd (Cw L Ag r6) λr7=>
 (rec r7 (Bu (Ak+1)))))
 (lf (0,Ag,Ak)))
def R7(L:Nat)(a0:Aa)(a1:Bh):Nat->Int->Int->Option C3
 |0,_,_=>none
 |n+1,Ag,Ak=>Agr L a0 a1 (R7 L a0 a1 n) Ag Ak
theorem B15(a0:Aa)(a1:Bh):LP (EV (O76 L) L 9 c76.x.l.u.l.l) [0,1,2,3,4,6,7,8] [3,4] (B35 a0 a1) [.exit 0] (λn v=>R7 L a0 a1 n v.1 v.2) K:=lE (λ_=>rfl) λn v ih=>eE (Agr L a0 a1 (λAg Ak=>re (ih (Ag,Ak))) v.1 v.2)
def Agy [An A Int](a1:Bh)(o8:Nat×Jc):A:=
 (sl o8.1 [(bd (Ale L a1.Total) λr9=>
 (bd (Cj L r9 2) λr10=>
 (bd (Cw L o8.2.1 r10) λr11=>
 (lf r11))))])
def Ag1 [An A Int](a0:Aa)(a1:Bh)(a2:List Yb)(nx1:Int->A):A:=
 (bd (Lk L a1.aF a2) λr1=>
 (bd (Cj L (decide ((a1.bS.length:Int)>0)) 7) λr2=>
 (bd (Cw L r1 r2) λr3=>
 (bd (Cj L (decide ((a1.bS.length:Int)<=8)) 6) λr4=>
 (bd (Cw L r3 r4) λr5=>
 (nx1 r5))))))
def A7h [An A Int](a0:Aa)(a1:Bh)(a2:List Yb):A:=Ag1 L a0 a1 a2 (λr5=>bd (R7 L a0 a1 L r5 0) λo8=>Agy L a1 o8)
def Alg(a0:Aa)(a1:Bh)(a2:List Yb):Option Int:=A7h L a0 a1 a2
def X76:F3:=E3 I 76 C7 Bfm cl9 (Alg L) λa0 a1 a2 r h=>hF Tryz.func76 (C:=O76 L) (oS _) L (λkk=>eE (Ag1 L a0 a1 a2 (λr5=>hq (B15 L (KA (O76 L) L 9 c76 (rl [8,1,2,1]) (KE Tryz.f76 kk)) a0 a1 L (r5,0)) λo8=>Agy L a1 o8))) h
def c51:=CC Tryz.f51
def O51:Bc:=oL [X47 L,X50 L,X73 L,X74 L,X75 L,X76 L]
def B3k(r1:List (List Yb))(Af:Int)(a0:Aa)(v:Tu7):St:=⟨[(0,.any),zq7,(2,I v.1),(3,.bA true (.t9 v.2.1)),(4,lv (.t61 r1)),(5,I Af),(6,I v.2.2),(8,.any),(9,.any),(10,.any),A7e,Bbw],[(1,(Ae a0))],0⟩
def Adi [An A (Nat×Tu7)](r1:List (List Yb))(Af:Int)(a0:Aa)(rec:Int->List Yb->Int->A)(Bz:Int)(Gf:List Yb)(T6:Int):A:=
 (gi Af r1
 (cn (decide (T6<((gD r1 Af).length:Int)))
 (gi Af r1
 (gi T6 (gD r1 Af)
 (bd (Lk L (gD (gD r1 Af) T6) Gf) λr3=>
 (bd (Da L a0 Af T6) λr4=>
 (bd (Cw L r3 r4) λr5=>
 (cn (r5 != 0)
 (lf (0,r5,Gf,T6))
 (gi Af r1
 (gi T6 (gD r1 Af)
 (gq ((Gf.length+ [(gD (gD r1 Af) T6)].length)*16<=140737488355328)
 (gq (Gf.length+ [(gD (gD r1 Af) T6)].length<=maxLen)
 (rec Bz (Gf++ [(gD (gD r1 Af) T6)]) (Bu (T6+1)))))))))))))
 (lf (1,Bz,Gf,T6))))
def Lt(L:Nat)(r1:List (List Yb))(Af:Int)(a0:Aa):Nat->Int->List Yb->Int->Option (Nat×Tu7)
 |0,_,_,_=>none
 |n+1,Bz,Gf,T6=>Adi L r1 Af a0 (Lt L r1 Af a0 n) Bz Gf T6
theorem B1k(r1:List (List Yb))(Af:Int)(a0:Aa):LP (EV (O51 L) L 9 c51.w.u.l.u.l.l.u.l.l.w.l.l) [0,1,2,3,4,5,6,8,9,10,11,12] [1] (B3k r1 Af a0) [.ret,.exit 2] (λn v=>Lt L r1 Af a0 n v.1 v.2.1 v.2.2) K:=lE (λ_=>rfl) λn v ih=>eE (Adi L r1 Af a0 (λBz Gf T6=>re (ih (Bz,Gf,T6))) v.1 v.2.1 v.2.2)
def B3j(r1:List (List Yb))(a0:Aa)(v:Tu7):St:=⟨[(0,.any),zq7,(2,I v.1),(3,.bA true (.t9 v.2.1)),(4,lv (.t61 r1)),(5,I v.2.2),(8,.any),(9,.any),(10,.any),A7e,Bbw],[(1,(Ae a0))],0⟩
def Adx [An A (Nat×Tu7)](L:Nat)(Af:Int)(rec:Int->List Yb->Int->A)(o6:Nat×Tu7):A:=
 (sl o6.1 [(lf (0,o6.2.1,o6.2.2.1,Af)),
 (rec o6.2.1 o6.2.2.1 (Bu (Af+1)))])
def Ad4 [An A (Nat×Tu7)](L:Nat)(r1:List (List Yb))(a0:Aa)(rec:Int->List Yb->Int->A)(Ah:Int)(Ag:List Yb)(Af:Int)(nx1:Int->Int->(List Yb)->A):A:=
 (lw Af r1
 (jb (.cn (decide (((gD r1 Af).length:Int)>32))
 (.lf true)
 (.cn (Af == 9)
 (.gq (0<=Af)
 (.gq (Af<(r1.length:Int))
 (.lf (decide (((gD r1 Af).length:Int)>16)))))
 (.lf false))) (λb2=>
 (cn b2
 (lf (0,6,Ag,Af))
 (nx1 Af Ah Ag))))
 (lf (1,Ah,Ag,Af)))
def Akm [An A (Nat×Tu7)](r1:List (List Yb))(a0:Aa)(rec:Int->List Yb->Int->A)(Ah:Int)(Ag:List Yb)(Af:Int):A:=Ad4 L r1 a0 rec Ah Ag Af (λAf Ah Ag=>bd (Lt L r1 Af a0 L Ah Ag 0) λo6=>Adx L Af rec o6)
def Pv(L:Nat)(r1:List (List Yb))(a0:Aa):Nat->Int->List Yb->Int->Option (Nat×Tu7)
 |0,_,_,_=>none
 |n+1,Ah,Ag,Af=>Akm L r1 a0 (Pv L r1 a0 n) Ah Ag Af
theorem B1j(r1:List (List Yb))(a0:Aa):LP (EV (O51 L) L 9 c51.w.u.l.u.l.l) [0,1,2,3,4,5,8,9,10,11,12] [1] (B3j r1 a0) [.ret,.exit 0] (λn v=>Pv L r1 a0 n v.1 v.2.1 v.2.2) K:=lE (λ_=>rfl) λn v ih=>eE (Ad4 L r1 a0 (λAh Ag Af=>re (ih (Ah,Ag,Af))) v.1 v.2.1 v.2.2 (λAf Ah Ag=>hq (B1k L (KA (O51 L) L 9 c51.w.u.l.u.l.l (rl [2,2,4,1]) (Hf (Io (EV (O51 L) L 9 c51.w.u.l.u.l.l) [0,1,2,3,4,5,8,9,10,11,12] [1] n) [0,1,2,3,4,5,8,9,10,11,12] [1] K)) r1 Af a0 L (Ah,Ag,0)) λo6=>Adx L Af (λAh Ag Af=>re (ih (Ah,Ag,Af))) o6))
def B3l(a0:Aa)(v:Jc):St:=⟨[(0,.any),zq7,(2,I v.1),(3,.any),(4,.any),(5,.any),(6,.any),(7,.any),(8,I v.2),(10,.any),A7e,Bbw],[(1,(Ae a0))],0⟩
def Adj [An A C3](a0:Aa)(rec:Int->Int->A)(D7:Int)(Ig:Int):A:=
 (lw Ig a0.bV
 (bd (Y1 L a0 (gD a0.bV Ig)) λr8=>
 (cn (r8 != 0)
 (lf (0,r8,Ig))
 (rec D7 (Bu (Ig+1)))))
 (lf (1,D7,Ig)))
def Pw(L:Nat)(a0:Aa):Nat->Int->Int->Option C3
 |0,_,_=>none
 |n+1,D7,Ig=>Adj L a0 (Pw L a0 n) D7 Ig
theorem B1l(a0:Aa):LP (EV (O51 L) L 9 c51.x.u.l.u.l.l) [0,1,2,3,4,5,6,7,8,10,11,12] [1] (B3l a0) [.ret,.exit 4] (λn v=>Pw L a0 n v.1 v.2) K:=lE (λ_=>rfl) λn v ih=>eE (Adj L a0 (λD7 Ig=>re (ih (D7,Ig))) v.1 v.2)
def B3m(a0:Aa)(v:Tu7):St:=⟨[(0,.any),zq7,(2,I v.1),(3,.any),(4,.any),(5,.any),(6,.any),(7,.any),(8,.any),(9,.any),(10,.bA true (.t9 v.2.1)),(11,I v.2.2)],[(1,(Ae a0))],0⟩
def Adk [An A (Nat×Tu7)](a0:Aa)(rec:Int->List Yb->Int->A)(Ma:Int)(Hw:List Yb)(Azf:Int):A:=
 (lw Azf a0.Laws
 (bd (Alg L a0 (gD a0.Laws Azf) Hw) λr10=>
 (cn (r10 != 0)
 (lf (0,r10,Hw,Azf))
 (gi Azf a0.Laws
 (gq ((Hw.length+ [(gD a0.Laws Azf).aF].length)*16<=140737488355328)
 (gq (Hw.length+ [(gD a0.Laws Azf).aF].length<=maxLen)
 (rec Ma (Hw++ [(gD a0.Laws Azf).aF]) (Bu (Azf+1))))))))
 (lf (1,Ma,Hw,Azf)))
def Px(L:Nat)(a0:Aa):Nat->Int->List Yb->Int->Option (Nat×Tu7)
 |0,_,_,_=>none
 |n+1,Ma,Hw,Azf=>Adk L a0 (Px L a0 n) Ma Hw Azf
theorem B1m(a0:Aa):LP (EV (O51 L) L 9 c51.x.x.l.u.l.l) [0,1,2,3,4,5,6,7,8,9,10,11] [1] (B3m a0) [.ret,.exit 6] (λn v=>Px L a0 n v.1 v.2.1 v.2.2) K:=lE (λ_=>rfl) λn v ih=>eE (Adk L a0 (λMa Hw Azf=>re (ih (Ma,Hw,Azf))) v.1 v.2.1 v.2.2)
def Ady [An A Int](L:Nat)(o11:Nat×Tu7):A:=
 (sl o11.1 [(lf o11.2.1),
 (lf 0)])
def Ad7 [An A Int](L:Nat)(a0:Aa)(o9:Nat×Jc)(nx4:C3->A):A:=
 (sl o9.1 [(lf o9.2.1),
 (cn (decide ((a0.Laws.length:Int)>32))
 (lf 6)
 (nx4 o9))])
def Akw [An A Int](a0:Aa)(o9:Nat×Jc):A:=Ad7 L a0 o9 (λo9=>bd (Px L a0 L o9.2.1 [] 0) λo11=>Ady L o11)
def Ad6 [An A Int](L:Nat)(a0:Aa)(o7:Nat×Tu7)(nx3:(Nat×Tu7)->A):A:=
 (sl o7.1 [(lf o7.2.1),
 (cn (decide ((a0.bV.length:Int)>32))
 (lf 6)
 (nx3 o7))])
def Akv [An A Int](a0:Aa)(o7:Nat×Tu7):A:=Ad6 L a0 o7 (λo7=>bd (Pw L a0 L o7.2.1 0) λo9=>Akw L a0 o9)
def Ad5 [An A Int](a0:Aa)(nx2:(List (List Yb))->A):A:=
 (bd (Y0 L a0) λr1=>
 (nx2 r1))
def A2y [An A Int](a0:Aa):A:=Ad5 L a0 (λr1=>bd (Pv L r1 a0 L 0 [] 0) λo7=>Akv L a0 o7)
def Ag8(a0:Aa):Option Int:=A2y L a0
def X51:F3:=E1 I 51 C7 (Ag8 L) λa0 r h=>hF Tryz.func51 (C:=O51 L) (oS _) L (λkk=>eE (Ad5 L a0 (λr1=>hq (B1j L (KA (O51 L) L 9 c51 (rl [6,1,2,1]) (KE Tryz.f51 kk)) r1 a0 L (0,[],0)) λo7=>Ad6 L a0 o7 (λo7=>hq (B1l L (KA (O51 L) L 9 c51 (rl [10,1,2,1]) (KE Tryz.f51 kk)) a0 L (o7.2.1,0)) λo9=>Ad7 L a0 o9 (λo9=>hq (B1m L (KA (O51 L) L 9 c51 (rl [16,1,2,1]) (KE Tryz.f51 kk)) a0 L (o9.2.1,[],0)) λo11=>Ady L o11))))) h
def c77:=CC Tryz.f77
def O77(L:Nat):Bc:=oL []
def B36(a1:Yb)(a0:Ai)(v:Jc):St:=⟨[(0,.any),(1,S a1),Sw,(4,I v.1),(5,I v.2)],[(2,(Bt a0))],0⟩
def Adh [An A C3](L:Nat)(a1:Yb)(a0:Ai)(rec:Int->Int->A)(Ag:Int)(Ak:Int):A:=
 (lw Ak a0.aA
 (cn ((gD a0.aA Ak).aF.toList == a1.toList)
 (lf (0,Ak,Ak))
 (rec Ag (Bu (Ak+1))))
 (lf (1,Ag,Ak)))
def Pu(L:Nat)(a1:Yb)(a0:Ai):Nat->Int->Int->Option C3
 |0,_,_=>none
 |n+1,Ag,Ak=>Adh L a1 a0 (Pu L a1 a0 n) Ag Ak
theorem B16(a1:Yb)(a0:Ai):LP (EV (O77 L) L 9 c77.u.l.u.l.l) [0,1,2,4,5] [2] (B36 a1 a0) [.ret,.exit 0] (λn v=>Pu L a1 a0 n v.1 v.2) K:=lE (λ_=>rfl) λn v ih=>eE (Adh L a1 a0 (λAg Ak=>re (ih (Ag,Ak))) v.1 v.2)
def Adw [An A Int](L:Nat)(o1:Nat×Jc):A:=
 (sl o1.1 [(lf o1.2.1),
 (lf (-1))])
def A2x [An A Int](a0:Ai)(a1:Yb):A:=(bd (Pu L a1 a0 L 0 0) λo1=>Adw L o1)
def Yn(a0:Ai)(a1:Yb):Option Int:=A2x L a0 a1
def X77:F3:=E2 I 77 Ve cS (Yn L) λa0 a1 r h=>hF Tryz.func77 (C:=O77 L) (oS _) L (λkk=>eE ((hq (B16 L (KA (O77 L) L 9 c77 (rl [2,1,2,1]) (KE Tryz.f77 kk)) a1 a0 L (0,0)) λo1=>Adw L o1))) h
def c52:=CC Tryz.f52
def O52:Bc:=oL [X77 L,X78 L]
def B3o(Ag:Int)(a0:Ai)(v:Jc):St:=⟨[(0,.any),zq7,(2,I v.1),(3,I Ag),Be9,(5,I v.2)],[(1,(Bt a0)),(4,(Pq (gD a0.aH Ag)))],0⟩
def d6 [An A C3](L:Nat)(Ag:Int)(a0:Ai)(rec:Int->Int->A)(Bz:Int)(Rk:Int):A:=
 (cn (decide (Rk<Ag))
 (gi Rk a0.aH
 (cn ((gD a0.aH Rk).aV.toList == (gD a0.aH Ag).aV.toList)
 (gi Rk a0.aH
 (cn ((gD a0.aH Rk).To.toList == (gD a0.aH Ag).To.toList)
 (lf (0,4,Rk))
 (rec Bz (Bu (Rk+1)))))
 (rec Bz (Bu (Rk+1)))))
 (lf (1,Bz,Rk)))
def Jn(L:Nat)(Ag:Int)(a0:Ai):Nat->Int->Int->Option C3
 |0,_,_=>none
 |n+1,Bz,Rk=>d6 L Ag a0 (Jn L Ag a0 n) Bz Rk
theorem B1o(Ag:Int)(a0:Ai):LP (EV (O52 L) L 9 c52.w.l.u.l.l.u.l.l.x.u.l.l) [0,1,2,3,4,5] [1,4] (B3o Ag a0) [.ret,.exit 2] (λn v=>Jn L Ag a0 n v.1 v.2) K:=lE (λ_=>rfl) λn v ih=>eE (d6 L Ag a0 (λBz Rk=>re (ih (Bz,Rk))) v.1 v.2)
def B3n(a0:Ai)(v:Jc):St:=⟨[(0,.any),zq7,(2,I v.1),(3,I v.2)],[(1,(Bt a0))],0⟩
def y9 [An A C3](L:Nat)(Ag:Int)(rec:Int->Int->A)(o5:Nat×Jc):A:=
 (sl o5.1 [(lf (0,o5.2.1,Ag)),
 (rec o5.2.1 (Bu (Ag+1)))])
def Aax [An A C3](a0:Ai)(rec:Int->Int->A)(Ah:Int)(Ag:Int)(nx1:Int->Int->A):A:=
 (lw Ag a0.aH
 (bd (Yn L a0 ((gD a0.aH Ag).aV)) λr1=>
 (jb (.cn (decide (r1<0))
 (.lf true)
 (.bd (Yn L a0 ((gD a0.aH Ag).To)) λr3=>
 (.lf (decide (r3<0))))) (λb2=>
 (cn b2
 (lf (0,5,Ag))
 (cn ((gD a0.aH Ag).aV.toList == (gD a0.aH Ag).To.toList)
 (lf (0,1,Ag))
 (bd (Dh L ((gD a0.aH Ag).bR) 1 1000000000) λr4=>
 (cn (!r4)
 (lf (0,2,Ag))
 (nx1 Ag Ah))))))))
 (lf (1,Ah,Ag)))
def Ah1 [An A C3](a0:Ai)(rec:Int->Int->A)(Ah:Int)(Ag:Int):A:=Aax L a0 rec Ah Ag (λAg Ah=>bd (Jn L Ag a0 L Ah 0) λo5=>y9 L Ag rec o5)
def Mt(L:Nat)(a0:Ai):Nat->Int->Int->Option C3
 |0,_,_=>none
 |n+1,Ah,Ag=>Ah1 L a0 (Mt L a0 n) Ah Ag
theorem B1n(a0:Ai):LP (EV (O52 L) L 9 c52.w.l.u.l.l) [0,1,2,3] [1] (B3n a0) [.ret,.exit 0] (λn v=>Mt L a0 n v.1 v.2) K:=lE (λ_=>rfl) λn v ih=>eE (Aax L a0 (λAh Ag=>re (ih (Ah,Ag))) v.1 v.2 (λAg Ah=>hq (B1o L (KA (O52 L) L 9 c52.w.l.u.l.l (rl [2,2,10,1]) (Hf (Io (EV (O52 L) L 9 c52.w.l.u.l.l) [0,1,2,3] [1] n) [0,1,2,3] [1] K)) Ag a0 L (Ah,0)) λo5=>y9 L Ag (λAh Ag=>re (ih (Ah,Ag))) o5))
def z6 [An A Int](L:Nat)(o6:Nat×Jc):A:=
 (sl o6.1 [(lf o6.2.1),
 (lf 0)])
def Aay [An A Int](L:Nat)(a0:Ai)(nx2:A):A:=
 (cn (decide ((a0.aH.length:Int)>32))
 (lf 6)
 nx2)
def Azs [An A Int](a0:Ai):A:=Aay L a0 (bd (Mt L a0 L 0 0) λo6=>z6 L o6)
def Aix(a0:Ai):Option Int:=Azs L a0
def X52:F3:=E1 I 52 Ve (Aix L) λa0 r h=>hF Tryz.func52 (C:=O52 L) (oS _) L (λkk=>eE (Aay L a0 (hq (B1n L (KA (O52 L) L 9 c52 (rl [4,1,2,1]) (KE Tryz.f52 kk)) a0 L (0,0)) λo6=>z6 L o6))) h
end
end Go.Proofs.YthjhkpgonleelaaGreatDoor.Ev
