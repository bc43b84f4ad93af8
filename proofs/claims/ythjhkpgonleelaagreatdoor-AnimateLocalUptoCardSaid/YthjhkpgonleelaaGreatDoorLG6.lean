import Derived.Test.YthjhkpgonleelaaGreatDoorLG1
import Derived.Test.YthjhkpgonleelaaGreatDoorLG5
set_option maxRecDepth 100000
set_option maxHeartbeats 4000000
set_option linter.unusedVariables false
set_option linter.unusedSimpArgs false
set_option linter.unnecessarySimpa false
namespace Go.Proofs.YthjhkpgonleelaaGreatDoor.Ev
open Go An
noncomputable section
variable {A:Type} (L n:Nat) (kk:K5) (K:Ef) (k:Dj)
def Bho(F:Av->Ab->Option Bool):Prop:=∀y0 y1 r,F y0 y1=some r->Ho Tryz.prog 128 [S2.en y0,Bi.en y1] B r
def A0v:=CC Tryz.f166
def B6g:=CC Tryz.f196
def A0u:=CC Tryz.f128
def Aa9(Bm:Av->Ab->Option Bool)(L:Nat):Bc:=(orc 128 (A2 B S2 Bi Bm) (oL [Byz L,By7 L]))
theorem Cb8(Bm:Av->Ab->Option Bool)(Bmt:Bho Bm)(L:Nat):Dl Tryz.prog (Aa9 Bm L):=(Em (a2 _ Bmt) (oS [Byz L,By7 L]))
def Bvl(p1_0:List Ab)(p1_1:Av)(p1_2:Ab)(v:Jc):St:=⟨[(0,lv (.dU p1_0)),(1,Ana),(4,I v.1),(7,I (p1_0.length:Int)),(8,I v.2)],[(2,(Dy p1_1)),(3,(Cl p1_2))],1004⟩
def Oh [An A C3](Bm:Av->Ab->Option Bool)(L:Nat)(p1_0:List Ab)(p1_1:Av)(p1_2:Ab)(rec:Int->Int->A)(Ag:Int)(Af:Int):A:=
 (lw Af p1_0
 (bd (Bm (⟨(⟨p1_1.bJ.aF,p1_1.bJ.aA,p1_1.bJ.aH⟩:Ac),p1_1.aS,p1_1.u_c⟩:Av) (Ab.cp (gD p1_0 Af))) λr2=>
 (cn (!r2)
 (lf (0,Af,Af))
 (rec Ag (Bu (Af+1)))))
 (lf (1,Ag,Af)))
def Gk(Bm:Av->Ab->Option Bool)(L:Nat)(p1_0:List Ab)(p1_1:Av)(p1_2:Ab):Nat->Int->Int->Option C3
 |0,_,_=>none
 |n+1,Ag,Af=>Oh Bm L p1_0 p1_1 p1_2 (Gk Bm L p1_0 p1_1 p1_2 n) Ag Af
theorem Bty(Bm:Av->Ab->Option Bool)(L:Nat)(K:Ef)(p1_0:List Ab)(p1_1:Av)(p1_2:Ab):LP (EV (Aa9 Bm L) L 7 B6g.u.l.u.l.l) [0,1,4,7,8] [2,3] (Bvl p1_0 p1_1 p1_2) [.ret,.exit 0] (λn v=>Gk Bm L p1_0 p1_1 p1_2 n v.1 v.2) K:=lE (λ_=>rfl) λn v ih=>eE (Oh Bm L p1_0 p1_1 p1_2 (λAg Af=>re (ih (Ag,Af))) v.1 v.2)
def Bp6(p1_0:List Ab)(p1_1:Av)(p1_2:Ab)(k:Dj):Int->Prop:=λo=>k (I o) [(2,(Dy p1_1)),(3,(Cl p1_2))]
def U4 [An A Int](Bm:Av->Ab->Option Bool)(L:Nat)(o3:Nat×Jc):A:=
 (sl o3.1 [(lf o3.2.1),
 (lf (-1))])
def Aeq [An A Int](Bm:Av->Ab->Option Bool)(L:Nat)(p1_0:List Ab)(p1_1:Av)(p1_2:Ab):A:=(bd (Gk Bm L p1_0 p1_1 p1_2 L 0 0) λo3=>U4 Bm L o3)
def Dz(Bm:Av->Ab->Option Bool)(L:Nat)(p1_0:List Ab)(p1_1:Av)(p1_2:Ab):Option Int:=Aeq Bm L p1_0 p1_1 p1_2
theorem Ar7(Bm:Av->Ab->Option Bool)(L:Nat)(k:Dj)(p1_0:List Ab)(p1_1:Av)(p1_2:Ab):YO (Aa9 Bm L) L 8 196 [lv (.dU p1_0),Ana] [(2,(Dy p1_1)),(3,(Cl p1_2))] k=ob (Dz Bm L p1_0 p1_1 p1_2) (Bp6 p1_0 p1_1 p1_2 k):=(C4 _ _ _ jn4 _ _ _ _ _ _ _).trans (eE ((hq (Bty Bm L (KA (Aa9 Bm L) L 7 B6g (rl [2,1,2,1]) (KJ Tryz.f196 k)) p1_0 p1_1 p1_2 L (0,0)) λo3=>U4 Bm L o3)))
def Oo [An A Bool](Bm:Av->Ab->Option Bool)(L:Nat)(o9:Int):A:=
 (nq (lf (!(decide (o9>=0)))))
def Oq [An A Bool](Bm:Av->Ab->Option Bool)(L:Nat)(o10:Int):A:=
 (nq (lf (!(decide (o10>=0)))))
def Ot [An A Bool](Bm:Av->Ab->Option Bool)(L:Nat)(o11:Int):A:=
 (nq (lf (!(decide (o11>=0)))))
def Ou [An A Bool](Bm:Av->Ab->Option Bool)(L:Nat)(o12:Int):A:=
 (nq (lf (!(decide (o12>=0)))))
def Ov [An A Bool](Bm:Av->Ab->Option Bool)(L:Nat)(o13:Int):A:=
 (nq (lf (!(decide (o13>=0)))))
def Ow [An A Bool](Bm:Av->Ab->Option Bool)(L:Nat)(o14:Int):A:=
 (nq (lf (!(decide (o14>=0)))))
def O3 [An A Bool](Bm:Av->Ab->Option Bool)(L:Nat)(a0:Av)(a1:Ab)(nx3:Bool->A)(nx4:Bool->A)(nx5:Bool->A)(nx6:Bool->A)(nx7:Int->Int->A)(nx8:A):A:=
 (cn (a1.Op == 25)
 (bd (Cy L (⟨(⟨a0.bJ.aF,a0.bJ.aA,a0.bJ.aH⟩:Ac),a0.aS,a0.u_c⟩:Av) 1 a1.N 0) λr1=>
 (cn r1
 (nx3 r1)
 (nq (lf false))))
 (cn (a1.Op == 26)
 (bd (Cy L (⟨(⟨a0.bJ.aF,a0.bJ.aA,a0.bJ.aH⟩:Ac),a0.aS,a0.u_c⟩:Av) 2 a1.N 0) λr4=>
 (cn r4
 (nx4 r4)
 (nq (lf false))))
 (cn (a1.Op == 22)
 (bd (Cy L (⟨(⟨a0.bJ.aF,a0.bJ.aA,a0.bJ.aH⟩:Ac),a0.aS,a0.u_c⟩:Av) 5 a1.N 0) λr5=>
 (cn r5
 (nx5 r5)
 (nq (lf false))))
 (cn (a1.Op == 23)
 (bd (Cy L (⟨(⟨a0.bJ.aF,a0.bJ.aA,a0.bJ.aH⟩:Ac),a0.aS,a0.u_c⟩:Av) 6 a1.N 0) λr6=>
 (cn r6
 (nx6 r6)
 (nq (lf false))))
 (cn (a1.Op == 24)
 (bd (Hc L (⟨(⟨a0.bJ.aF,a0.bJ.aA,a0.bJ.aH⟩:Ac),a0.aS,a0.u_c⟩:Av) 5 0) λr7=>
 (bd (Hc L (⟨(⟨a0.bJ.aF,a0.bJ.aA,a0.bJ.aH⟩:Ac),a0.aS,a0.u_c⟩:Av) 8 0) λr8=>
 (cn (decide (a1.N<(Bu (r7+r8))))
 (nx7 r7 r8)
 (nq (lf false)))))
 nx8)))))
def Ai2 [An A Bool](Bm:Av->Ab->Option Bool)(L:Nat)(a0:Av)(a1:Ab):A:=O3 Bm L a0 a1 (λr1=>bd (Dz Bm L a1.aY a0 a1) λo9=>Oo Bm L o9) (λr4=>bd (Dz Bm L a1.aY a0 a1) λo10=>Oq Bm L o10) (λr5=>bd (Dz Bm L a1.aY a0 a1) λo11=>Ot Bm L o11) (λr6=>bd (Dz Bm L a1.aY a0 a1) λo12=>Ou Bm L o12) (λr7 r8=>bd (Dz Bm L a1.aY a0 a1) λo13=>Ov Bm L o13) (bd (Dz Bm L a1.aY a0 a1) λo14=>Ow Bm L o14)
def Zd(Bm:Av->Ab->Option Bool)(L:Nat)(a0:Av)(a1:Ab):Option Bool:=Ai2 Bm L a0 a1
theorem Cap(Bm:Av->Ab->Option Bool)(Bmt:Bho Bm)(L:Nat):Bho (Zd Bm L):=λa0 a1 r h=>hF Tryz.func128 (Cb8 Bm Bmt L) L (λkk=>eE (O3 Bm L a0 a1 (λr1=>hq (Ar7 Bm L (Md (Aa9 Bm L) L 8 2 3 A0v.u.l ⟨[(6,Ana),(5,lv (.dU a1.aY)),(0,lv (.dU a1.aY)),(1,Ana),Ais],[(2,(Dy a0)),(3,(Cl a1))],1004⟩ (some 7) (kN (KA (Aa9 Bm L) L 8 A0v (rl [2,1]) (KJ Tryz.f166 (Md (Aa9 Bm L) L 9 3 6 A0u.w.u.l ⟨[Af5,(46,Ana),Af5,(45,lv (.dU a1.aY)),Af5,Bld,Af5,(43,B r1),(42,B r1),Sw,Th,Ais,(5,B r1)],[(2,(Dy a0)),(3,(Cl a1))],0⟩ (some 47) (kN (KA (Aa9 Bm L) L 9 A0u (rl [6,1]) (KE Tryz.f128 kk)))))))) a1.aY a0 a1) λo9=>Oo Bm L o9) (λr4=>hq (Ar7 Bm L (Md (Aa9 Bm L) L 8 2 3 A0v.u.l ⟨[(6,Ana),(5,lv (.dU a1.aY)),(0,lv (.dU a1.aY)),(1,Ana),Ais],[(2,(Dy a0)),(3,(Cl a1))],1004⟩ (some 7) (kN (KA (Aa9 Bm L) L 8 A0v (rl [2,1]) (KJ Tryz.f166 (Md (Aa9 Bm L) L 9 3 6 A0u.w.u.l ⟨[Af5,(46,Ana),Af5,(45,lv (.dU a1.aY)),Af5,Bld,Af5,(43,B r4),(42,B r4),Sw,Th,Ais,(5,B r4)],[(2,(Dy a0)),(3,(Cl a1))],0⟩ (some 47) (kN (KA (Aa9 Bm L) L 9 A0u (rl [6,1]) (KE Tryz.f128 kk)))))))) a1.aY a0 a1) λo10=>Oq Bm L o10) (λr5=>hq (Ar7 Bm L (Md (Aa9 Bm L) L 8 2 3 A0v.u.l ⟨[(6,Ana),(5,lv (.dU a1.aY)),(0,lv (.dU a1.aY)),(1,Ana),Ais],[(2,(Dy a0)),(3,(Cl a1))],1004⟩ (some 7) (kN (KA (Aa9 Bm L) L 8 A0v (rl [2,1]) (KJ Tryz.f166 (Md (Aa9 Bm L) L 9 3 6 A0u.w.u.l ⟨[Af5,(46,Ana),Af5,(45,lv (.dU a1.aY)),Af5,Bld,Af5,(43,B r5),(42,B r5),Sw,Th,Ais,(5,B r5)],[(2,(Dy a0)),(3,(Cl a1))],0⟩ (some 47) (kN (KA (Aa9 Bm L) L 9 A0u (rl [6,1]) (KE Tryz.f128 kk)))))))) a1.aY a0 a1) λo11=>Ot Bm L o11) (λr6=>hq (Ar7 Bm L (Md (Aa9 Bm L) L 8 2 3 A0v.u.l ⟨[(6,Ana),(5,lv (.dU a1.aY)),(0,lv (.dU a1.aY)),(1,Ana),Ais],[(2,(Dy a0)),(3,(Cl a1))],1004⟩ (some 7) (kN (KA (Aa9 Bm L) L 8 A0v (rl [2,1]) (KJ Tryz.f166 (Md (Aa9 Bm L) L 9 3 6 A0u.w.u.l ⟨[Af5,(46,Ana),Af5,(45,lv (.dU a1.aY)),Af5,Bld,Af5,(43,B r6),(42,B r6),Sw,Th,Ais,(5,B r6)],[(2,(Dy a0)),(3,(Cl a1))],0⟩ (some 47) (kN (KA (Aa9 Bm L) L 9 A0u (rl [6,1]) (KE Tryz.f128 kk)))))))) a1.aY a0 a1) λo12=>Ou Bm L o12) (λr7 r8=>hq (Ar7 Bm L (Md (Aa9 Bm L) L 8 2 3 A0v.u.l ⟨[(6,Ana),(5,lv (.dU a1.aY)),(0,lv (.dU a1.aY)),(1,Ana),Ais],[(2,(Dy a0)),(3,(Cl a1))],1004⟩ (some 7) (kN (KA (Aa9 Bm L) L 8 A0v (rl [2,1]) (KJ Tryz.f166 (Md (Aa9 Bm L) L 9 3 6 A0u.w.u.l ⟨[Af5,(46,Ana),Af5,(45,lv (.dU a1.aY)),Af5,Bld,Af5,(43,B (decide (a1.N<(Bu (r7+r8))))),(42,B (decide (a1.N<(Bu (r7+r8))))),Sw,Th,Ais,(5,B (decide (a1.N<(Bu (r7+r8)))))],[(2,(Dy a0)),(3,(Cl a1))],0⟩ (some 47) (kN (KA (Aa9 Bm L) L 9 A0u (rl [6,1]) (KE Tryz.f128 kk)))))))) a1.aY a0 a1) λo13=>Ov Bm L o13) (hq (Ar7 Bm L (Md (Aa9 Bm L) L 8 2 3 A0v.u.l ⟨[(6,Ana),(5,lv (.dU a1.aY)),(0,lv (.dU a1.aY)),(1,Ana),Ais],[(2,(Dy a0)),(3,(Cl a1))],1004⟩ (some 7) (kN (KA (Aa9 Bm L) L 8 A0v (rl [2,1]) (KJ Tryz.f166 (Md (Aa9 Bm L) L 9 3 6 A0u.w.u.l ⟨[Af5,(46,Ana),Af5,(45,lv (.dU a1.aY)),Af5,Bld,Af5,Af5,(42,B true),Sw,Th,Ais,(5,B true)],[(2,(Dy a0)),(3,(Cl a1))],0⟩ (some 47) (kN (KA (Aa9 Bm L) L 9 A0u (rl [6,1]) (KE Tryz.f128 kk)))))))) a1.aY a0 a1) λo14=>Ow Bm L o14))) h
def C5:Nat->Av->Ab->Option Bool
 |0,_,_=>none
 |L+1,a0,a1=>Zd (C5 L) L a0 a1
theorem Bsd(L:Nat):Bho (C5 L):=by
 induction L with
 |zero=>exact λ_ _ _ h=>(by cases h)
 |succ L ih=>
  have i128:=ih;exact Cap (C5 L) i128 L
def B89(L:Nat):F3:=E2 B 128 S2 Bi (C5 L) (Bsd L)
def c64:=CC Tryz.f64
def O64:Bc:=oL [B4r L,B85 L,Byz L,B86 L,B87 L,B88 L,B89 L,By0 L]
def B3y(r9:List Ab)(a0:Av)(a1:Aq)(v:Jc):St:=⟨[(0,.any),(1,.any),Sw,Th,(4,I v.1),Bhj,(6,.any),(7,.any),(8,.any),(42,.any),(44,.any),(101,lv (.dU r9)),(102,I (r9.length:Int)),(103,I v.2)],[(2,(Dy a0)),(3,(Ro a1)),(5,(Az8 (gD gl0 a1.Op)))],0⟩
def Nb [An A C3](r9:List Ab)(a0:Av)(a1:Aq)(rec:Int->Int->A)(Ah:Int)(Af:Int):A:=
 (lw Af r9
 (bd (Iv L (Ab.cp (gD r9 Af))) λr10=>
 (cn (r10 != 0)
 (lf (0,r10,Af))
 (bd (C5 L (⟨(⟨a0.bJ.aF,a0.bJ.aA,a0.bJ.aH⟩:Ac),a0.aS,a0.u_c⟩:Av) (Ab.cp (gD r9 Af))) λr11=>
 (cn (!r11)
 (lf (0,2,Af))
 (rec Ah (Bu (Af+1)))))))
 (lf (1,Ah,Af)))
def Cv(L:Nat)(r9:List Ab)(a0:Av)(a1:Aq):Nat->Int->Int->Option C3
 |0,_,_=>none
 |n+1,Ah,Af=>Nb L r9 a0 a1 (Cv L r9 a0 a1 n) Ah Af
theorem Bgd(r9:List Ab)(a0:Av)(a1:Aq):LP (EV (O64 L) L 9 c64.x.w.l.u.l.l) [0,1,2,3,4,5,6,7,8,42,44,101,102,103] [2,3,5] (B3y r9 a0 a1) [.ret,.exit 4] (λn v=>Cv L r9 a0 a1 n v.1 v.2) K:=lE (λ_=>rfl) λn v ih=>eE (Nb L r9 a0 a1 (λAh Af=>re (ih (Ah,Af))) v.1 v.2)
def Abe [An A Int](a1:Aq)(o17:Nat×Jc):A:=
 (sl o17.1 [(lf o17.2.1),
 (cn ((gD gl0 a1.Op).bO)
 (bd (F4 L a1.bE) λr18=>
 (lf r18))
 (lf 0))])
def Abf [An A Int](a1:Aq)(o19:Nat×Jc):A:=
 (sl o19.1 [(lf o19.2.1),
 (cn ((gD gl0 a1.Op).bO)
 (bd (F4 L a1.bE) λr20=>
 (lf r20))
 (lf 0))])
def Td [An A Int](a1:Aq)(o21:Nat×Jc):A:=
 (sl o21.1 [(lf o21.2.1),
 (cn ((gD gl0 a1.Op).bO)
 (bd (F4 L a1.bE) λr22=>
 (lf r22))
 (lf 0))])
def Tg [An A Int](a0:Av)(a1:Aq)(nx1:(List Ab)->A)(nx2:(List Ab)->A)(nx3:(List Ab)->A):A:=
 (bd (Zl L a1.Op) λr1=>
 (jb (.cn (!r1)
 (.lf true)
 (.bd (Zk L (⟨a1.Op,a1.A,a1.B,a1.C,(Ab.cp a1.E),(Ab.cp a1.F),a1.aM,a1.bE,a1.bU⟩:Aq)) λr3=>
 (.lf (!r3)))) (λb2=>
 (cn b2
 (lf 1)
 (gi a1.Op gl0
 (bd (Cy L (⟨(⟨a0.bJ.aF,a0.bJ.aA,a0.bJ.aH⟩:Ac),a0.aS,a0.u_c⟩:Av) ((gD gl0 a1.Op).fU) a1.A 0) λr4=>
 (jp (.cn (!r4)
 (.lf ((gD gl0 a1.Op).fU != 0))
 (.lf false)) (λb5=>
 (cn b5
 (lf 2)
 (cn (a1.Op == 14)
 (bd (Ahc L (⟨a0.bJ.aF,a0.bJ.aA,a0.bJ.aH⟩:Ac) a0.aS a1.A) λr6=>
 (jp (.cn (!r6.2)
 (.lf true)
 (.lf (r6.1 != a1.C))) (λb7=>
 (cn b7
 (lf 16)
 (bd (Cy L (⟨(⟨a0.bJ.aF,a0.bJ.aA,a0.bJ.aH⟩:Ac),a0.aS,a0.u_c⟩:Av) 10 a1.B a1.A) λr8=>
 (cn (!r8)
 (lf 2)
 (gi a1.A a0.bJ.aA
 (gi a1.B ((gD a0.bJ.aA a1.A).aD)
 (cn ((a1.aM.length:Int) != (gD ((gD a0.bJ.aA a1.A).aD) a1.B).aI)
 (lf 8)
 (bd (Eo L (⟨a1.Op,a1.A,a1.B,a1.C,(Ab.cp a1.E),(Ab.cp a1.F),a1.aM,a1.bE,a1.bU⟩:Aq)) λr9=>
 (nx1 r9)))))))))))
 (cn (a1.Op == 15)
 (bd (Cy L (⟨(⟨a0.bJ.aF,a0.bJ.aA,a0.bJ.aH⟩:Ac),a0.aS,a0.u_c⟩:Av) 10 a1.B a0.aS) λr12=>
 (cn (!r12)
 (lf 2)
 (gi a0.aS a0.bJ.aA
 (gi a1.B ((gD a0.bJ.aA a0.aS).aD)
 (cn ((a1.aM.length:Int) != (gD ((gD a0.bJ.aA a0.aS).aD) a1.B).aI)
 (lf 8)
 (bd (Eo L (⟨a1.Op,a1.A,a1.B,a1.C,(Ab.cp a1.E),(Ab.cp a1.F),a1.aM,a1.bE,a1.bU⟩:Aq)) λr13=>
 (nx2 r13)))))))
 (jb (.cn ((gD gl0 a1.Op).fZ != 0)
 (.bd (Cy L (⟨(⟨a0.bJ.aF,a0.bJ.aA,a0.bJ.aH⟩:Ac),a0.aS,a0.u_c⟩:Av) ((gD gl0 a1.Op).fZ) a1.B 0) λr15=>
 (.lf (!r15)))
 (.lf false)) (λb14=>
 (cn b14
 (lf 2)
 (bd (Eo L (⟨a1.Op,a1.A,a1.B,a1.C,(Ab.cp a1.E),(Ab.cp a1.F),a1.aM,a1.bE,a1.bU⟩:Aq)) λr16=>
 (nx3 r16))))))))))))))))
def Ahk [An A Int](a0:Av)(a1:Aq):A:=Tg L a0 a1 (λr9=>bd (Cv L r9 a0 a1 L 0 0) λo17=>Abe L a1 o17) (λr13=>bd (Cv L r13 a0 a1 L 0 0) λo19=>Abf L a1 o19) (λr16=>bd (Cv L r16 a0 a1 L 0 0) λo21=>Td L a1 o21)
def Iu(a0:Av)(a1:Aq):Option Int:=Ahk L a0 a1
def X64:F3:=E2 I 64 S2 Oc (Iu L) λa0 a1 r h=>hF Tryz.func64 (C:=O64 L) (oS _) L (λkk=>eE (Tg L a0 a1 (λr9=>hq (Bgd L (KA (O64 L) L 9 c64 (rl [12,1,2,1]) (KE Tryz.f64 kk)) r9 a0 a1 L (0,0)) λo17=>Abe L a1 o17) (λr13=>hq (Bgd L (KA (O64 L) L 9 c64 (rl [12,1,2,1]) (KE Tryz.f64 kk)) r13 a0 a1 L (0,0)) λo19=>Abf L a1 o19) (λr16=>hq (Bgd L (KA (O64 L) L 9 c64 (rl [12,1,2,1]) (KE Tryz.f64 kk)) r16 a0 a1 L (0,0)) λo21=>Td L a1 o21))) h
def c39:=CC Tryz.f39
def O39:Bc:=oL [X35 L,X64 L]
def B3i(a2:Ap)(a0:Ac)(a1:Int)(v:Jc):St:=⟨[(0,.any),(1,.any),(2,.any),(3,.any),Bhj,(6,I v.1),(7,.any),Bbt,Bbw,(28,.any),(49,.any),(54,.any),(64,lv (.eU a2.aP)),(65,I (a2.aP.length:Int)),(66,I v.2)],[(3,(Cm a0)),(5,(Abq a2)),(8,[S a0.aF,lv (.t69 a0.aA),lv (.t127 a0.aH),I a1,S a2.aF,I a2.aI,I a2.dD,lv (.eU a2.aP)])],0⟩
def Tm [An A C3](a2:Ap)(a0:Ac)(a1:Int)(rec:Int->Int->A)(Ah:Int)(Af:Int):A:=
 (lw Af a2.aP
 (bd (Iu L (⟨(⟨a0.aF,a0.aA,a0.aH⟩:Ac),a1,a2⟩:Av) (⟨(gD a2.aP Af).Op,(gD a2.aP Af).A,(gD a2.aP Af).B,(gD a2.aP Af).C,(Ab.cp ((gD a2.aP Af).E)),(Ab.cp ((gD a2.aP Af).F)),(gD a2.aP Af).aM,((gD a2.aP Af).bE),(gD a2.aP Af).bU⟩:Aq)) λr6=>
 (cn (r6 != 0)
 (lf (0,r6,Af))
 (rec Ah (Bu (Af+1)))))
 (lf (1,Ah,Af)))
def H8(L:Nat)(a2:Ap)(a0:Ac)(a1:Int):Nat->Int->Int->Option C3
 |0,_,_=>none
 |n+1,Ah,Af=>Tm L a2 a0 a1 (H8 L a2 a0 a1 n) Ah Af
theorem B1i(a2:Ap)(a0:Ac)(a1:Int):LP (EV (O39 L) L 9 c39.x.u.l.u.l.l) [0,1,2,3,5,6,7,8,12,28,49,54,64,65,66] [3,5,8] (B3i a2 a0 a1) [.ret,.exit 1] (λn v=>H8 L a2 a0 a1 n v.1 v.2) K:=lE (λ_=>rfl) λn v ih=>eE (Tm L a2 a0 a1 (λAh Af=>re (ih (Ah,Af))) v.1 v.2)
def Ts [An A Int](L:Nat)(a2:Ap)(o7:Nat×Jc):A:=
 (sl o7.1 [(lf o7.2.1),
 (gi (Bu ((a2.aP.length:Int)-1)) a2.aP
 (jp (.cn ((gD a2.aP (Bu ((a2.aP.length:Int)-1))).Op != 19)
 (.lf ((gD a2.aP (Bu ((a2.aP.length:Int)-1))).Op != 4))
 (.lf false)) (λb8=>
 (cn b8
 (lf 8)
 (lf 0)))))])
def T0 [An A Int](a0:Ac)(a1:Int)(a2:Ap)(nx1:A):A:=
 (jp (.cn (decide (a1<0))
 (.lf true)
 (.lf (decide (a1>=(a0.aA.length:Int))))) (λb1=>
 (cn b1
 (lf 2)
 (bd (Cu L a2.aF) λr2=>
 (cn (r2 != 0)
 (lf r2)
 (jp (.cn (decide (a2.aI<0))
 (.lf true)
 (.lf (decide (a2.aI>a2.dD)))) (λb3=>
 (jp (.cn b3
 (.lf true)
 (.lf (decide (a2.aI>6)))) (λb4=>
 (jp (.cn b4
 (.lf true)
 (.lf (decide (a2.dD>16)))) (λb5=>
 (cn b5
 (lf 2)
 (cn ((a2.aP.length:Int) == 0)
 (lf 7)
 (cn (decide ((a2.aP.length:Int)>1000))
 (lf 6)
 nx1))))))))))))))
def Aqr [An A Int](a0:Ac)(a1:Int)(a2:Ap):A:=T0 L a0 a1 a2 (bd (H8 L a2 a0 a1 L 0 0) λo7=>Ts L a2 o7)
def Qh(a0:Ac)(a1:Int)(a2:Ap):Option Int:=Aqr L a0 a1 a2
def X39:F3:=E3 I 39 B7 (cI .i64) Oa (Qh L) λa0 a1 a2 r h=>hF Tryz.func39 (C:=O39 L) (oS _) L (λkk=>eE (T0 L a0 a1 a2 (hq (B1i L (KA (O39 L) L 9 c39 (rl [10,1,2,1]) (KE Tryz.f39 kk)) a2 a0 a1 L (0,0)) λo7=>Ts L a2 o7))) h
def c20:=CC Tryz.f20
def O20:Bc:=oL [X35 L,X36 L,X37 L,X38 L,X39 L]
def B2s(a0:Ac)(v:Tu4):St:=⟨[(0,.any),zq7,(2,I v.1),(3,.any),(4,.mp 30),(8,.any),(9,.any),(10,.any),Bbw,(13,.any),(20,.any),(25,.any),(32,lv (.t69 a0.aA)),(33,I (a0.aA.length:Int)),(34,I v.2.1),(71,.any),(79,.any)],[(1,(Cm a0)),(30,[.aO false false (.t9 v.2.2.1) (.t4 v.2.2.2)])],0⟩
def Xf [An A Po](a0:Ac)(rec:Int->Int->List Yb->List Bool->A)(Ah:Int)(Af:Int)(Dg:List Yb)(Bq:List Bool):A:=
 (lw Af a0.aA
 (bd (Sy L (⟨a0.aF,[],[((gD a0.aA Af).aK)],[]⟩:Ai)) λr2=>
 (cn (r2 != 0)
 (lf (0,r2,Af,Dg,Bq))
 (fq (Dg.findIdx? λb=>(gD a0.aA Af).aK.aF == b) (λi3=>
 (cn (Bq.getD i3 default)
 (lf (0,4,Af,Dg,Bq))
 (bd (Ll L (⟨((gD a0.aA Af).aK),(gD a0.aA Af).aD⟩:Az)) λr4=>
 (cn (!r4)
 (lf (0,8,Af,Dg,Bq))
 (fq (Dg.findIdx? λb=>(gD a0.aA Af).aK.aF == b) (λi5=>
 (rec Ah (Bu (Af+1)) Dg (Bq.set i5 true)))
 (rec Ah (Bu (Af+1)) (Dg++ [(gD a0.aA Af).aK.aF]) (Bq++ [true])))))))
 (bd (Ll L (⟨((gD a0.aA Af).aK),(gD a0.aA Af).aD⟩:Az)) λr6=>
 (cn (!r6)
 (lf (0,8,Af,Dg,Bq))
 (fq (Dg.findIdx? λb=>(gD a0.aA Af).aK.aF == b) (λi7=>
 (rec Ah (Bu (Af+1)) Dg (Bq.set i7 true)))
 (rec Ah (Bu (Af+1)) (Dg++ [(gD a0.aA Af).aK.aF]) (Bq++ [true]))))))))
 (lf (1,Ah,Af,Dg,Bq)))
def J9(L:Nat)(a0:Ac):Nat->Int->Int->List Yb->List Bool->Option Po
 |0,_,_,_,_=>none
 |n+1,Ah,Af,Dg,Bq=>Xf L a0 (J9 L a0 n) Ah Af Dg Bq
theorem B0t(a0:Ac):LP (EV (O20 L) L 9 c20.x.l.u.l.l) [0,1,2,3,4,8,9,10,12,13,20,25,32,33,34,71,79] [1,30] (B2s a0) [.ret,.exit 1] (λn v=>J9 L a0 n v.1 v.2.1 v.2.2.1 v.2.2.2) K:=lE (λ_=>rfl) λn v ih=>eE (Xf L a0 (λAh Af Dg Bq=>re (ih (Ah,Af,Dg,Bq))) v.1 v.2.1 v.2.2.1 v.2.2.2)
def B2u(Bp:Int)(a0:Ac)(o8:Nat×Tu4)(v:Jc):St:=⟨[(0,.any),zq7,(2,I v.1),(3,.any),(4,.any),(6,.any),(7,.any),(8,.any),(9,I Bp),(10,.loc 10 0),(20,.any),(25,.any),(34,.any),(48,.any),(54,.any),(69,lv (.t69 a0.aA)),(70,I (a0.aA.length:Int)),(71,I Bp),(77,lv (.t78 ((gD a0.aA Bp).aD))),(78,I ((gD a0.aA Bp).aD.length:Int)),(79,I v.2)],[(1,(Cm a0)),(10,[S (gD a0.aA Bp).aK.aF,lv (.dO ((gD a0.aA Bp).aK.bX)),lv (.t86 ((gD a0.aA Bp).aK.aG)),lv (.t89 ((gD a0.aA Bp).aK.aL)),lv (.eF ((gD a0.aA Bp).aK.bN)),lv (.t9 ((gD a0.aA Bp).aK.bH)),lv (.t9 ((gD a0.aA Bp).aK.bB)),lv (.t9 ((gD a0.aA Bp).aK.bG)),lv (.t9 ((gD a0.aA Bp).aK.bP)),lv (.t9 ((gD a0.aA Bp).aK.bF)),lv (.t93 ((gD a0.aA Bp).aK.aD)),lv (.eG ((gD a0.aA Bp).aK.bV)),lv (.t154 ((gD a0.aA Bp).aK.Laws)),lv (.t78 ((gD a0.aA Bp).aD))]),(30,[.aO false false (.t9 o8.2.2.2.1) (.t4 o8.2.2.2.2)])],0⟩
def Xg [An A C3](Bp:Int)(a0:Ac)(o8:Nat×Tu4)(rec:Int->Int->A)(D7:Int)(Bbl:Int):A:=
 (lw Bbl ((gD a0.aA Bp).aD)
 (bd (Qh L (⟨a0.aF,a0.aA,a0.aH⟩:Ac) Bp (gD ((gD a0.aA Bp).aD) Bbl)) λr10=>
 (cn (r10 != 0)
 (lf (0,r10,Bbl))
 (rec D7 (Bu (Bbl+1)))))
 (lf (1,D7,Bbl)))
def Ih(L:Nat)(Bp:Int)(a0:Ac)(o8:Nat×Tu4):Nat->Int->Int->Option C3
 |0,_,_=>none
 |n+1,D7,Bbl=>Xg L Bp a0 o8 (Ih L Bp a0 o8 n) D7 Bbl
theorem B0v(Bp:Int)(a0:Ac)(o8:Nat×Tu4):LP (EV (O20 L) L 9 c20.x.w.l.u.l.l.w.l.l.w.l.l) [0,1,2,3,4,6,7,8,9,10,20,25,34,48,54,69,70,71,77,78,79] [1,10,30] (B2u Bp a0 o8) [.ret,.exit 6] (λn v=>Ih L Bp a0 o8 n v.1 v.2) K:=lE (λ_=>rfl) λn v ih=>eE (Xg L Bp a0 o8 (λD7 Bbl=>re (ih (D7,Bbl))) v.1 v.2)
def B2t(a0:Ac)(o8:Nat×Tu4)(v:Jc):St:=⟨[(0,.any),zq7,(2,I v.1),(3,.any),(4,.any),(6,.any),(7,.any),(8,.any),(20,.any),(25,.any),(34,.any),(48,.any),(54,.any),(69,lv (.t69 a0.aA)),(70,I (a0.aA.length:Int)),(71,I v.2)],[(1,(Cm a0)),(30,[.aO false false (.t9 o8.2.2.2.1) (.t4 o8.2.2.2.2)])],0⟩
def Xt [An A C3](L:Nat)(Bp:Int)(rec:Int->Int->A)(o11:Nat×Jc):A:=
 (sl o11.1 [(lf (0,o11.2.1,Bp)),
 (rec o11.2.1 (Bu (Bp+1)))])
def Ye [An A C3](L:Nat)(a0:Ac)(o8:Nat×Tu4)(rec:Int->Int->A)(Bz:Int)(Bp:Int)(nx2:Int->Int->A):A:=
 (lw Bp a0.aA
 (nx2 Bp Bz)
 (lf (1,Bz,Bp)))
def Afg [An A C3](a0:Ac)(o8:Nat×Tu4)(rec:Int->Int->A)(Bz:Int)(Bp:Int):A:=Ye L a0 o8 rec Bz Bp (λBp Bz=>bd (Ih L Bp a0 o8 L Bz 0) λo11=>Xt L Bp rec o11)
def Ka(L:Nat)(a0:Ac)(o8:Nat×Tu4):Nat->Int->Int->Option C3
 |0,_,_=>none
 |n+1,Bz,Bp=>Afg L a0 o8 (Ka L a0 o8 n) Bz Bp
theorem B0u(a0:Ac)(o8:Nat×Tu4):LP (EV (O20 L) L 9 c20.x.w.l.u.l.l) [0,1,2,3,4,6,7,8,20,25,34,48,54,69,70,71] [1,30] (B2t a0 o8) [.ret,.exit 4] (λn v=>Ka L a0 o8 n v.1 v.2) K:=lE (λ_=>rfl) λn v ih=>eE (Ye L a0 o8 (λBz Bp=>re (ih (Bz,Bp))) v.1 v.2 (λBp Bz=>hq (B0v L (KA (O20 L) L 9 c20.x.w.l.u.l.l (rl [4,2,4,1]) (Hf (Io (EV (O20 L) L 9 c20.x.w.l.u.l.l) [0,1,2,3,4,6,7,8,20,25,34,48,54,69,70,71] [1,30] n) [0,1,2,3,4,6,7,8,20,25,34,48,54,69,70,71] [1,30] K)) Bp a0 o8 L (Bz,0)) λo11=>Xt L Bp (λBz Bp=>re (ih (Bz,Bp))) o11))
def Xu [An A Int](L:Nat)(o12:Nat×Jc):A:=
 (sl o12.1 [(lf o12.2.1),
 (lf 0)])
def Yf [An A Int](a0:Ac)(o8:Nat×Tu4)(nx3:Po->A):A:=
 (sl o8.1 [(lf o8.2.1),
 (bd (Aeg L (⟨a0.aF,a0.aA,a0.aH⟩:Ac)) λr9=>
 (cn (r9 != 0)
 (lf r9)
 (nx3 o8)))])
def Afx [An A Int](a0:Ac)(o8:Nat×Tu4):A:=Yf L a0 o8 (λo8=>bd (Ka L a0 o8 L o8.2.1 0) λo12=>Xu L o12)
def Yd [An A Int](a0:Ac)(nx1:A):A:=
 (bd (Cu L a0.aF) λr1=>
 (cn (r1 != 0)
 (lf r1)
 (cn ((a0.aA.length:Int) == 0)
 (lf 7)
 (cn (decide ((a0.aA.length:Int)>16))
 (lf 6)
 nx1))))
def Auy [An A Int](a0:Ac):A:=Yd L a0 (bd (J9 L a0 L 0 0 [] []) λo8=>Afx L a0 o8)
def U7(a0:Ac):Option Int:=Auy L a0
def X20:F3:=E1 I 20 B7 (U7 L) λa0 r h=>hF Tryz.func20 (C:=O20 L) (oS _) L (λkk=>eE (Yd L a0 (hq (B0t L (KA (O20 L) L 9 c20 (rl [8,1,2,1]) (KE Tryz.f20 kk)) a0 L (0,0,[],[])) λo8=>Yf L a0 o8 (λo8=>hq (B0u L (KA (O20 L) L 9 c20 (rl [12,1,2,1]) (KE Tryz.f20 kk)) a0 o8 L (o8.2.1,0)) λo12=>Xu L o12)))) h
def Akd [An A Bool](L:Nat)(a0:Ac)(a1:Int)(a2:Int):A:=
 (jp (.cn (decide (a1<0))
 (.lf true)
 (.lf (decide (a1>=(a0.aA.length:Int))))) (λb1=>
 (jp (.cn b1
 (.lf true)
 (.lf (decide (a2<0)))) (λb2=>
 (jp (.cn b2
 (.lf true)
 (.lf (decide (a2>1000000000)))) (λb3=>
 (lf b3)))))))
def Sx(a0:Ac)(a1:Int)(a2:Int):Option Bool:=Akd L a0 a1 a2
def X21:F3:=E3 B 21 B7 (cI .i64) (cI .i64) (Sx L) λa0 a1 a2 r h=>hF Tryz.func21 (oS []) L (λkk=>eE (Akd L a0 a1 a2)) h
end
end Go.Proofs.YthjhkpgonleelaaGreatDoor.Ev
