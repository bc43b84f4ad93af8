import Derived.Test.YthjhkpgonleelaaGreatDoorDG1
import Derived.Test.YthjhkpgonleelaaGreatDoorDG5
set_option maxRecDepth 100000
set_option maxHeartbeats 4000000
set_option linter.unusedVariables false
set_option linter.unusedSimpArgs false
set_option linter.unnecessarySimpa false
namespace Go.Proofs.YthjhkpgonleelaaGreatDoor.Ev
open Go An
noncomputable section
variable {A:Type} (L n:Nat) (kk:Lr) (K:Ei) (k:Dj)
def Bje(F:Av->Ab->Option Bool):Prop:=∀y0 y1 r,F y0 y1=some r->Ho Tryz.prog 128 [Ts.en y0,Bi.en y1] B r
def A14:=CC Tryz.f166
def B8h:=CC Tryz.f196
def A13:=CC Tryz.f128
def Acj(Bn:Av->Ab->Option Bool)(L:Nat):Bc:=(orc 128 (A2 B Ts Bi Bn) (oL [B0y L,B06 L]))
theorem Cea(Bn:Av->Ab->Option Bool)(Boo:Bje Bn)(L:Nat):Dl Tryz.prog (Acj Bn L):=(Er (a2 _ Boo) (oS [B0y L,B06 L]))
def Bxh(p1_0:List Ab)(p1_1:Av)(p1_2:Ab)(v:Js):St:=⟨[(0,lv (.dU p1_0)),(1,Aoc),(4,I v.1),(7,I (p1_0.length:Int)),(8,I v.2)],[(2,(Dz p1_1)),(3,(Cl p1_2))],1004⟩
def O3 [An A C3](Bn:Av->Ab->Option Bool)(L:Nat)(p1_0:List Ab)(p1_1:Av)(p1_2:Ab)(rec:Int->Int->A)(Ag:Int)(Af:Int):A:=
 (lw Af p1_0
 (bd (Bn (⟨(⟨p1_1.bM.aF,p1_1.bM.aA,p1_1.bM.aH⟩:Ac),p1_1.aS,p1_1.u_c⟩:Av) (Ab.cp (gD p1_0 Af))) λr2=>
 (cn (!r2)
 (lf (0,Af,Af))
 (rec Ag (Bs (Af+1)))))
 (lf (1,Ag,Af)))
def Gq(Bn:Av->Ab->Option Bool)(L:Nat)(p1_0:List Ab)(p1_1:Av)(p1_2:Ab):Nat->Int->Int->Option C3
 |0,_,_=>none
 |n+1,Ag,Af=>O3 Bn L p1_0 p1_1 p1_2 (Gq Bn L p1_0 p1_1 p1_2 n) Ag Af
theorem Bvt(Bn:Av->Ab->Option Bool)(L:Nat)(K:Ei)(p1_0:List Ab)(p1_1:Av)(p1_2:Ab):LP (EV (Acj Bn L) L 7 B8h.u.l.u.l.l) [0,1,4,7,8] [2,3] (Bxh p1_0 p1_1 p1_2) [.ret,.exit 0] (λn v=>Gq Bn L p1_0 p1_1 p1_2 n v.1 v.2) K:=lE (λ_=>rfl) λn v ih=>eE (O3 Bn L p1_0 p1_1 p1_2 (λAg Af=>re (ih (Ag,Af))) v.1 v.2)
def Brz(p1_0:List Ab)(p1_1:Av)(p1_2:Ab)(k:Dj):Int->Prop:=λo=>k (I o) [(2,(Dz p1_1)),(3,(Cl p1_2))]
def Vw [An A Int](Bn:Av->Ab->Option Bool)(L:Nat)(o3:Nat×Js):A:=
 (sl o3.1 [(lf o3.2.1),
 (lf (-1))])
def Af1 [An A Int](Bn:Av->Ab->Option Bool)(L:Nat)(p1_0:List Ab)(p1_1:Av)(p1_2:Ab):A:=(bd (Gq Bn L p1_0 p1_1 p1_2 L 0 0) λo3=>Vw Bn L o3)
def D0(Bn:Av->Ab->Option Bool)(L:Nat)(p1_0:List Ab)(p1_1:Av)(p1_2:Ab):Option Int:=Af1 Bn L p1_0 p1_1 p1_2
theorem As7(Bn:Av->Ab->Option Bool)(L:Nat)(k:Dj)(p1_0:List Ab)(p1_1:Av)(p1_2:Ab):YO (Acj Bn L) L 8 196 [lv (.dU p1_0),Aoc] [(2,(Dz p1_1)),(3,(Cl p1_2))] k=ob (D0 Bn L p1_0 p1_1 p1_2) (Brz p1_0 p1_1 p1_2 k):=(C4 _ _ _ jn4 _ _ _ _ _ _ _).trans (eE ((hq (Bvt Bn L (KA (Acj Bn L) L 7 B8h (rl [2,1,2,1]) (KJ Tryz.f196 k)) p1_0 p1_1 p1_2 L (0,0)) λo3=>Vw Bn L o3)))
def Po [An A Bool](Bn:Av->Ab->Option Bool)(L:Nat)(o9:Int):A:=
 (nq (lf (!(decide (o9>=0)))))
def Pp [An A Bool](Bn:Av->Ab->Option Bool)(L:Nat)(o10:Int):A:=
 (nq (lf (!(decide (o10>=0)))))
def Pq [An A Bool](Bn:Av->Ab->Option Bool)(L:Nat)(o11:Int):A:=
 (nq (lf (!(decide (o11>=0)))))
def Pr [An A Bool](Bn:Av->Ab->Option Bool)(L:Nat)(o12:Int):A:=
 (nq (lf (!(decide (o12>=0)))))
def Ps [An A Bool](Bn:Av->Ab->Option Bool)(L:Nat)(o13:Int):A:=
 (nq (lf (!(decide (o13>=0)))))
def Pt [An A Bool](Bn:Av->Ab->Option Bool)(L:Nat)(o14:Int):A:=
 (nq (lf (!(decide (o14>=0)))))
def P0 [An A Bool](Bn:Av->Ab->Option Bool)(L:Nat)(a0:Av)(a1:Ab)(nx3:Bool->A)(nx4:Bool->A)(nx5:Bool->A)(nx6:Bool->A)(nx7:Int->Int->A)(nx8:A):A:=
 (cn (a1.Op == 25)
 (bd (C0 L (⟨(⟨a0.bM.aF,a0.bM.aA,a0.bM.aH⟩:Ac),a0.aS,a0.u_c⟩:Av) 1 a1.N 0) λr1=>
 (cn r1
 (nx3 r1)
 (nq (lf false))))
 (cn (a1.Op == 26)
 (bd (C0 L (⟨(⟨a0.bM.aF,a0.bM.aA,a0.bM.aH⟩:Ac),a0.aS,a0.u_c⟩:Av) 2 a1.N 0) λr4=>
 (cn r4
 (nx4 r4)
 (nq (lf false))))
 (cn (a1.Op == 22)
 (bd (C0 L (⟨(⟨a0.bM.aF,a0.bM.aA,a0.bM.aH⟩:Ac),a0.aS,a0.u_c⟩:Av) 5 a1.N 0) λr5=>
 (cn r5
 (nx5 r5)
 (nq (lf false))))
 (cn (a1.Op == 23)
 (bd (C0 L (⟨(⟨a0.bM.aF,a0.bM.aA,a0.bM.aH⟩:Ac),a0.aS,a0.u_c⟩:Av) 6 a1.N 0) λr6=>
 (cn r6
 (nx6 r6)
 (nq (lf false))))
 (cn (a1.Op == 24)
 (bd (Hj L (⟨(⟨a0.bM.aF,a0.bM.aA,a0.bM.aH⟩:Ac),a0.aS,a0.u_c⟩:Av) 5 0) λr7=>
 (bd (Hj L (⟨(⟨a0.bM.aF,a0.bM.aA,a0.bM.aH⟩:Ac),a0.aS,a0.u_c⟩:Av) 8 0) λr8=>
 (cn (decide (a1.N<(Bs (r7+r8))))
 (nx7 r7 r8)
 (nq (lf false)))))
 nx8)))))
def Akg [An A Bool](Bn:Av->Ab->Option Bool)(L:Nat)(a0:Av)(a1:Ab):A:=P0 Bn L a0 a1 (λr1=>bd (D0 Bn L a1.aY a0 a1) λo9=>Po Bn L o9) (λr4=>bd (D0 Bn L a1.aY a0 a1) λo10=>Pp Bn L o10) (λr5=>bd (D0 Bn L a1.aY a0 a1) λo11=>Pq Bn L o11) (λr6=>bd (D0 Bn L a1.aY a0 a1) λo12=>Pr Bn L o12) (λr7 r8=>bd (D0 Bn L a1.aY a0 a1) λo13=>Ps Bn L o13) (bd (D0 Bn L a1.aY a0 a1) λo14=>Pt Bn L o14)
def d9(Bn:Av->Ab->Option Bool)(L:Nat)(a0:Av)(a1:Ab):Option Bool:=Akg Bn L a0 a1
theorem Ccr(Bn:Av->Ab->Option Bool)(Boo:Bje Bn)(L:Nat):Bje (d9 Bn L):=λa0 a1 r h=>hF Tryz.func128 (Cea Bn Boo L) L (λkk=>eE (P0 Bn L a0 a1 (λr1=>hq (As7 Bn L (Mx (Acj Bn L) L 8 2 3 A14.u.l ⟨[(6,Aoc),(5,lv (.dU a1.aY)),(0,lv (.dU a1.aY)),(1,Aoc),Aj7],[(2,(Dz a0)),(3,(Cl a1))],1004⟩ (some 7) (kN (KA (Acj Bn L) L 8 A14 (rl [2,1]) (KJ Tryz.f166 (Mx (Acj Bn L) L 9 3 6 A13.w.u.l ⟨[Ahi,(46,Aoc),Ahi,(45,lv (.dU a1.aY)),Ahi,Bm7,Ahi,(43,B r1),(42,B r1),Tp,T4,Aj7,(5,B r1)],[(2,(Dz a0)),(3,(Cl a1))],0⟩ (some 47) (kN (KA (Acj Bn L) L 9 A13 (rl [6,1]) (KE Tryz.f128 kk)))))))) a1.aY a0 a1) λo9=>Po Bn L o9) (λr4=>hq (As7 Bn L (Mx (Acj Bn L) L 8 2 3 A14.u.l ⟨[(6,Aoc),(5,lv (.dU a1.aY)),(0,lv (.dU a1.aY)),(1,Aoc),Aj7],[(2,(Dz a0)),(3,(Cl a1))],1004⟩ (some 7) (kN (KA (Acj Bn L) L 8 A14 (rl [2,1]) (KJ Tryz.f166 (Mx (Acj Bn L) L 9 3 6 A13.w.u.l ⟨[Ahi,(46,Aoc),Ahi,(45,lv (.dU a1.aY)),Ahi,Bm7,Ahi,(43,B r4),(42,B r4),Tp,T4,Aj7,(5,B r4)],[(2,(Dz a0)),(3,(Cl a1))],0⟩ (some 47) (kN (KA (Acj Bn L) L 9 A13 (rl [6,1]) (KE Tryz.f128 kk)))))))) a1.aY a0 a1) λo10=>Pp Bn L o10) (λr5=>hq (As7 Bn L (Mx (Acj Bn L) L 8 2 3 A14.u.l ⟨[(6,Aoc),(5,lv (.dU a1.aY)),(0,lv (.dU a1.aY)),(1,Aoc),Aj7],[(2,(Dz a0)),(3,(Cl a1))],1004⟩ (some 7) (kN (KA (Acj Bn L) L 8 A14 (rl [2,1]) (KJ Tryz.f166 (Mx (Acj Bn L) L 9 3 6 A13.w.u.l ⟨[Ahi,(46,Aoc),Ahi,(45,lv (.dU a1.aY)),Ahi,Bm7,Ahi,(43,B r5),(42,B r5),Tp,T4,Aj7,(5,B r5)],[(2,(Dz a0)),(3,(Cl a1))],0⟩ (some 47) (kN (KA (Acj Bn L) L 9 A13 (rl [6,1]) (KE Tryz.f128 kk)))))))) a1.aY a0 a1) λo11=>Pq Bn L o11) (λr6=>hq (As7 Bn L (Mx (Acj Bn L) L 8 2 3 A14.u.l ⟨[(6,Aoc),(5,lv (.dU a1.aY)),(0,lv (.dU a1.aY)),(1,Aoc),Aj7],[(2,(Dz a0)),(3,(Cl a1))],1004⟩ (some 7) (kN (KA (Acj Bn L) L 8 A14 (rl [2,1]) (KJ Tryz.f166 (Mx (Acj Bn L) L 9 3 6 A13.w.u.l ⟨[Ahi,(46,Aoc),Ahi,(45,lv (.dU a1.aY)),Ahi,Bm7,Ahi,(43,B r6),(42,B r6),Tp,T4,Aj7,(5,B r6)],[(2,(Dz a0)),(3,(Cl a1))],0⟩ (some 47) (kN (KA (Acj Bn L) L 9 A13 (rl [6,1]) (KE Tryz.f128 kk)))))))) a1.aY a0 a1) λo12=>Pr Bn L o12) (λr7 r8=>hq (As7 Bn L (Mx (Acj Bn L) L 8 2 3 A14.u.l ⟨[(6,Aoc),(5,lv (.dU a1.aY)),(0,lv (.dU a1.aY)),(1,Aoc),Aj7],[(2,(Dz a0)),(3,(Cl a1))],1004⟩ (some 7) (kN (KA (Acj Bn L) L 8 A14 (rl [2,1]) (KJ Tryz.f166 (Mx (Acj Bn L) L 9 3 6 A13.w.u.l ⟨[Ahi,(46,Aoc),Ahi,(45,lv (.dU a1.aY)),Ahi,Bm7,Ahi,(43,B (decide (a1.N<(Bs (r7+r8))))),(42,B (decide (a1.N<(Bs (r7+r8))))),Tp,T4,Aj7,(5,B (decide (a1.N<(Bs (r7+r8)))))],[(2,(Dz a0)),(3,(Cl a1))],0⟩ (some 47) (kN (KA (Acj Bn L) L 9 A13 (rl [6,1]) (KE Tryz.f128 kk)))))))) a1.aY a0 a1) λo13=>Ps Bn L o13) (hq (As7 Bn L (Mx (Acj Bn L) L 8 2 3 A14.u.l ⟨[(6,Aoc),(5,lv (.dU a1.aY)),(0,lv (.dU a1.aY)),(1,Aoc),Aj7],[(2,(Dz a0)),(3,(Cl a1))],1004⟩ (some 7) (kN (KA (Acj Bn L) L 8 A14 (rl [2,1]) (KJ Tryz.f166 (Mx (Acj Bn L) L 9 3 6 A13.w.u.l ⟨[Ahi,(46,Aoc),Ahi,(45,lv (.dU a1.aY)),Ahi,Bm7,Ahi,Ahi,(42,B true),Tp,T4,Aj7,(5,B true)],[(2,(Dz a0)),(3,(Cl a1))],0⟩ (some 47) (kN (KA (Acj Bn L) L 9 A13 (rl [6,1]) (KE Tryz.f128 kk)))))))) a1.aY a0 a1) λo14=>Pt Bn L o14))) h
def C5:Nat->Av->Ab->Option Bool
 |0,_,_=>none
 |L+1,a0,a1=>d9 (C5 L) L a0 a1
theorem Bt7(L:Nat):Bje (C5 L):=by
 induction L with
 |zero=>exact λ_ _ _ h=>(by cases h)
 |succ L ih=>
  have i128:=ih;exact Ccr (C5 L) i128 L
def Cbb(L:Nat):F6:=E2 B 128 Ts Bi (C5 L) (Bt7 L)
def c64:=CC Tryz.f64
def O64:Bc:=oL [B6s L,Ca7 L,B0y L,Ca8 L,Ca9 L,Cba L,Cbb L,B0z L]
def B5x(r9:List Ab)(a0:Av)(a1:Ar)(v:Js):St:=⟨[(0,.any),(1,.any),Tp,T4,(4,I v.1),Bja,(6,.any),(7,.any),(8,.any),(42,.any),(44,.any),(101,lv (.dU r9)),(102,I (r9.length:Int)),(103,I v.2)],[(2,(Dz a0)),(3,(Sc a1)),(5,(A1i (gD gl0 a1.Op)))],0⟩
def Nw [An A C3](r9:List Ab)(a0:Av)(a1:Ar)(rec:Int->Int->A)(Ai:Int)(Af:Int):A:=
 (lw Af r9
 (bd (I7 L (Ab.cp (gD r9 Af))) λr10=>
 (cn (r10 != 0)
 (lf (0,r10,Af))
 (bd (C5 L (⟨(⟨a0.bM.aF,a0.bM.aA,a0.bM.aH⟩:Ac),a0.aS,a0.u_c⟩:Av) (Ab.cp (gD r9 Af))) λr11=>
 (cn (!r11)
 (lf (0,2,Af))
 (rec Ai (Bs (Af+1)))))))
 (lf (1,Ai,Af)))
def Cx(L:Nat)(r9:List Ab)(a0:Av)(a1:Ar):Nat->Int->Int->Option C3
 |0,_,_=>none
 |n+1,Ai,Af=>Nw L r9 a0 a1 (Cx L r9 a0 a1 n) Ai Af
theorem Bh0(r9:List Ab)(a0:Av)(a1:Ar):LP (EV (O64 L) L 9 c64.x.w.l.u.l.l) [0,1,2,3,4,5,6,7,8,42,44,101,102,103] [2,3,5] (B5x r9 a0 a1) [.ret,.exit 4] (λn v=>Cx L r9 a0 a1 n v.1 v.2) K:=lE (λ_=>rfl) λn v ih=>eE (Nw L r9 a0 a1 (λAi Af=>re (ih (Ai,Af))) v.1 v.2)
def Acr [An A Int](a1:Ar)(o17:Nat×Js):A:=
 (sl o17.1 [(lf o17.2.1),
 (cn ((gD gl0 a1.Op).bR)
 (bd (F7 L a1.bF) λr18=>
 (lf r18))
 (lf 0))])
def Acs [An A Int](a1:Ar)(o19:Nat×Js):A:=
 (sl o19.1 [(lf o19.2.1),
 (cn ((gD gl0 a1.Op).bR)
 (bd (F7 L a1.bF) λr20=>
 (lf r20))
 (lf 0))])
def T0 [An A Int](a1:Ar)(o21:Nat×Js):A:=
 (sl o21.1 [(lf o21.2.1),
 (cn ((gD gl0 a1.Op).bR)
 (bd (F7 L a1.bF) λr22=>
 (lf r22))
 (lf 0))])
def T3 [An A Int](a0:Av)(a1:Ar)(nx1:(List Ab)->A)(nx2:(List Ab)->A)(nx3:(List Ab)->A):A:=
 (bd (m0 L a1.Op) λr1=>
 (jb (.cn (!r1)
 (.lf true)
 (.bd (j9 L (⟨a1.Op,a1.A,a1.B,a1.C,(Ab.cp a1.E),(Ab.cp a1.F),a1.aP,a1.bF,a1.bY⟩:Ar)) λr3=>
 (.lf (!r3)))) (λb2=>
 (cn b2
 (lf 1)
 (gi a1.Op gl0
 (bd (C0 L (⟨(⟨a0.bM.aF,a0.bM.aA,a0.bM.aH⟩:Ac),a0.aS,a0.u_c⟩:Av) ((gD gl0 a1.Op).gB) a1.A 0) λr4=>
 (jp (.cn (!r4)
 (.lf ((gD gl0 a1.Op).gB != 0))
 (.lf false)) (λb5=>
 (cn b5
 (lf 2)
 (cn (a1.Op == 14)
 (bd (Aip L (⟨a0.bM.aF,a0.bM.aA,a0.bM.aH⟩:Ac) a0.aS a1.A) λr6=>
 (jp (.cn (!r6.2)
 (.lf true)
 (.lf (r6.1 != a1.C))) (λb7=>
 (cn b7
 (lf 16)
 (bd (C0 L (⟨(⟨a0.bM.aF,a0.bM.aA,a0.bM.aH⟩:Ac),a0.aS,a0.u_c⟩:Av) 10 a1.B a1.A) λr8=>
 (cn (!r8)
 (lf 2)
 (gi a1.A a0.bM.aA
 (gi a1.B ((gD a0.bM.aA a1.A).aD)
 (cn ((a1.aP.length:Int) != (gD ((gD a0.bM.aA a1.A).aD) a1.B).aJ)
 (lf 8)
 (bd (Es L (⟨a1.Op,a1.A,a1.B,a1.C,(Ab.cp a1.E),(Ab.cp a1.F),a1.aP,a1.bF,a1.bY⟩:Ar)) λr9=>
 (nx1 r9)))))))))))
 (cn (a1.Op == 15)
 (bd (C0 L (⟨(⟨a0.bM.aF,a0.bM.aA,a0.bM.aH⟩:Ac),a0.aS,a0.u_c⟩:Av) 10 a1.B a0.aS) λr12=>
 (cn (!r12)
 (lf 2)
 (gi a0.aS a0.bM.aA
 (gi a1.B ((gD a0.bM.aA a0.aS).aD)
 (cn ((a1.aP.length:Int) != (gD ((gD a0.bM.aA a0.aS).aD) a1.B).aJ)
 (lf 8)
 (bd (Es L (⟨a1.Op,a1.A,a1.B,a1.C,(Ab.cp a1.E),(Ab.cp a1.F),a1.aP,a1.bF,a1.bY⟩:Ar)) λr13=>
 (nx2 r13)))))))
 (jb (.cn ((gD gl0 a1.Op).gF != 0)
 (.bd (C0 L (⟨(⟨a0.bM.aF,a0.bM.aA,a0.bM.aH⟩:Ac),a0.aS,a0.u_c⟩:Av) ((gD gl0 a1.Op).gF) a1.B 0) λr15=>
 (.lf (!r15)))
 (.lf false)) (λb14=>
 (cn b14
 (lf 2)
 (bd (Es L (⟨a1.Op,a1.A,a1.B,a1.C,(Ab.cp a1.E),(Ab.cp a1.F),a1.aP,a1.bF,a1.bY⟩:Ar)) λr16=>
 (nx3 r16))))))))))))))))
def Aix [An A Int](a0:Av)(a1:Ar):A:=T3 L a0 a1 (λr9=>bd (Cx L r9 a0 a1 L 0 0) λo17=>Acr L a1 o17) (λr13=>bd (Cx L r13 a0 a1 L 0 0) λo19=>Acs L a1 o19) (λr16=>bd (Cx L r16 a0 a1 L 0 0) λo21=>T0 L a1 o21)
def I6(a0:Av)(a1:Ar):Option Int:=Aix L a0 a1
def X64:F6:=E2 I 64 Ts Oz (I6 L) λa0 a1 r h=>hF Tryz.func64 (C:=O64 L) (oS _) L (λkk=>eE (T3 L a0 a1 (λr9=>hq (Bh0 L (KA (O64 L) L 9 c64 (rl [12,1,2,1]) (KE Tryz.f64 kk)) r9 a0 a1 L (0,0)) λo17=>Acr L a1 o17) (λr13=>hq (Bh0 L (KA (O64 L) L 9 c64 (rl [12,1,2,1]) (KE Tryz.f64 kk)) r13 a0 a1 L (0,0)) λo19=>Acs L a1 o19) (λr16=>hq (Bh0 L (KA (O64 L) L 9 c64 (rl [12,1,2,1]) (KE Tryz.f64 kk)) r16 a0 a1 L (0,0)) λo21=>T0 L a1 o21))) h
def c39:=CC Tryz.f39
def O39:Bc:=oL [X35 L,X64 L]
def B5h(a2:Aq)(a0:Ac)(a1:Int)(v:Js):St:=⟨[(0,.any),(1,.any),(2,.any),(3,.any),Bja,(6,I v.1),(7,.any),Bdc,Bdf,(28,.any),(49,.any),(54,.any),(64,lv (.eY a2.aR)),(65,I (a2.aR.length:Int)),(66,I v.2)],[(3,(Cm a0)),(5,(Ac3 a2)),(8,[S a0.aF,lv (.t69 a0.aA),lv (.t127 a0.aH),I a1,S a2.aF,I a2.aJ,I a2.dD,lv (.eY a2.aR)])],0⟩
def Ul [An A C3](a2:Aq)(a0:Ac)(a1:Int)(rec:Int->Int->A)(Ai:Int)(Af:Int):A:=
 (lw Af a2.aR
 (bd (I6 L (⟨(⟨a0.aF,a0.aA,a0.aH⟩:Ac),a1,a2⟩:Av) (⟨(gD a2.aR Af).Op,(gD a2.aR Af).A,(gD a2.aR Af).B,(gD a2.aR Af).C,(Ab.cp ((gD a2.aR Af).E)),(Ab.cp ((gD a2.aR Af).F)),(gD a2.aR Af).aP,((gD a2.aR Af).bF),(gD a2.aR Af).bY⟩:Ar)) λr6=>
 (cn (r6 != 0)
 (lf (0,r6,Af))
 (rec Ai (Bs (Af+1)))))
 (lf (1,Ai,Af)))
def Il(L:Nat)(a2:Aq)(a0:Ac)(a1:Int):Nat->Int->Int->Option C3
 |0,_,_=>none
 |n+1,Ai,Af=>Ul L a2 a0 a1 (Il L a2 a0 a1 n) Ai Af
theorem B3g(a2:Aq)(a0:Ac)(a1:Int):LP (EV (O39 L) L 9 c39.x.u.l.u.l.l) [0,1,2,3,5,6,7,8,12,28,49,54,64,65,66] [3,5,8] (B5h a2 a0 a1) [.ret,.exit 1] (λn v=>Il L a2 a0 a1 n v.1 v.2) K:=lE (λ_=>rfl) λn v ih=>eE (Ul L a2 a0 a1 (λAi Af=>re (ih (Ai,Af))) v.1 v.2)
def Uw [An A Int](L:Nat)(a2:Aq)(o7:Nat×Js):A:=
 (sl o7.1 [(lf o7.2.1),
 (gi (Bs ((a2.aR.length:Int)-1)) a2.aR
 (jp (.cn ((gD a2.aR (Bs ((a2.aR.length:Int)-1))).Op != 19)
 (.lf ((gD a2.aR (Bs ((a2.aR.length:Int)-1))).Op != 4))
 (.lf false)) (λb8=>
 (cn b8
 (lf 8)
 (lf 0)))))])
def U5 [An A Int](a0:Ac)(a1:Int)(a2:Aq)(nx1:A):A:=
 (jp (.cn (decide (a1<0))
 (.lf true)
 (.lf (decide (a1>=(a0.aA.length:Int))))) (λb1=>
 (cn b1
 (lf 2)
 (bd (Cw L a2.aF) λr2=>
 (cn (r2 != 0)
 (lf r2)
 (jp (.cn (decide (a2.aJ<0))
 (.lf true)
 (.lf (decide (a2.aJ>a2.dD)))) (λb3=>
 (jp (.cn b3
 (.lf true)
 (.lf (decide (a2.aJ>6)))) (λb4=>
 (jp (.cn b4
 (.lf true)
 (.lf (decide (a2.dD>16)))) (λb5=>
 (cn b5
 (lf 2)
 (cn ((a2.aR.length:Int) == 0)
 (lf 7)
 (cn (decide ((a2.aR.length:Int)>1000))
 (lf 6)
 nx1))))))))))))))
def Arq [An A Int](a0:Ac)(a1:Int)(a2:Aq):A:=U5 L a0 a1 a2 (bd (Il L a2 a0 a1 L 0 0) λo7=>Uw L a2 o7)
def Rc(a0:Ac)(a1:Int)(a2:Aq):Option Int:=Arq L a0 a1 a2
def X39:F6:=E3 I 39 B7 (cI .i64) Ox (Rc L) λa0 a1 a2 r h=>hF Tryz.func39 (C:=O39 L) (oS _) L (λkk=>eE (U5 L a0 a1 a2 (hq (B3g L (KA (O39 L) L 9 c39 (rl [10,1,2,1]) (KE Tryz.f39 kk)) a2 a0 a1 L (0,0)) λo7=>Uw L a2 o7))) h
def c20:=CC Tryz.f20
def O20:Bc:=oL [X35 L,X36 L,X37 L,X38 L,X39 L]
def B4r(a0:Ac)(v:Tu4):St:=⟨[(0,.any),zq7,(2,I v.1),(3,.any),(4,.mp 30),(8,.any),(9,.any),(10,.any),Bdf,(13,.any),(20,.any),(25,.any),(32,lv (.t69 a0.aA)),(33,I (a0.aA.length:Int)),(34,I v.2.1),(71,.any),(79,.any)],[(1,(Cm a0)),(30,[.aQ false false (.t9 v.2.2.1) (.t4 v.2.2.2)])],0⟩
def Yj [An A P8](a0:Ac)(rec:Int->Int->List Yb->List Bool->A)(Ai:Int)(Af:Int)(Dg:List Yb)(Br:List Bool):A:=
 (lw Af a0.aA
 (bd (Tq L (⟨a0.aF,[],[((gD a0.aA Af).aL)],[]⟩:Aj)) λr2=>
 (cn (r2 != 0)
 (lf (0,r2,Af,Dg,Br))
 (fq (Dg.findIdx? λb=>(gD a0.aA Af).aL.aF == b) (λi3=>
 (cn (Br.getD i3 default)
 (lf (0,4,Af,Dg,Br))
 (bd (L5 L (⟨((gD a0.aA Af).aL),(gD a0.aA Af).aD⟩:A9)) λr4=>
 (cn (!r4)
 (lf (0,8,Af,Dg,Br))
 (fq (Dg.findIdx? λb=>(gD a0.aA Af).aL.aF == b) (λi5=>
 (rec Ai (Bs (Af+1)) Dg (Br.set i5 true)))
 (rec Ai (Bs (Af+1)) (Dg++ [(gD a0.aA Af).aL.aF]) (Br++ [true])))))))
 (bd (L5 L (⟨((gD a0.aA Af).aL),(gD a0.aA Af).aD⟩:A9)) λr6=>
 (cn (!r6)
 (lf (0,8,Af,Dg,Br))
 (fq (Dg.findIdx? λb=>(gD a0.aA Af).aL.aF == b) (λi7=>
 (rec Ai (Bs (Af+1)) Dg (Br.set i7 true)))
 (rec Ai (Bs (Af+1)) (Dg++ [(gD a0.aA Af).aL.aF]) (Br++ [true]))))))))
 (lf (1,Ai,Af,Dg,Br)))
def Kr(L:Nat)(a0:Ac):Nat->Int->Int->List Yb->List Bool->Option P8
 |0,_,_,_,_=>none
 |n+1,Ai,Af,Dg,Br=>Yj L a0 (Kr L a0 n) Ai Af Dg Br
theorem B2r(a0:Ac):LP (EV (O20 L) L 9 c20.x.l.u.l.l) [0,1,2,3,4,8,9,10,12,13,20,25,32,33,34,71,79] [1,30] (B4r a0) [.ret,.exit 1] (λn v=>Kr L a0 n v.1 v.2.1 v.2.2.1 v.2.2.2) K:=lE (λ_=>rfl) λn v ih=>eE (Yj L a0 (λAi Af Dg Br=>re (ih (Ai,Af,Dg,Br))) v.1 v.2.1 v.2.2.1 v.2.2.2)
def B4t(Bq:Int)(a0:Ac)(o8:Nat×Tu4)(v:Js):St:=⟨[(0,.any),zq7,(2,I v.1),(3,.any),(4,.any),(6,.any),(7,.any),(8,.any),(9,I Bq),(10,.loc 10 0),(20,.any),(25,.any),(34,.any),(48,.any),(54,.any),(69,lv (.t69 a0.aA)),(70,I (a0.aA.length:Int)),(71,I Bq),(77,lv (.t78 ((gD a0.aA Bq).aD))),(78,I ((gD a0.aA Bq).aD.length:Int)),(79,I v.2)],[(1,(Cm a0)),(10,[S (gD a0.aA Bq).aL.aF,lv (.dO ((gD a0.aA Bq).aL.bX)),lv (.t86 ((gD a0.aA Bq).aL.aG)),lv (.t89 ((gD a0.aA Bq).aL.aM)),lv (.eH ((gD a0.aA Bq).aL.bL)),lv (.t9 ((gD a0.aA Bq).aL.bJ)),lv (.t9 ((gD a0.aA Bq).aL.aZ)),lv (.t9 ((gD a0.aA Bq).aL.bH)),lv (.t9 ((gD a0.aA Bq).aL.bP)),lv (.t9 ((gD a0.aA Bq).aL.bD)),lv (.t93 ((gD a0.aA Bq).aL.aD)),lv (.eT ((gD a0.aA Bq).aL.bZ)),lv (.t154 ((gD a0.aA Bq).aL.Laws)),lv (.t78 ((gD a0.aA Bq).aD))]),(30,[.aQ false false (.t9 o8.2.2.2.1) (.t4 o8.2.2.2.2)])],0⟩
def Yk [An A C3](Bq:Int)(a0:Ac)(o8:Nat×Tu4)(rec:Int->Int->A)(D9:Int)(Bc4:Int):A:=
 (lw Bc4 ((gD a0.aA Bq).aD)
 (bd (Rc L (⟨a0.aF,a0.aA,a0.aH⟩:Ac) Bq (gD ((gD a0.aA Bq).aD) Bc4)) λr10=>
 (cn (r10 != 0)
 (lf (0,r10,Bc4))
 (rec D9 (Bs (Bc4+1)))))
 (lf (1,D9,Bc4)))
def Iw(L:Nat)(Bq:Int)(a0:Ac)(o8:Nat×Tu4):Nat->Int->Int->Option C3
 |0,_,_=>none
 |n+1,D9,Bc4=>Yk L Bq a0 o8 (Iw L Bq a0 o8 n) D9 Bc4
theorem B2t(Bq:Int)(a0:Ac)(o8:Nat×Tu4):LP (EV (O20 L) L 9 c20.x.w.l.u.l.l.w.l.l.w.l.l) [0,1,2,3,4,6,7,8,9,10,20,25,34,48,54,69,70,71,77,78,79] [1,10,30] (B4t Bq a0 o8) [.ret,.exit 6] (λn v=>Iw L Bq a0 o8 n v.1 v.2) K:=lE (λ_=>rfl) λn v ih=>eE (Yk L Bq a0 o8 (λD9 Bc4=>re (ih (D9,Bc4))) v.1 v.2)
def B4s(a0:Ac)(o8:Nat×Tu4)(v:Js):St:=⟨[(0,.any),zq7,(2,I v.1),(3,.any),(4,.any),(6,.any),(7,.any),(8,.any),(20,.any),(25,.any),(34,.any),(48,.any),(54,.any),(69,lv (.t69 a0.aA)),(70,I (a0.aA.length:Int)),(71,I v.2)],[(1,(Cm a0)),(30,[.aQ false false (.t9 o8.2.2.2.1) (.t4 o8.2.2.2.2)])],0⟩
def Yy [An A C3](L:Nat)(Bq:Int)(rec:Int->Int->A)(o11:Nat×Js):A:=
 (sl o11.1 [(lf (0,o11.2.1,Bq)),
 (rec o11.2.1 (Bs (Bq+1)))])
def Zf [An A C3](L:Nat)(a0:Ac)(o8:Nat×Tu4)(rec:Int->Int->A)(Bz:Int)(Bq:Int)(nx2:Int->Int->A):A:=
 (lw Bq a0.aA
 (nx2 Bq Bz)
 (lf (1,Bz,Bq)))
def Ags [An A C3](a0:Ac)(o8:Nat×Tu4)(rec:Int->Int->A)(Bz:Int)(Bq:Int):A:=Zf L a0 o8 rec Bz Bq (λBq Bz=>bd (Iw L Bq a0 o8 L Bz 0) λo11=>Yy L Bq rec o11)
def Ks(L:Nat)(a0:Ac)(o8:Nat×Tu4):Nat->Int->Int->Option C3
 |0,_,_=>none
 |n+1,Bz,Bq=>Ags L a0 o8 (Ks L a0 o8 n) Bz Bq
theorem B2s(a0:Ac)(o8:Nat×Tu4):LP (EV (O20 L) L 9 c20.x.w.l.u.l.l) [0,1,2,3,4,6,7,8,20,25,34,48,54,69,70,71] [1,30] (B4s a0 o8) [.ret,.exit 4] (λn v=>Ks L a0 o8 n v.1 v.2) K:=lE (λ_=>rfl) λn v ih=>eE (Zf L a0 o8 (λBz Bq=>re (ih (Bz,Bq))) v.1 v.2 (λBq Bz=>hq (B2t L (KA (O20 L) L 9 c20.x.w.l.u.l.l (rl [4,2,4,1]) (Hm (I2 (EV (O20 L) L 9 c20.x.w.l.u.l.l) [0,1,2,3,4,6,7,8,20,25,34,48,54,69,70,71] [1,30] n) [0,1,2,3,4,6,7,8,20,25,34,48,54,69,70,71] [1,30] K)) Bq a0 o8 L (Bz,0)) λo11=>Yy L Bq (λBz Bq=>re (ih (Bz,Bq))) o11))
def Yz [An A Int](L:Nat)(o12:Nat×Js):A:=
 (sl o12.1 [(lf o12.2.1),
 (lf 0)])
def Zg [An A Int](a0:Ac)(o8:Nat×Tu4)(nx3:P8->A):A:=
 (sl o8.1 [(lf o8.2.1),
 (bd (Afr L (⟨a0.aF,a0.aA,a0.aH⟩:Ac)) λr9=>
 (cn (r9 != 0)
 (lf r9)
 (nx3 o8)))])
def Aha [An A Int](a0:Ac)(o8:Nat×Tu4):A:=Zg L a0 o8 (λo8=>bd (Ks L a0 o8 L o8.2.1 0) λo12=>Yz L o12)
def Ze [An A Int](a0:Ac)(nx1:A):A:=
 (bd (Cw L a0.aF) λr1=>
 (cn (r1 != 0)
 (lf r1)
 (cn ((a0.aA.length:Int) == 0)
 (lf 7)
 (cn (decide ((a0.aA.length:Int)>16))
 (lf 6)
 nx1))))
def Av5 [An A Int](a0:Ac):A:=Ze L a0 (bd (Kr L a0 L 0 0 [] []) λo8=>Aha L a0 o8)
def Sj(a0:Ac):Option Int:=Av5 L a0
def X20:F6:=E1 I 20 B7 (Sj L) λa0 r h=>hF Tryz.func20 (C:=O20 L) (oS _) L (λkk=>eE (Ze L a0 (hq (B2r L (KA (O20 L) L 9 c20 (rl [8,1,2,1]) (KE Tryz.f20 kk)) a0 L (0,0,[],[])) λo8=>Zg L a0 o8 (λo8=>hq (B2s L (KA (O20 L) L 9 c20 (rl [12,1,2,1]) (KE Tryz.f20 kk)) a0 o8 L (o8.2.1,0)) λo12=>Yz L o12)))) h
def Alh [An A Bool](L:Nat)(a0:Ac)(a1:Int)(a2:Int):A:=
 (jp (.cn (decide (a1<0))
 (.lf true)
 (.lf (decide (a1>=(a0.aA.length:Int))))) (λb1=>
 (jp (.cn b1
 (.lf true)
 (.lf (decide (a2<0)))) (λb2=>
 (jp (.cn b2
 (.lf true)
 (.lf (decide (a2>1000000000)))) (λb3=>
 (lf b3)))))))
def P5(a0:Ac)(a1:Int)(a2:Int):Option Bool:=Alh L a0 a1 a2
def X21:F6:=E3 B 21 B7 (cI .i64) (cI .i64) (P5 L) λa0 a1 a2 r h=>hF Tryz.func21 (oS []) L (λkk=>eE (Alh L a0 a1 a2)) h
end
end Go.Proofs.YthjhkpgonleelaaGreatDoor.Ev
