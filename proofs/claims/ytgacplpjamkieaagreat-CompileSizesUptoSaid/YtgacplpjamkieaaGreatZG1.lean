import Derived.Test.YtgacplpjamkieaaGreatZG0
set_option maxRecDepth 100000
set_option maxHeartbeats 4000000
set_option linter.unusedVariables false
set_option linter.unusedSimpArgs false
set_option linter.unnecessarySimpa false
namespace Go.Proofs.YtgacplpjamkieaaGreat.Ev
open Go An
noncomputable section
variable {A:Type} (L n:Nat) (kk:Tb) (K:Hp) (k:Ei)
def Bep(F:Aa->Int->Option Int):Prop:=∀y0 y1 r,F y0 y1=some r->Ho Tryz.prog 34 [B4.en y0,(cI .i64).en y1] I r
def c34:=CC Tryz.f34
def O34(Ru:Aa->Int->Option Int)(L:Nat):Bj:=(orc 34 (A2 I B4 (cI .i64) Ru) (oL []))
theorem s34(Ru:Aa->Int->Option Int)(Bl3:Bep Ru)(L:Nat):Df Tryz.prog (O34 Ru L):=(Dc (a2 _ Bl3) (oS []))
def Bo2(a0:Aa)(v:Lw):St:=⟨[(0,.any),(1,I v.1),Ab9,(4,I 0),(5,I v.2)],[(2,(Hv a0))],0⟩
def Adv [An A Rs](Ru:Aa->Int->Option Int)(L:Nat)(a0:Aa)(rec:Int->Int->A)(Av:Int)(Bl:Int):A:=
 (jp (.cn (decide (Bl<(a0.bJ.length:Int)))
 (.lf (decide (Av>=0)))
 (.lf false)) (λb1=>
 (cn b1
 (gi Bl a0.bJ
 (bd (Ru (Aa.cp (gD a0.bJ Bl)) Av) λr2=>
 (rec r2 (Bb (Bl+1)))))
 (lf (0,Av,Bl)))))
def T9(Ru:Aa->Int->Option Int)(L:Nat)(a0:Aa):Nat->Int->Int->Option Rs
 |0,_,_=>none
 |n+1,Av,Bl=>Adv Ru L a0 (T9 Ru L a0 n) Av Bl
theorem Bm7(Ru:Aa->Int->Option Int)(L:Nat)(K:Hp)(a0:Aa):LP (EV (O34 Ru L) L 9 c34.w.l.u.l.l) [0,1,2,4,5] [2] (Bo2 a0) [.exit 0] (λn v=>T9 Ru L a0 n v.1 v.2) K:=lE (λ_=>rfl) λn v ih=>eE (Adv Ru L a0 (λAv Bl=>re (ih (Av,Bl))) v.1 v.2)
def Y7 [An A Int](Ru:Aa->Int->Option Int)(L:Nat)(o3:Nat×Lw):A:=
 (sl o3.1 [(lf o3.2.1)])
def Ar9 [An A Int](Ru:Aa->Int->Option Int)(L:Nat)(a0:Aa)(a1:Int):A:=(bd (T9 Ru L a0 L (Bb (a1-1)) 0) λo3=>Y7 Ru L o3)
def Ajt(Ru:Aa->Int->Option Int)(L:Nat)(a0:Aa)(a1:Int):Option Int:=Ar9 Ru L a0 a1
theorem b34(Ru:Aa->Int->Option Int)(Bl3:Bep Ru)(L:Nat):Bep (Ajt Ru L):=λa0 a1 r h=>hF Tryz.func34 (s34 Ru Bl3 L) L (λkk=>eE ((hq (Bm7 Ru L (KA (O34 Ru L) L 9 c34 (rl [4,1,2,1]) (KE Tryz.f34 kk)) a0 L ((Bb (a1-1)),0)) λo3=>Y7 Ru L o3))) h
def Rr:Nat->Aa->Int->Option Int
 |0,_,_=>none
 |L+1,a0,a1=>Ajt (Rr L) L a0 a1
theorem Blu(L:Nat):Bep (Rr L):=by
 induction L with
 |zero=>exact λ_ _ _ h=>(by cases h)
 |succ L ih=>
  have i34:=ih;exact b34 (Rr L) i34 L
def X34(L:Nat):N1:=E2 I 34 B4 (cI .i64) (Rr L) (Blu L)
def Aj0 [An A Bool](a0:Aa):A:=
 (bd (Rr L (Aa.cp a0) 60) λr1=>
 (lf (decide (r1>=0))))
def Nm(a0:Aa):Option Bool:=Aj0 L a0
def X16:N1:=E1 B 16 B4 (Nm L) λa0 r h=>hF Tryz.func16 (oS [X34 L]) L (λkk=>eE (Aj0 L a0)) h
def Beq(F:(List Ad)->Int->Option Int):Prop:=∀y0 y1 r,F y0 y1=some r->Ho Tryz.prog 44 [Aax.en y0,(cI .i64).en y1] I r
def c44:=CC Tryz.f44
def O44(Hq:(List Ad)->Int->Option Int)(L:Nat):Bj:=(orc 44 (A2 I Aax (cI .i64) Hq) (oL [X16 L]))
theorem s44(Hq:(List Ad)->Int->Option Int)(Bl4:Beq Hq)(L:Nat):Df Tryz.prog (O44 Hq L):=(Dc (a2 _ Bl4) (oS [X16 L]))
def Bo5(a0:List Ad)(Aq:Int)(Ak:Int)(v:Lw):St:=⟨[(0,lv (.eZ a0)),(1,I (Bb ((Bb (Aq-1))-((gD a0 Ak).aS.length:Int)))),(4,I v.1),(5,I Ak),(6,I v.2)],[],0⟩
def Aai [An A Rs](Hq:(List Ad)->Int->Option Int)(L:Nat)(a0:List Ad)(Aq:Int)(Ak:Int)(rec:Int->Int->A)(Lm:Int)(Dp:Int):A:=
 (gi Ak a0
 (jp (.cn (decide (Dp<((gD a0 Ak).aS.length:Int)))
 (.lf (decide ((Bb ((Bb (Aq-1))-((gD a0 Ak).aS.length:Int)))>=0)))
 (.lf false)) (λb5=>
 (cn b5
 (gi Ak a0
 (gi Dp ((gD a0 Ak).aS)
 (bd (Nm L (Aa.cp (gD ((gD a0 Ak).aS) Dp))) λr6=>
 (cn (!r6)
 (lf (0,((-1),Dp)))
 (rec Lm (Bb (Dp+1)))))))
 (lf (1,Lm,Dp))))))
def P3(Hq:(List Ad)->Int->Option Int)(L:Nat)(a0:List Ad)(Aq:Int)(Ak:Int):Nat->Int->Int->Option Rs
 |0,_,_=>none
 |n+1,Lm,Dp=>Aai Hq L a0 Aq Ak (P3 Hq L a0 Aq Ak n) Lm Dp
theorem Bna(Hq:(List Ad)->Int->Option Int)(L:Nat)(K:Hp)(a0:List Ad)(Aq:Int)(Ak:Int):LP (EV (O44 Hq L) L 9 c44.u.l.u.l.l.u.l.l.w.l.u.l.l) [0,1,4,5,6] [] (Bo5 a0 Aq Ak) [.ret,.exit 2] (λn v=>P3 Hq L a0 Aq Ak n v.1 v.2) K:=lE (λ_=>rfl) λn v ih=>eE (Aai Hq L a0 Aq Ak (λLm Dp=>re (ih (Lm,Dp))) v.1 v.2)
def Bo4(a0:List Ad)(v:Int×Int×Int):St:=⟨[(0,lv (.eZ a0)),(1,I v.1),(4,I v.2.1),(5,I v.2.2)],[],0⟩
def Sv [An A (Nat×Int×Int×Int)](Hq:(List Ad)->Int->Option Int)(L:Nat)(Aq:Int)(a0:List Ad)(Ak:Int)(rec:Int->Int->Int->A)(o7:Nat×Lw):A:=
 (sl o7.1 [(lf (0,((Bb ((Bb (Aq-1))-((gD a0 Ak).aS.length:Int))),o7.2.1,Ak))),
 (cn (decide ((Bb ((Bb (Aq-1))-((gD a0 Ak).aS.length:Int)))>=0))
 (gi Ak a0
 (bd (Hq ((gD a0 Ak).aK) (Bb ((Bb (Aq-1))-((gD a0 Ak).aS.length:Int)))) λr8=>
 (cn (decide (r8>=0))
 (gi Ak a0
 (bd (Hq ((gD a0 Ak).aY) r8) λr9=>
 (rec r9 o7.2.1 (Bb (Ak+1)))))
 (rec r8 o7.2.1 (Bb (Ak+1))))))
 (cn (decide ((Bb ((Bb (Aq-1))-((gD a0 Ak).aS.length:Int)))>=0))
 (gi Ak a0
 (bd (Hq ((gD a0 Ak).aY) (Bb ((Bb (Aq-1))-((gD a0 Ak).aS.length:Int)))) λr10=>
 (rec r10 o7.2.1 (Bb (Ak+1)))))
 (rec (Bb ((Bb (Aq-1))-((gD a0 Ak).aS.length:Int))) o7.2.1 (Bb (Ak+1)))))])
def Sy [An A (Nat×Int×Int×Int)](Hq:(List Ad)->Int->Option Int)(L:Nat)(a0:List Ad)(rec:Int->Int->Int->A)(Aq:Int)(Bl:Int)(Ak:Int)(nx1:Int->Int->Int->A):A:=
 (jp (.cn (decide (Ak<(a0.length:Int)))
 (.lf (decide (Aq>=0)))
 (.lf false)) (λb1=>
 (cn b1
 (gi Ak a0
 (gi Ak a0
 (bd (Nm L (Aa.cp ((gD a0 Ak).E))) λr2=>
 (jb (.cn (!r2)
 (.lf true)
 (.gq (0<=Ak)
 (.gq (Ak<(a0.length:Int))
 (.bd (Nm L (Aa.cp ((gD a0 Ak).F))) λr4=>
 (.lf (!r4)))))) (λb3=>
 (cn b3
 (lf (0,((Bb ((Bb (Aq-1))-((gD a0 Ak).aS.length:Int))),(-1),Ak)))
 (nx1 Aq Ak Bl)))))))
 (lf (1,Aq,Bl,Ak)))))
def Afh [An A (Nat×Int×Int×Int)](Hq:(List Ad)->Int->Option Int)(L:Nat)(a0:List Ad)(rec:Int->Int->Int->A)(Aq:Int)(Bl:Int)(Ak:Int):A:=Sy Hq L a0 rec Aq Bl Ak (λAq Ak Bl=>bd (P3 Hq L a0 Aq Ak L Bl 0) λo7=>Sv Hq L Aq a0 Ak rec o7)
def Li(Hq:(List Ad)->Int->Option Int)(L:Nat)(a0:List Ad):Nat->Int->Int->Int->Option (Nat×Int×Int×Int)
 |0,_,_,_=>none
 |n+1,Aq,Bl,Ak=>Afh Hq L a0 (Li Hq L a0 n) Aq Bl Ak
theorem Bm9(Hq:(List Ad)->Int->Option Int)(L:Nat)(K:Hp)(a0:List Ad):LP (EV (O44 Hq L) L 9 c44.u.l.u.l.l) [0,1,4,5] [] (Bo4 a0) [.ret,.exit 0] (λn v=>Li Hq L a0 n v.1 v.2.1 v.2.2) K:=lE (λ_=>rfl) λn v ih=>eE (Sy Hq L a0 (λAq Bl Ak=>re (ih (Aq,Bl,Ak))) v.1 v.2.1 v.2.2 (λAq Ak Bl=>hq (Bna Hq L (KA (O44 Hq L) L 9 c44.u.l.u.l.l (rl [2,2,4,1,2,1]) (Jz (M8 (EV (O44 Hq L) L 9 c44.u.l.u.l.l) [0,1,4,5] [] n) [0,1,4,5] [] K)) a0 Aq Ak L (Bl,0)) λo7=>Sv Hq L Aq a0 Ak (λAq Bl Ak=>re (ih (Aq,Bl,Ak))) o7))
def Sw [An A Int](Hq:(List Ad)->Int->Option Int)(L:Nat)(o11:Nat×Int×Int×Int):A:=
 (sl o11.1 [(lf o11.2.2.1),
 (lf o11.2.1)])
def Amn [An A Int](Hq:(List Ad)->Int->Option Int)(L:Nat)(a0:List Ad)(a1:Int):A:=(bd (Li Hq L a0 L a1 0 0) λo11=>Sw Hq L o11)
def Aho(Hq:(List Ad)->Int->Option Int)(L:Nat)(a0:List Ad)(a1:Int):Option Int:=Amn Hq L a0 a1
theorem b44(Hq:(List Ad)->Int->Option Int)(Bl4:Beq Hq)(L:Nat):Beq (Aho Hq L):=λa0 a1 r h=>hF Tryz.func44 (s44 Hq Bl4 L) L (λkk=>eE ((hq (Bm9 Hq L (KA (O44 Hq L) L 9 c44 (rl [2,1,2,1]) (KE Tryz.f44 kk)) a0 L (a1,0,0)) λo11=>Sw Hq L o11))) h
def Kh:Nat->(List Ad)->Int->Option Int
 |0,_,_=>none
 |L+1,a0,a1=>Aho (Kh L) L a0 a1
theorem Blv(L:Nat):Beq (Kh L):=by
 induction L with
 |zero=>exact λ_ _ _ h=>(by cases h)
 |succ L ih=>
  have i44:=ih;exact b44 (Kh L) i44 L
def X44(L:Nat):N1:=E2 I 44 Aax (cI .i64) (Kh L) (Blv L)
def Aeg [An A Bool](a0:List Ad)(a1:Int):A:=
 (bd (Kh L a0 a1) λr1=>
 (lf (decide (r1>=0))))
def T2(a0:List Ad)(a1:Int):Option Bool:=Aeg L a0 a1
def X23:N1:=E2 B 23 Aax (cI .i64) (T2 L) λa0 a1 r h=>hF Tryz.func23 (oS [X44 L]) L (λkk=>eE (Aeg L a0 a1)) h
def c6:=CC Tryz.f6
def O6:Bj:=oL [X23 L]
def Bt5(Aq:Int)(a0:Ag)(v:Tu4):St:=⟨[(0,.any),Ajq,(2,B v.1),(3,I Aq),(4,.loc 4 0),(5,I v.2)],[(1,(Br a0)),(4,(Af (gD a0.aD Aq)))],0⟩
def Acs [An A (Nat×Tu4)](Aq:Int)(a0:Ag)(rec:Bool->Int->A)(C3:Bool)(Lm:Int):A:=
 (lw Lm ((gD a0.aD Aq).aA)
 (bd (T2 L ((gD ((gD a0.aD Aq).aA) Lm).aK) 60) λr10=>
 (cn (!r10)
 (lf (0,false,Lm))
 (rec C3 (Bb (Lm+1)))))
 (lf (1,C3,Lm)))
def Pw(L:Nat)(Aq:Int)(a0:Ag):Nat->Bool->Int->Option (Nat×Tu4)
 |0,_,_=>none
 |n+1,C3,Lm=>Acs L Aq a0 (Pw L Aq a0 n) C3 Lm
theorem Bs6(Aq:Int)(a0:Ag):LP (EV (O6 L) L 9 c6.w.l.u.l.l.u.l.l.w.u.l.l) [0,1,2,3,4,5] [1,4] (Bt5 Aq a0) [.ret,.exit 2] (λn v=>Pw L Aq a0 n v.1 v.2) K:=lE (λ_=>rfl) λn v ih=>eE (Acs L Aq a0 (λC3 Lm=>re (ih (C3,Lm))) v.1 v.2)
def Bt4(a0:Ag)(v:Tu4):St:=⟨[(0,.any),Ajq,(2,B v.1),(3,I v.2)],[(1,(Br a0))],0⟩
def Acz [An A (Nat×Tu4)](L:Nat)(Aq:Int)(rec:Bool->Int->A)(o11:Nat×Tu4):A:=
 (sl o11.1 [(lf (0,o11.2.1,Aq)),
 (rec o11.2.1 (Bb (Aq+1)))])
def Ac1 [An A (Nat×Tu4)](L:Nat)(a0:Ag)(rec:Bool->Int->A)(Av:Bool)(Aq:Int)(nx1:Int->Bool->A):A:=
 (lw Aq a0.aD
 (jp (.cn (decide (((gD a0.aD Aq).bG.length:Int)>10))
 (.lf true)
 (.lf (decide (((gD a0.aD Aq).aM.length:Int)>10)))) (λb3=>
 (jp (.cn b3
 (.lf true)
 (.lf (decide (((gD a0.aD Aq).aO.length:Int)>10)))) (λb4=>
 (jp (.cn b4
 (.lf true)
 (.lf (decide (((gD a0.aD Aq).aA.length:Int)>6)))) (λb5=>
 (jp (.cn b5
 (.lf true)
 (.lf (decide (((gD a0.aD Aq).aZ.length:Int)>10)))) (λb6=>
 (jp (.cn b6
 (.lf true)
 (.lf (decide (((gD a0.aD Aq).Laws.length:Int)>10)))) (λb7=>
 (jp (.cn b7
 (.lf true)
 (.lf (decide (((gD a0.aD Aq).aX.length:Int)>10)))) (λb8=>
 (jp (.cn b8
 (.lf true)
 (.lf (decide (((gD a0.aD Aq).aR.length:Int)>10)))) (λb9=>
 (cn b9
 (lf (0,false,Aq))
 (nx1 Aq Av))))))))))))))))
 (lf (1,Av,Aq)))
def Aii [An A (Nat×Tu4)](a0:Ag)(rec:Bool->Int->A)(Av:Bool)(Aq:Int):A:=Ac1 L a0 rec Av Aq (λAq Av=>bd (Pw L Aq a0 L Av 0) λo11=>Acz L Aq rec o11)
def R7(L:Nat)(a0:Ag):Nat->Bool->Int->Option (Nat×Tu4)
 |0,_,_=>none
 |n+1,Av,Aq=>Aii L a0 (R7 L a0 n) Av Aq
theorem Bs5(a0:Ag):LP (EV (O6 L) L 9 c6.w.l.u.l.l) [0,1,2,3] [1] (Bt4 a0) [.ret,.exit 0] (λn v=>R7 L a0 n v.1 v.2) K:=lE (λ_=>rfl) λn v ih=>eE (Ac1 L a0 (λAv Aq=>re (ih (Av,Aq))) v.1 v.2 (λAq Av=>hq (Bs6 L (KA (O6 L) L 9 c6.w.l.u.l.l (rl [2,2,6,1]) (Jz (M8 (EV (O6 L) L 9 c6.w.l.u.l.l) [0,1,2,3] [1] n) [0,1,2,3] [1] K)) Aq a0 L (Av,0)) λo11=>Acz L Aq (λAv Aq=>re (ih (Av,Aq))) o11))
def U4 [An A Bool](L:Nat)(o12:Nat×Tu4):A:=
 (sl o12.1 [(lf o12.2.1),
 (lf true)])
def Vo [An A Bool](L:Nat)(a0:Ag)(nx2:A):A:=
 (jp (.cn (decide ((a0.aJ.length:Int)>10))
 (.lf true)
 (.lf (decide ((a0.aD.length:Int)>4)))) (λb1=>
 (jp (.cn b1
 (.lf true)
 (.lf (decide ((a0.bC.length:Int)>10)))) (λb2=>
 (cn b2
 (lf false)
 nx2)))))
def Ap4 [An A Bool](a0:Ag):A:=Vo L a0 (bd (R7 L a0 L false 0) λo12=>U4 L o12)
def Z0(a0:Ag):Option Bool:=Ap4 L a0
def X6:N1:=E1 B 6 Pq (Z0 L) λa0 r h=>hF Tryz.func6 (C:=O6 L) (oS _) L (λkk=>eE (Vo L a0 (hq (Bs5 L (KA (O6 L) L 9 c6 (rl [4,1,2,1]) (KE Tryz.f6 kk)) a0 L (false,0)) λo12=>U4 L o12))) h
def Adf [An A Bool](L:Nat)(a0:Int):A:=
 (jp (.cn (decide (a0>=97))
 (.lf (decide (a0<=122)))
 (.lf false)) (λb1=>
 (lf b1)))
def T4(a0:Int):Option Bool:=Adf L a0
def Bvl:N1:=E1 B 123 (cI .u8) (T4 L) λa0 r h=>hF Tryz.func123 (oS []) L (λkk=>eE (Adf L a0)) h
def Abg [An A Bool](L:Nat)(a0:Yb):A:=
 (cn (a0.toList == (⟨#[97,100,100]⟩:Yb).toList)
 (cn (a0.toList == (⟨#[97,100,100]⟩:Yb).toList)
 (lf true)
 (lf false))
 (cn (a0.toList == (⟨#[97,102,116,101,114]⟩:Yb).toList)
 (cn (a0.toList == (⟨#[97,102,116,101,114]⟩:Yb).toList)
 (lf true)
 (lf false))
 (cn (a0.toList == (⟨#[97,110,100]⟩:Yb).toList)
 (cn (a0.toList == (⟨#[97,110,100]⟩:Yb).toList)
 (lf true)
 (lf false))
 (cn (a0.toList == (⟨#[97,116]⟩:Yb).toList)
 (cn (a0.toList == (⟨#[97,116]⟩:Yb).toList)
 (lf true)
 (lf false))
 (cn (a0.toList == (⟨#[98,101,108,116]⟩:Yb).toList)
 (cn (a0.toList == (⟨#[98,101,108,116]⟩:Yb).toList)
 (lf true)
 (lf false))
 (cn (a0.toList == (⟨#[98,111,111,108]⟩:Yb).toList)
 (cn (a0.toList == (⟨#[98,111,111,108]⟩:Yb).toList)
 (lf true)
 (lf false))
 (cn (a0.toList == (⟨#[99,111,110,115,101,114,118,101]⟩:Yb).toList)
 (cn (a0.toList == (⟨#[99,111,110,115,101,114,118,101]⟩:Yb).toList)
 (lf true)
 (lf false))
 (cn (a0.toList == (⟨#[99,111,110,115,116]⟩:Yb).toList)
 (cn (a0.toList == (⟨#[99,111,110,115,116]⟩:Yb).toList)
 (lf true)
 (lf false))
 (cn (a0.toList == (⟨#[99,111,117,110,116]⟩:Yb).toList)
 (cn (a0.toList == (⟨#[99,111,117,110,116]⟩:Yb).toList)
 (lf true)
 (lf false))
 (cn (a0.toList == (⟨#[99,121,99,108,101]⟩:Yb).toList)
 (cn (a0.toList == (⟨#[99,121,99,108,101]⟩:Yb).toList)
 (lf true)
 (lf false))
 (cn (a0.toList == (⟨#[100,111,119,110]⟩:Yb).toList)
 (cn (a0.toList == (⟨#[100,111,119,110]⟩:Yb).toList)
 (lf true)
 (lf false))
 (cn (a0.toList == (⟨#[100,114,97,119]⟩:Yb).toList)
 (cn (a0.toList == (⟨#[100,114,97,119]⟩:Yb).toList)
 (lf true)
 (lf false))
 (cn (a0.toList == (⟨#[100,117,114]⟩:Yb).toList)
 (cn (a0.toList == (⟨#[100,117,114]⟩:Yb).toList)
 (lf true)
 (lf false))
 (cn (a0.toList == (⟨#[101,108,115,101]⟩:Yb).toList)
 (cn (a0.toList == (⟨#[101,108,115,101]⟩:Yb).toList)
 (lf true)
 (lf false))
 (cn (a0.toList == (⟨#[101,110,100]⟩:Yb).toList)
 (cn (a0.toList == (⟨#[101,110,100]⟩:Yb).toList)
 (lf true)
 (lf false))
 (cn (a0.toList == (⟨#[101,118,101,114,121]⟩:Yb).toList)
 (cn (a0.toList == (⟨#[101,118,101,114,121]⟩:Yb).toList)
 (lf true)
 (lf false))
 (cn (a0.toList == (⟨#[102,97,108,115,101]⟩:Yb).toList)
 (cn (a0.toList == (⟨#[102,97,108,115,101]⟩:Yb).toList)
 (lf true)
 (lf false))
 (cn (a0.toList == (⟨#[102,97,117,108,116]⟩:Yb).toList)
 (cn (a0.toList == (⟨#[102,97,117,108,116]⟩:Yb).toList)
 (lf true)
 (lf false))
 (cn (a0.toList == (⟨#[102,105,102,111]⟩:Yb).toList)
 (cn (a0.toList == (⟨#[102,105,102,111]⟩:Yb).toList)
 (lf true)
 (lf false))
 (cn (a0.toList == (⟨#[102,114,101,101]⟩:Yb).toList)
 (cn (a0.toList == (⟨#[102,114,101,101]⟩:Yb).toList)
 (lf true)
 (lf false))
 (cn (a0.toList == (⟨#[102,114,111,109]⟩:Yb).toList)
 (cn (a0.toList == (⟨#[102,114,111,109]⟩:Yb).toList)
 (lf true)
 (lf false))
 (cn (a0.toList == (⟨#[103,101,111,109]⟩:Yb).toList)
 (cn (a0.toList == (⟨#[103,101,111,109]⟩:Yb).toList)
 (lf true)
 (lf false))
 (cn (a0.toList == (⟨#[103,101,116]⟩:Yb).toList)
 (cn (a0.toList == (⟨#[103,101,116]⟩:Yb).toList)
 (lf true)
 (lf false))
 (cn (a0.toList == (⟨#[104,111,108,100]⟩:Yb).toList)
 (cn (a0.toList == (⟨#[104,111,108,100]⟩:Yb).toList)
 (lf true)
 (lf false))
 (cn (a0.toList == (⟨#[105,102]⟩:Yb).toList)
 (cn (a0.toList == (⟨#[105,102]⟩:Yb).toList)
 (lf true)
 (lf false))
 (cn (a0.toList == (⟨#[105,110,116]⟩:Yb).toList)
 (cn (a0.toList == (⟨#[105,110,116]⟩:Yb).toList)
 (lf true)
 (lf false))
 (cn (a0.toList == (⟨#[105,110,116,111]⟩:Yb).toList)
 (cn (a0.toList == (⟨#[105,110,116,111]⟩:Yb).toList)
 (lf true)
 (lf false))
 (cn (a0.toList == (⟨#[108,101,97,115,116]⟩:Yb).toList)
 (cn (a0.toList == (⟨#[108,101,97,115,116]⟩:Yb).toList)
 (lf true)
 (lf false))
 (cn (a0.toList == (⟨#[108,101,118,101,108]⟩:Yb).toList)
 (cn (a0.toList == (⟨#[108,101,118,101,108]⟩:Yb).toList)
 (lf true)
 (lf false))
 (cn (a0.toList == (⟨#[108,105,102,111]⟩:Yb).toList)
 (cn (a0.toList == (⟨#[108,105,102,111]⟩:Yb).toList)
 (lf true)
 (lf false))
 (cn (a0.toList == (⟨#[108,105,110,107]⟩:Yb).toList)
 (cn (a0.toList == (⟨#[108,105,110,107]⟩:Yb).toList)
 (lf true)
 (lf false))
 (cn (a0.toList == (⟨#[108,111,99,97,108]⟩:Yb).toList)
 (cn (a0.toList == (⟨#[108,111,99,97,108]⟩:Yb).toList)
 (lf true)
 (lf false))
 (cn (a0.toList == (⟨#[109,97,120]⟩:Yb).toList)
 (cn (a0.toList == (⟨#[109,97,120]⟩:Yb).toList)
 (lf true)
 (lf false))
 (cn (a0.toList == (⟨#[109,105,110]⟩:Yb).toList)
 (cn (a0.toList == (⟨#[109,105,110]⟩:Yb).toList)
 (lf true)
 (lf false))
 (cn (a0.toList == (⟨#[109,111,100,101,108]⟩:Yb).toList)
 (cn (a0.toList == (⟨#[109,111,100,101,108]⟩:Yb).toList)
 (lf true)
 (lf false))
 (cn (a0.toList == (⟨#[110,111,116]⟩:Yb).toList)
 (cn (a0.toList == (⟨#[110,111,116]⟩:Yb).toList)
 (lf true)
 (lf false))
 (cn (a0.toList == (⟨#[110,111,119]⟩:Yb).toList)
 (cn (a0.toList == (⟨#[110,111,119]⟩:Yb).toList)
 (lf true)
 (lf false))
 (cn (a0.toList == (⟨#[111,98,115,101,114,118,101]⟩:Yb).toList)
 (cn (a0.toList == (⟨#[111,98,115,101,114,118,101]⟩:Yb).toList)
 (lf true)
 (lf false))
 (cn (a0.toList == (⟨#[111,114]⟩:Yb).toList)
 (cn (a0.toList == (⟨#[111,114]⟩:Yb).toList)
 (lf true)
 (lf false))
 (cn (a0.toList == (⟨#[112,97,114,97,109]⟩:Yb).toList)
 (cn (a0.toList == (⟨#[112,97,114,97,109]⟩:Yb).toList)
 (lf true)
 (lf false))
 (cn (a0.toList == (⟨#[112,114,101,101,109,112,116]⟩:Yb).toList)
 (cn (a0.toList == (⟨#[112,114,101,101,109,112,116]⟩:Yb).toList)
 (lf true)
 (lf false))
 (cn (a0.toList == (⟨#[112,114,105,111]⟩:Yb).toList)
 (cn (a0.toList == (⟨#[112,114,105,111]⟩:Yb).toList)
 (lf true)
 (lf false))
 (cn (a0.toList == (⟨#[112,117,116]⟩:Yb).toList)
 (cn (a0.toList == (⟨#[112,117,116]⟩:Yb).toList)
 (lf true)
 (lf false))
 (cn (a0.toList == (⟨#[113,117,101,117,101]⟩:Yb).toList)
 (cn (a0.toList == (⟨#[113,117,101,117,101]⟩:Yb).toList)
 (lf true)
 (lf false))
 (cn (a0.toList == (⟨#[114,101,108,101,97,115,101]⟩:Yb).toList)
 (cn (a0.toList == (⟨#[114,101,108,101,97,115,101]⟩:Yb).toList)
 (lf true)
 (lf false))
 (cn (a0.toList == (⟨#[114,101,115,111,117,114,99,101]⟩:Yb).toList)
 (cn (a0.toList == (⟨#[114,101,115,111,117,114,99,101]⟩:Yb).toList)
 (lf true)
 (lf false))
 (cn (a0.toList == (⟨#[114,105,100,101]⟩:Yb).toList)
 (cn (a0.toList == (⟨#[114,105,100,101]⟩:Yb).toList)
 (lf true)
 (lf false))
 (cn (a0.toList == (⟨#[114,111,117,116,105,110,101]⟩:Yb).toList)
 (cn (a0.toList == (⟨#[114,111,117,116,105,110,101]⟩:Yb).toList)
 (lf true)
 (lf false))
 (cn (a0.toList == (⟨#[115,101,105,122,101]⟩:Yb).toList)
 (cn (a0.toList == (⟨#[115,101,105,122,101]⟩:Yb).toList)
 (lf true)
 (lf false))
 (cn (a0.toList == (⟨#[115,101,110,100]⟩:Yb).toList)
 (cn (a0.toList == (⟨#[115,101,110,100]⟩:Yb).toList)
 (lf true)
 (lf false))
 (cn (a0.toList == (⟨#[115,101,116]⟩:Yb).toList)
 (cn (a0.toList == (⟨#[115,101,116]⟩:Yb).toList)
 (lf true)
 (lf false))
 (cn (a0.toList == (⟨#[115,104,105,102,116]⟩:Yb).toList)
 (cn (a0.toList == (⟨#[115,104,105,102,116]⟩:Yb).toList)
 (lf true)
 (lf false))
 (cn (a0.toList == (⟨#[115,105,103,110,97,108]⟩:Yb).toList)
 (cn (a0.toList == (⟨#[115,105,103,110,97,108]⟩:Yb).toList)
 (lf true)
 (lf false))
 (cn (a0.toList == (⟨#[115,105,116,101]⟩:Yb).toList)
 (cn (a0.toList == (⟨#[115,105,116,101]⟩:Yb).toList)
 (lf true)
 (lf false))
 (cn (a0.toList == (⟨#[115,105,122,101]⟩:Yb).toList)
 (cn (a0.toList == (⟨#[115,105,122,101]⟩:Yb).toList)
 (lf true)
 (lf false))
 (cn (a0.toList == (⟨#[115,112,97,119,110]⟩:Yb).toList)
 (cn (a0.toList == (⟨#[115,112,97,119,110]⟩:Yb).toList)
 (lf true)
 (lf false))
 (cn (a0.toList == (⟨#[115,116,97,114,116]⟩:Yb).toList)
 (cn (a0.toList == (⟨#[115,116,97,114,116]⟩:Yb).toList)
 (lf true)
 (lf false))
 (cn (a0.toList == (⟨#[115,116,111,112]⟩:Yb).toList)
 (cn (a0.toList == (⟨#[115,116,111,112]⟩:Yb).toList)
 (lf true)
 (lf false))
 (cn (a0.toList == (⟨#[115,116,111,114,101]⟩:Yb).toList)
 (cn (a0.toList == (⟨#[115,116,111,114,101]⟩:Yb).toList)
 (lf true)
 (lf false))
 (cn (a0.toList == (⟨#[115,116,114,101,97,109]⟩:Yb).toList)
 (cn (a0.toList == (⟨#[115,116,114,101,97,109]⟩:Yb).toList)
 (lf true)
 (lf false))
 (cn (a0.toList == (⟨#[115,117,109]⟩:Yb).toList)
 (cn (a0.toList == (⟨#[115,117,109]⟩:Yb).toList)
 (lf true)
 (lf false))
 (cn (a0.toList == (⟨#[116,97,98,108,101]⟩:Yb).toList)
 (cn (a0.toList == (⟨#[116,97,98,108,101]⟩:Yb).toList)
 (lf true)
 (lf false))
 (cn (a0.toList == (⟨#[116,97,108,108,121]⟩:Yb).toList)
 (cn (a0.toList == (⟨#[116,97,108,108,121]⟩:Yb).toList)
 (lf true)
 (lf false))
 (cn (a0.toList == (⟨#[116,105,99,107,115]⟩:Yb).toList)
 (cn (a0.toList == (⟨#[116,105,99,107,115]⟩:Yb).toList)
 (lf true)
 (lf false))
 (cn (a0.toList == (⟨#[116,105,109,101]⟩:Yb).toList)
 (cn (a0.toList == (⟨#[116,105,109,101]⟩:Yb).toList)
 (lf true)
 (lf false))
 (cn (a0.toList == (⟨#[116,114,117,101]⟩:Yb).toList)
 (cn (a0.toList == (⟨#[116,114,117,101]⟩:Yb).toList)
 (lf true)
 (lf false))
 (cn (a0.toList == (⟨#[117,110,105,102,111,114,109]⟩:Yb).toList)
 (cn (a0.toList == (⟨#[117,110,105,102,111,114,109]⟩:Yb).toList)
 (lf true)
 (lf false))
 (cn (a0.toList == (⟨#[117,110,116,105,108]⟩:Yb).toList)
 (cn (a0.toList == (⟨#[117,110,116,105,108]⟩:Yb).toList)
 (lf true)
 (lf false))
 (cn (a0.toList == (⟨#[117,112]⟩:Yb).toList)
 (cn (a0.toList == (⟨#[117,112]⟩:Yb).toList)
 (lf true)
 (lf false))
 (cn (a0.toList == (⟨#[118,97,114]⟩:Yb).toList)
 (cn (a0.toList == (⟨#[118,97,114]⟩:Yb).toList)
 (lf true)
 (lf false))
 (cn (a0.toList == (⟨#[119,97,105,116]⟩:Yb).toList)
 (cn (a0.toList == (⟨#[119,97,105,116]⟩:Yb).toList)
 (lf true)
 (lf false))
 (cn (a0.toList == (⟨#[119,97,105,116,105,110,103]⟩:Yb).toList)
 (cn (a0.toList == (⟨#[119,97,105,116,105,110,103]⟩:Yb).toList)
 (lf true)
 (lf false))
 (cn (a0.toList == (⟨#[119,104,105,108,101]⟩:Yb).toList)
 (lf true)
 (lf false))))))))))))))))))))))))))))))))))))))))))))))))))))))))))))))))))))))))))
def Wl(a0:Yb):Option Bool:=Abg L a0
def Bvm:N1:=E1 B 124 cS (Wl L) λa0 r h=>hF Tryz.func124 (oS []) L (λkk=>eE (Abg L a0)) h
def c75:=CC Tryz.f75
def O75:Bj:=oL [Bvl L,Bvm L]
def Bpf(a0:Yb)(v:Lw):St:=⟨[(0,S a0),(2,I v.1),(23,I (a0.size:Int)),(24,I v.2)],[],0⟩
def Qu [An A Rs](a0:Yb)(rec:Int->Int->A)(Aq:Int)(Ak:Int):A:=
 (cn (decide (Ak<(a0.size:Int)))
 (cn ((if 0<=Ak then a0[Int.toNat Ak]? else none).isSome)
 (bd (T4 L (Ni (if 0<=Ak then a0[Int.toNat Ak]? else none))) λr6=>
 (jp (.cn (!r6)
 (.cn (decide ((Ni (if 0<=Ak then a0[Int.toNat Ak]? else none))<48))
 (.lf true)
 (.lf (decide ((Ni (if 0<=Ak then a0[Int.toNat Ak]? else none))>57))))
 (.lf false)) (λb7=>
 (jp (.cn b7
 (.lf ((Ni (if 0<=Ak then a0[Int.toNat Ak]? else none)) != 95))
 (.lf false)) (λb8=>
 (cn b8
 (lf (0,3,Ak))
 (rec Aq (Bb (Ak+1)))))))))
 fl)
 (lf (1,Aq,Ak)))
def Kx(L:Nat)(a0:Yb):Nat->Int->Int->Option Rs
 |0,_,_=>none
 |n+1,Aq,Ak=>Qu L a0 (Kx L a0 n) Aq Ak
theorem Bnj(a0:Yb):LP (EV (O75 L) L 9 c75.w.l.u.l.l) [0,2,23,24] [] (Bpf a0) [.ret,.exit 0] (λn v=>Kx L a0 n v.1 v.2) K:=lE (λ_=>rfl) λn v ih=>eE (Qu L a0 (λAq Ak=>re (ih (Aq,Ak))) v.1 v.2)
def Vk [An A Int](L:Nat)(o9:Nat×Lw):A:=
 (sl o9.1 [(lf o9.2.1),
 (lf 0)])
def V1 [An A Int](a0:Yb)(nx1:A):A:=
 (jp (.cn (a0.toList == (⟨#[]⟩:Yb).toList)
 (.lf true)
 (.lf (decide ((a0.size:Int)>24)))) (λb1=>
 (jb (.cn b1
 (.lf true)
 (.cn ((if 0<=0 then a0[Int.toNat 0]? else none).isSome)
 (.bd (T4 L (Ni (if 0<=0 then a0[Int.toNat 0]? else none))) λr3=>
 (.lf (!r3)))
 .fl)) (λb2=>
 (jb (.cn b2
 (.lf true)
 (.bd (Wl L a0) λr5=>
 (.lf r5))) (λb4=>
 (cn b4
 (lf 3)
 nx1)))))))
def Al6 [An A Int](a0:Yb):A:=V1 L a0 (bd (Kx L a0 L 0 0) λo9=>Vk L o9)
def Dk(a0:Yb):Option Int:=Al6 L a0
def X75:N1:=E1 I 75 cS (Dk L) λa0 r h=>hF Tryz.func75 (C:=O75 L) (oS _) L (λkk=>eE (V1 L a0 (hq (Bnj L (KA (O75 L) L 9 c75 (rl [4,1,2,1]) (KE Tryz.f75 kk)) a0 L (0,0)) λo9=>Vk L o9))) h
def Afb [An A Bool](L:Nat)(a0:Int):A:=
 (jp (.cn (decide (a0>=1))
 (.lf (decide (a0<=3)))
 (.lf false)) (λb1=>
 (lf b1)))
def La(a0:Int):Option Bool:=Afb L a0
def Bkr:N1:=E1 B 201 (cI .i64) (La L) λa0 r h=>hF Tryz.func201 (oS []) L (λkk=>eE (Afb L a0)) h
def Aui [An A Bool](L:Nat)(a0:Int):A:=
 (jp (.cn (decide (a0>=(-1000000000000)))
 (.lf (decide (a0<=1000000000000)))
 (.lf false)) (λb1=>
 (lf b1)))
def Ac9(a0:Int):Option Bool:=Aui L a0
def Bkt:N1:=E1 B 211 (cI .i64) (Ac9 L) λa0 r h=>hF Tryz.func211 (oS []) L (λkk=>eE (Aui L a0)) h
def Ade [An A Bool](L:Nat)(a0:Int)(a1:Int)(a2:Int):A:=
 (jp (.cn (decide (a0>=a1))
 (.lf (decide (a0<=a2)))
 (.lf false)) (λb1=>
 (lf b1)))
def Bh(a0:Int)(a1:Int)(a2:Int):Option Bool:=Ade L a0 a1 a2
def A73:N1:=E3 B 134 (cI .i64) (cI .i64) (cI .i64) (Bh L) λa0 a1 a2 r h=>hF Tryz.func134 (oS []) L (λkk=>eE (Ade L a0 a1 a2)) h
def Ah0 [An A Bool](a0:Int)(a1:Int):A:=
 (cn (a0 == 1)
 (bd (Ac9 L a1) λr1=>
 (lf r1))
 (cn (a0 == 2)
 (jp (.cn (a1 == 0)
 (.lf true)
 (.lf (a1 == 1))) (λb2=>
 (lf b2)))
 (cn (a0 == 3)
 (bd (Bh L a1 0 1000000000) λr3=>
 (lf r3))
 (lf false))))
def Ry(a0:Int)(a1:Int):Option Bool:=Ah0 L a0 a1
def Bks:N1:=E2 B 202 (cI .i64) (cI .i64) (Ry L) λa0 a1 r h=>hF Tryz.func202 (oS [A73 L,Bkt L]) L (λkk=>eE (Ah0 L a0 a1)) h
def Brl:=CC Tryz.f135
def Bke:Bj:=oL [A73 L]
def Bhw(a0:Ah)(v:Lw):St:=⟨[(0,.any),Ajq,(2,I v.1),(12,.any),(17,.any),(23,lv (.eB a0.bP)),(24,I (a0.bP.length:Int)),(25,I v.2)],[(1,(Cq a0))],0⟩
def Qh [An A Rs](a0:Ah)(rec:Int->Int->A)(Av:Int)(Ak:Int):A:=
 (lw Ak a0.bP
 (bd (Bh L ((gD a0.bP Ak).At) 0 (Bb (a0.dM-1))) λr2=>
 (cn (!r2)
 (cn (!r2)
 (lf (0,2,Ak))
 (cn (decide (Ak>0))
 (gi (Bb (Ak-1)) a0.bP
 (cn (decide ((gD a0.bP Ak).At<=(gD a0.bP (Bb (Ak-1))).At))
 (lf (0,12,Ak))
 (rec Av (Bb (Ak+1)))))
 (rec Av (Bb (Ak+1)))))
 (bd (Bh L ((gD a0.bP Ak).Units) 0 1000) λr3=>
 (cn (!r3)
 (lf (0,2,Ak))
 (cn (decide (Ak>0))
 (gi (Bb (Ak-1)) a0.bP
 (cn (decide ((gD a0.bP Ak).At<=(gD a0.bP (Bb (Ak-1))).At))
 (lf (0,12,Ak))
 (rec Av (Bb (Ak+1)))))
 (rec Av (Bb (Ak+1))))))))
 (lf (1,Av,Ak)))
def Hx(L:Nat)(a0:Ah):Nat->Int->Int->Option Rs
 |0,_,_=>none
 |n+1,Av,Ak=>Qh L a0 (Hx L a0 n) Av Ak
theorem Bgn(a0:Ah):LP (EV (Bke L) L 9 Brl.w.u.l.u.l.l) [0,1,2,12,17,23,24,25] [1] (Bhw a0) [.ret,.exit 1] (λn v=>Hx L a0 n v.1 v.2) K:=lE (λ_=>rfl) λn v ih=>eE (Qh L a0 (λAv Ak=>re (ih (Av,Ak))) v.1 v.2)
def Qk [An A Int](L:Nat)(o4:Nat×Lw):A:=
 (sl o4.1 [(lf o4.2.1),
 (lf 0)])
def Qn [An A Int](a0:Ah)(nx1:A):A:=
 (cn ((a0.bP.length:Int) == 0)
 (cn (a0.dM != 0)
 (lf 1)
 (lf 0))
 (cn (decide ((a0.bP.length:Int)>20))
 (lf 6)
 (bd (Bh L a0.dM 1 1000000000) λr1=>
 (cn (!r1)
 (lf 2)
 nx1))))
def Afv [An A Int](a0:Ah):A:=Qn L a0 (bd (Hx L a0 L 0 0) λo4=>Qk L o4)
def Ui(a0:Ah):Option Int:=Afv L a0
def Bvn:N1:=E1 I 135 Alp (Ui L) λa0 r h=>hF Tryz.func135 (C:=Bke L) (oS _) L (λkk=>eE (Qn L a0 (hq (Bgn L (KA (Bke L) L 9 Brl (rl [6,1,2,1]) (KE Tryz.f135 kk)) a0 L (0,0)) λo4=>Qk L o4))) h
def Bsf:=CC Tryz.f232
def Bko(L:Nat):Bj:=oL []
def Bie(a0:List Int)(a1:List Int)(v:Tu4):St:=⟨[(0,lv (.t3 a0)),(1,lv (.t3 a1)),(4,B v.1),(12,I (a0.length:Int)),(13,I v.2)],[],0⟩
def Ob [An A (Nat×Tu4)](L:Nat)(a0:List Int)(a1:List Int)(rec:Bool->Int->A)(Bl:Bool)(Cs:Int):A:=
 (lw Cs a0
 (gi Cs a1
 (cn ((gD a0 Cs) != (gD a1 Cs))
 (lf (0,false,Cs))
 (rec Bl (Bb (Cs+1)))))
 (lf (1,Bl,Cs)))
def Gj(L:Nat)(a0:List Int)(a1:List Int):Nat->Bool->Int->Option (Nat×Tu4)
 |0,_,_=>none
 |n+1,Bl,Cs=>Ob L a0 a1 (Gj L a0 a1 n) Bl Cs
theorem Bg5(a0:List Int)(a1:List Int):LP (EV (Bko L) L 9 Bsf.w.l.u.l.l) [0,1,4,12,13] [] (Bie a0 a1) [.ret,.exit 0] (λn v=>Gj L a0 a1 n v.1 v.2) K:=lE (λ_=>rfl) λn v ih=>eE (Ob L a0 a1 (λBl Cs=>re (ih (Bl,Cs))) v.1 v.2)
def Oc [An A Bool](L:Nat)(o1:Nat×Tu4):A:=
 (sl o1.1 [(lf o1.2.1),
 (lf true)])
def Od [An A Bool](L:Nat)(a0:List Int)(a1:List Int)(nx1:A):A:=
 (cn ((a0.length:Int) != (a1.length:Int))
 (lf false)
 nx1)
def Adg [An A Bool](a0:List Int)(a1:List Int):A:=Od L a0 a1 (bd (Gj L a0 a1 L false 0) λo1=>Oc L o1)
def N2(a0:List Int)(a1:List Int):Option Bool:=Adg L a0 a1
def Bv3:N1:=E2 B 232 cl3 cl3 (N2 L) λa0 a1 r h=>hF Tryz.func232 (C:=Bko L) (oS _) L (λkk=>eE (Od L a0 a1 (hq (Bg5 L (KA (Bko L) L 9 Bsf (rl [4,1,2,1]) (KE Tryz.f232 kk)) a0 a1 L (false,0)) λo1=>Oc L o1))) h
def Aj4 [An A Bool](a0:Aj)(a1:Aj):A:=
 (jp (.cn (a0.Op == a1.Op)
 (.lf (a0.A == a1.A))
 (.lf false)) (λb1=>
 (jp (.cn b1
 (.lf (a0.B == a1.B))
 (.lf false)) (λb2=>
 (jp (.cn b2
 (.lf (a0.N == a1.N))
 (.lf false)) (λb3=>
 (jb (.cn b3
 (.bd (N2 L a0.bD a1.bD) λr5=>
 (.lf r5))
 (.lf false)) (λb4=>
 (jb (.cn b4
 (.bd (N2 L a0.bB a1.bB) λr7=>
 (.lf r7))
 (.lf false)) (λb6=>
 (lf b6)))))))))))
def Oz(a0:Aj)(a1:Aj):Option Bool:=Aj4 L a0 a1
def Bq2:N1:=E2 B 203 X2 X2 (Oz L) λa0 a1 r h=>hF Tryz.func203 (oS [Bv3 L]) L (λkk=>eE (Aj4 L a0 a1)) h
def Bsa:=CC Tryz.f184
def Bkl(L:Nat):Bj:=oL []
def Bia(a0:List Yb)(a1:Yb)(v:Lw):St:=⟨[(0,lv (.t9 a0)),(1,S a1),(4,I v.1),(7,I (a0.length:Int)),(8,I v.2)],[],0⟩
def Lf [An A Rs](L:Nat)(a0:List Yb)(a1:Yb)(rec:Int->Int->A)(Bl:Int)(Cs:Int):A:=
 (lw Cs a0
 (cn (a1.toList == (gD a0 Cs).toList)
 (lf (0,Cs,Cs))
 (rec Bl (Bb (Cs+1))))
 (lf (1,Bl,Cs)))
def Er(L:Nat)(a0:List Yb)(a1:Yb):Nat->Int->Int->Option Rs
 |0,_,_=>none
 |n+1,Bl,Cs=>Lf L a0 a1 (Er L a0 a1 n) Bl Cs
theorem Bg1(a0:List Yb)(a1:Yb):LP (EV (Bkl L) L 9 Bsa.u.l.u.l.l) [0,1,4,7,8] [] (Bia a0 a1) [.ret,.exit 0] (λn v=>Er L a0 a1 n v.1 v.2) K:=lE (λ_=>rfl) λn v ih=>eE (Lf L a0 a1 (λBl Cs=>re (ih (Bl,Cs))) v.1 v.2)
def P5 [An A Int](L:Nat)(o1:Nat×Lw):A:=
 (sl o1.1 [(lf o1.2.1),
 (lf (-1))])
def Zv [An A Int](a0:List Yb)(a1:Yb):A:=(bd (Er L a0 a1 L 0 0) λo1=>P5 L o1)
def D0(a0:List Yb)(a1:Yb):Option Int:=Zv L a0 a1
def Bq0:N1:=E2 I 184 cl9 cS (D0 L) λa0 a1 r h=>hF Tryz.func184 (C:=Bkl L) (oS _) L (λkk=>eE ((hq (Bg1 L (KA (Bkl L) L 9 Bsa (rl [2,1,2,1]) (KE Tryz.f184 kk)) a0 a1 L (0,0)) λo1=>P5 L o1))) h
def P0 [An A Bool](a0:List Yb)(a1:Yb):A:=
 (bd (D0 L a0 a1) λr1=>
 (lf (decide (r1>=0))))
def Cj(a0:List Yb)(a1:Yb):Option Bool:=P0 L a0 a1
def Bq3:N1:=E2 B 204 cl9 cS (Cj L) λa0 a1 r h=>hF Tryz.func204 (oS [Bq0 L]) L (λkk=>eE (P0 L a0 a1)) h
def Ae8 [An A Bool](L:Nat)(a0:Aj):A:=
 (cn (a0.Op == 1)
 (jp (.cn ((Bb ((a0.bD.length:Int)+(a0.bB.length:Int))) == 0)
 (.lf (a0.B == 0))
 (.lf false)) (λb1=>
 (jp (.cn b1
 (.lf (a0.N == 0))
 (.lf false)) (λb2=>
 (lf b2)))))
 (cn (a0.Op == 2)
 (cn (a0.Op == 2)
 (jp (.cn ((Bb ((a0.bD.length:Int)+(a0.bB.length:Int))) == 0)
 (.lf (a0.N == 0))
 (.lf false)) (λb3=>
 (lf b3)))
 (cn (a0.Op == 4)
 (lf ((Bb ((a0.bD.length:Int)+(a0.bB.length:Int))) == 0))
 (cn (a0.Op == 3)
 (jp (.cn (a0.A == 0)
 (.lf (a0.B == 0))
 (.lf false)) (λb4=>
 (jp (.cn b4
 (.lf (a0.N == 0))
 (.lf false)) (λb5=>
 (lf b5)))))
 (lf false))))
 (cn (a0.Op == 5)
 (jp (.cn ((Bb ((a0.bD.length:Int)+(a0.bB.length:Int))) == 0)
 (.lf (a0.N == 0))
 (.lf false)) (λb6=>
 (lf b6)))
 (cn (a0.Op == 4)
 (lf ((Bb ((a0.bD.length:Int)+(a0.bB.length:Int))) == 0))
 (cn (a0.Op == 3)
 (jp (.cn (a0.A == 0)
 (.lf (a0.B == 0))
 (.lf false)) (λb7=>
 (jp (.cn b7
 (.lf (a0.N == 0))
 (.lf false)) (λb8=>
 (lf b8)))))
 (lf false))))))
def z7(a0:Aj):Option Bool:=Ae8 L a0
def Bv4:N1:=E1 B 233 X2 (z7 L) λa0 r h=>hF Tryz.func233 (oS []) L (λkk=>eE (Ae8 L a0)) h
def Bsh:=CC Tryz.f240
def Bsi:=CC Tryz.f246
def Bsg:=CC Tryz.f234
def A1x(L:Nat):Bj:=oL []
def Bif(p1_0:List Int)(p1_1:Int)(p1_2:Int)(v:Lw):St:=⟨[(0,lv (.t3 p1_0)),(1,Bdk),(4,I v.1),(7,I (p1_0.length:Int)),(8,I v.2)],[(3,[I p1_1]),(4,[I p1_2])],1005⟩
def Ut [An A Rs](L:Nat)(p1_0:List Int)(p1_1:Int)(p1_2:Int)(rec:Int->Int->A)(Aq:Int)(Ak:Int):A:=
 (lw Ak p1_0
 (jp (.cn (decide ((gD p1_0 Ak)<p1_1))
 (.lf true)
 (.lf (decide ((gD p1_0 Ak)>p1_2)))) (λb1=>
 (cn b1
 (lf (0,Ak,Ak))
 (rec Aq (Bb (Ak+1))))))
 (lf (1,Aq,Ak)))
def Kn(L:Nat)(p1_0:List Int)(p1_1:Int)(p1_2:Int):Nat->Int->Int->Option Rs
 |0,_,_=>none
 |n+1,Aq,Ak=>Ut L p1_0 p1_1 p1_2 (Kn L p1_0 p1_1 p1_2 n) Aq Ak
theorem Bg6(p1_0:List Int)(p1_1:Int)(p1_2:Int):LP (EV (A1x L) L 7 Bsi.u.l.u.l.l) [0,1,4,7,8] [3,4] (Bif p1_0 p1_1 p1_2) [.ret,.exit 0] (λn v=>Kn L p1_0 p1_1 p1_2 n v.1 v.2) K:=lE (λ_=>rfl) λn v ih=>eE (Ut L p1_0 p1_1 p1_2 (λAq Ak=>re (ih (Aq,Ak))) v.1 v.2)
def Bd2(p1_0:List Int)(p1_1:Int)(p1_2:Int)(k:Ei):Int->Prop:=λo=>k (I o) [(3,[I p1_1]),(4,[I p1_2])]
def n6 [An A Int](L:Nat)(o2:Nat×Lw):A:=
 (sl o2.1 [(lf o2.2.1),
 (lf (-1))])
def Af4 [An A Int](p1_0:List Int)(p1_1:Int)(p1_2:Int):A:=(bd (Kn L p1_0 p1_1 p1_2 L 0 0) λo2=>n6 L o2)
def d5(p1_0:List Int)(p1_1:Int)(p1_2:Int):Option Int:=Af4 L p1_0 p1_1 p1_2
theorem Bfz(p1_0:List Int)(p1_1:Int)(p1_2:Int):YO (A1x L) L 8 246 [lv (.t3 p1_0),Bdk] [(3,[I p1_1]),(4,[I p1_2])] k=ob (d5 L p1_0 p1_1 p1_2) (Bd2 p1_0 p1_1 p1_2 k):=(Dj _ _ _ jn4 _ _ _ _ _ _ _).trans (eE ((hq (Bg6 L (KA (A1x L) L 7 Bsi (rl [2,1,2,1]) (KJ Tryz.f246 k)) p1_0 p1_1 p1_2 L (0,0)) λo2=>n6 L o2)))
def U5 [An A Bool](L:Nat)(o3:Int):A:=
 (lf (!(decide (o3>=0))))
def Al1 [An A Bool](a0:Int)(a1:Int)(a2:List Int):A:=(bd (d5 L a2 a0 a1) λo3=>U5 L o3)
def Hc(a0:Int)(a1:Int)(a2:List Int):Option Bool:=Al1 L a0 a1 a2
def Bv5:N1:=E3 B 234 (cI .i64) (cI .i64) cl3 (Hc L) λa0 a1 a2 r h=>hF Tryz.func234 (C:=A1x L) (oS _) L (λkk=>eE ((hq (Bfz L (Rn (A1x L) L 8 2 3 Bsh.u.l ⟨[(6,Bdk),(5,lv (.t3 a2)),(0,lv (.t3 a2)),(1,Bdk),Axz],[(3,[I a0]),(4,[I a1])],1005⟩ (some 7) (kN (KA (A1x L) L 8 Bsh (rl [2,1]) (KJ Tryz.f240 (Rn (A1x L) L 9 2 3 Bsg.u.l ⟨[(8,Bdk),(7,lv (.t3 a2)),(2,lv (.t3 a2)),zq9,(4,.loc 4 0),(6,B false)],[(3,[I a0]),(4,[I a1])],0⟩ (some 9) (kN (KA (A1x L) L 9 Bsg (rl [2,1]) (KE Tryz.f234 kk)))))))) a2 a0 a1) λo3=>U5 L o3))) h
def Ahx [An A Int](a0:Aj):A:=
 (bd (z7 L a0) λr1=>
 (cn (!r1)
 (lf 1)
 (cn (a0.Op == 1)
 (bd (Hc L 0 1000000000 [a0.A]) λr2=>
 (cn (!r2)
 (lf 2)
 (lf 0)))
 (cn (a0.Op == 2)
 (bd (Hc L 0 1000000000 [a0.A,a0.B]) λr3=>
 (jp (.cn r3
 (.lf (decide (a0.A<=a0.B)))
 (.lf false)) (λb4=>
 (cn (!b4)
 (lf 2)
 (lf 0)))))
 (cn (a0.Op == 4)
 (bd (Hc L 1 20 [a0.N]) λr5=>
 (cn r5
 (jb (.bd (Hc L 0 1000000 [a0.A,a0.B]) λr7=>
 (.lf r7)) (λb6=>
 (jp (.cn b6
 (.lf (decide (a0.A<=a0.B)))
 (.lf false)) (λb8=>
 (cn (!b8)
 (lf 2)
 (lf 0))))))
 (nq (nq (lf 2)))))
 (cn (a0.Op == 5)
 (bd (Hc L 1 1000 [a0.A,a0.B]) λr9=>
 (cn (!r9)
 (lf 2)
 (lf 0)))
 (cn (a0.Op == 3)
 (cn ((a0.bD.length:Int) != (a0.bB.length:Int))
 (lf 8)
 (cn ((a0.bD.length:Int) == 0)
 (lf 7)
 (cn (decide ((a0.bD.length:Int)>20))
 (lf 6)
 (bd (Hc L 0 1000000000 a0.bD) λr10=>
 (jb (.cn r10
 (.bd (Hc L 1 1000 a0.bB) λr12=>
 (.lf r12))
 (.lf false)) (λb11=>
 (cn (!b11)
 (lf 2)
 (lf 0))))))))
 (lf 2))))))))
def Oy(a0:Aj):Option Int:=Ahx L a0
def Bq4:N1:=E1 I 205 X2 (Oy L) λa0 r h=>hF Tryz.func205 (oS [Bv4 L,Bv5 L]) L (λkk=>eE (Ahx L a0)) h
def Z2 [An A Int](a0:Ac)(a1:Qr):A:=
 (cn (a1.dK.toList == (⟨#[]⟩:Yb).toList)
 (bd (Oz L a1.Up (⟨0,0,0,0,[],[]⟩:Aj)) λr1=>
 (cn (!r1)
 (nq (lf 1))
 (bd (Oz L a1.Down (⟨0,0,0,0,[],[]⟩:Aj)) λr2=>
 (nq (cn (!r2)
 (lf 1)
 (cn (a1.dK.toList == (⟨#[]⟩:Yb).toList)
 (lf 0)
 (bd (Cj L a0.aR a1.dK) λr3=>
 (cn (!r3)
 (lf 5)
 (bd (Oy L a1.Up) λr4=>
 (cn (r4 != 0)
 (lf r4)
 (bd (Oy L a1.Down) λr5=>
 (lf r5))))))))))))
 (nq (cn (a1.dK.toList == (⟨#[]⟩:Yb).toList)
 (lf 0)
 (bd (Cj L a0.aR a1.dK) λr6=>
 (cn (!r6)
 (lf 5)
 (bd (Oy L a1.Up) λr7=>
 (cn (r7 != 0)
 (lf r7)
 (bd (Oy L a1.Down) λr8=>
 (lf r8)))))))))
def Uh(a0:Ac)(a1:Qr):Option Int:=Z2 L a0 a1
def Bvo:N1:=E2 I 136 Ie Azn (Uh L) λa0 a1 r h=>hF Tryz.func136 (oS [Bq2 L,Bq3 L,Bq4 L]) L (λkk=>eE (Z2 L a0 a1)) h
def c29:=CC Tryz.f29
def O29(L:Nat):Bj:=oL []
def Box(a0:List (List Ap))(v:Lw):St:=⟨[(0,lv (.t44 a0)),(2,.aV true (.dW [])),(3,I v.1),(6,.any),(8,.any),(9,lv (.t44 a0)),(10,I (a0.length:Int)),(11,I v.2),(27,.any)],[],0⟩
def Ig [An A Rs](L:Nat)(a0:List (List Ap))(rec:Int->Int->A)(Bl:Int)(Hs:Int):A:=
 (lw Hs a0
 (cn (decide ((Bb (Bl+((gD a0 Hs).length:Int)))<0))
 fl
 (rec (Bb (Bl+((gD a0 Hs).length:Int))) (Bb (Hs+1))))
 (lf (0,Bl,Hs)))
def Dl(L:Nat)(a0:List (List Ap)):Nat->Int->Int->Option Rs
 |0,_,_=>none
 |n+1,Bl,Hs=>Ig L a0 (Dl L a0 n) Bl Hs
theorem Bm2(a0:List (List Ap)):LP (EV (O29 L) L 9 c29.w.l.u.l.l) [0,2,3,6,8,9,10,11,27] [] (Box a0) [.exit 0] (λn v=>Dl L a0 n v.1 v.2) K:=lE (λ_=>rfl) λn v ih=>eE (Ig L a0 (λBl Hs=>re (ih (Bl,Hs))) v.1 v.2)
def Boy(a0:List (List Ap))(v:List Ap×Int):St:=⟨[(0,.any),(2,.aV true (.dW [])),(3,.any),(5,.any),(6,.aV true (.dW v.1)),(11,.any),(25,lv (.t44 a0)),(26,I (a0.length:Int)),(27,I v.2)],[],0⟩
def Ih [An A (Nat×List Ap×Int)](L:Nat)(a0:List (List Ap))(rec:List Ap->Int->A)(I6:List Ap)(Dp:Int):A:=
 (lw Dp a0
 (gq ((I6.length+(gD a0 Dp).length)*24<=140737488355328)
 (gq (I6.length+(gD a0 Dp).length<=maxLen)
 (rec (I6++(gD a0 Dp)) (Bb (Dp+1)))))
 (lf (0,I6,Dp)))
def Dm(L:Nat)(a0:List (List Ap)):Nat->List Ap->Int->Option (Nat×List Ap×Int)
 |0,_,_=>none
 |n+1,I6,Dp=>Ih L a0 (Dm L a0 n) I6 Dp
theorem Bm3(a0:List (List Ap)):LP (EV (O29 L) L 9 c29.x.l.u.l.l) [0,2,3,5,6,11,25,26,27] [] (Boy a0) [.exit 2] (λn v=>Dm L a0 n v.1 v.2) K:=lE (λ_=>rfl) λn v ih=>eE (Ih L a0 (λI6 Dp=>re (ih (I6,Dp))) v.1 v.2)
def Ik [An A (List Ap)](L:Nat)(o2:Nat×List Ap×Int):A:=
 (sl o2.1 [(lf o2.2.1)])
def Im [An A (List Ap)](L:Nat)(a0:List (List Ap))(o1:Nat×Lw)(nx2:A):A:=
 (sl o1.1 [(gq (0<=o1.2.1)
 (gq (o1.2.1*((24:Nat):Int)<=140737488355328)
 (gq (o1.2.1<=(4611686018427387904:Int))
 nx2)))])
def M6 [An A (List Ap)](a0:List (List Ap))(o1:Nat×Lw):A:=Im L a0 o1 (bd (Dm L a0 L [] 0) λo2=>Ik L o2)
def V5 [An A (List Ap)](a0:List (List Ap)):A:=(bd (Dl L a0 L 0 0) λo1=>M6 L a0 o1)
def Hn(a0:List (List Ap)):Option (List Ap):=V5 L a0
def X29:N1:=E1 (λ(x:List Ap)=>lv (.dW x)) 29 Bwk (Hn L) λa0 r h=>hF Tryz.func29 (C:=O29 L) (oS _) L (λkk=>eE ((hq (Bm2 L (KA (O29 L) L 9 c29 (rl [4,1,2,1]) (KE Tryz.f29 kk)) a0 L (0,0)) λo1=>Im L a0 o1 (hq (Bm3 L (KA (O29 L) L 9 c29 (rl [8,1,2,1]) (KE Tryz.f29 kk)) a0 L ([],0)) λo2=>Ik L o2)))) h
def Sp9(F:(List Ad)->Option Int):Prop:=∀y0 r,F y0=some r->Ho Tryz.prog 9 [Aax.en y0] I r
def c9:=CC Tryz.f9
def O9(R8:(List Ad)->Option Int)(L:Nat):Bj:=(orc 9 (A1 I Aax R8) (oL []))
theorem s9(R8:(List Ad)->Option Int)(hr9:Sp9 R8)(L:Nat):Df Tryz.prog (O9 R8 L):=(Dc (a1 _ hr9) (oS []))
def Bt6(a0:List Ad)(v:Lw):St:=⟨[(0,.any),(2,I 0),(3,I v.1),(8,lv (.eZ a0)),(9,I (a0.length:Int)),(10,I v.2)],[],0⟩
def Wz [An A Rs](R8:(List Ad)->Option Int)(L:Nat)(a0:List Ad)(rec:Int->Int->A)(Aq:Int)(Cs:Int):A:=
 (lw Cs a0
 (bd (R8 ((gD a0 Cs).aK)) λr1=>
 (bd (R8 ((gD a0 Cs).aY)) λr2=>
 (rec (Bb (Aq+(Bb (r1+r2)))) (Bb (Cs+1)))))
 (lf (0,Aq,Cs)))
def Mr(R8:(List Ad)->Option Int)(L:Nat)(a0:List Ad):Nat->Int->Int->Option Rs
 |0,_,_=>none
 |n+1,Aq,Cs=>Wz R8 L a0 (Mr R8 L a0 n) Aq Cs
theorem Bs7(R8:(List Ad)->Option Int)(L:Nat)(K:Hp)(a0:List Ad):LP (EV (O9 R8 L) L 9 c9.w.l.u.l.l) [0,2,3,8,9,10] [] (Bt6 a0) [.exit 0] (λn v=>Mr R8 L a0 n v.1 v.2) K:=lE (λ_=>rfl) λn v ih=>eE (Wz R8 L a0 (λAq Cs=>re (ih (Aq,Cs))) v.1 v.2)
def Xi [An A Int](R8:(List Ad)->Option Int)(L:Nat)(o3:Nat×Lw):A:=
 (sl o3.1 [(lf o3.2.1)])
def An3 [An A Int](R8:(List Ad)->Option Int)(L:Nat)(a0:List Ad):A:=(bd (Mr R8 L a0 L (a0.length:Int) 0) λo3=>Xi R8 L o3)
def Aht(R8:(List Ad)->Option Int)(L:Nat)(a0:List Ad):Option Int:=An3 R8 L a0
theorem b9(R8:(List Ad)->Option Int)(hr9:Sp9 R8)(L:Nat):Sp9 (Aht R8 L):=λa0 r h=>hF Tryz.func9 (s9 R8 hr9 L) L (λkk=>eE ((hq (Bs7 R8 L (KA (O9 R8 L) L 9 c9 (rl [4,1,2,1]) (KE Tryz.f9 kk)) a0 L ((a0.length:Int),0)) λo3=>Xi R8 L o3))) h
def Lb:Nat->(List Ad)->Option Int
 |0,_=>none
 |L+1,a0=>Aht (Lb L) L a0
theorem Bs1(L:Nat):Sp9 (Lb L):=by
 induction L with
 |zero=>exact λ_ _ h=>(by cases h)
 |succ L ih=>
  have i9:=ih;exact b9 (Lb L) i9 L
def X9(L:Nat):N1:=E1 I 9 Aax (Lb L) (Bs1 L)
def Bet(F:(List Ad)->Option Int):Prop:=∀y0 r,F y0=some r->Ho Tryz.prog 82 [Aax.en y0] I r
def c82:=CC Tryz.f82
def O82(Jq:(List Ad)->Option Int)(L:Nat):Bj:=(orc 82 (A1 I Aax Jq) (oL []))
theorem s82(Jq:(List Ad)->Option Int)(Bl7:Bet Jq)(L:Nat):Df Tryz.prog (O82 Jq L):=(Dc (a1 _ Bl7) (oS []))
def Bpo(a0:List Ad)(v:Lw):St:=⟨[(0,.any),(2,I 0),(3,I v.1),(6,lv (.eZ a0)),(7,I (a0.length:Int)),(8,I v.2)],[],0⟩
def W0 [An A Rs](Jq:(List Ad)->Option Int)(L:Nat)(a0:List Ad)(rec:Int->Int->A)(Aq:Int)(Cs:Int):A:=
 (lw Cs a0
 (bd (Jq ((gD a0 Cs).aK)) λr1=>
 (bd (Jq ((gD a0 Cs).aY)) λr2=>
 (rec (if(Bb (1+r2))>(if(Bb (1+r1))>Aq then(Bb (1+r1))else Aq) then(Bb (1+r2)) else(if(Bb (1+r1))>Aq then(Bb (1+r1))else Aq)) (Bb (Cs+1)))))
 (lf (0,Aq,Cs)))
def Ms(Jq:(List Ad)->Option Int)(L:Nat)(a0:List Ad):Nat->Int->Int->Option Rs
 |0,_,_=>none
 |n+1,Aq,Cs=>W0 Jq L a0 (Ms Jq L a0 n) Aq Cs
theorem Bns(Jq:(List Ad)->Option Int)(L:Nat)(K:Hp)(a0:List Ad):LP (EV (O82 Jq L) L 9 c82.w.l.u.l.l) [0,2,3,6,7,8] [] (Bpo a0) [.exit 0] (λn v=>Ms Jq L a0 n v.1 v.2) K:=lE (λ_=>rfl) λn v ih=>eE (W0 Jq L a0 (λAq Cs=>re (ih (Aq,Cs))) v.1 v.2)
def Xj [An A Int](Jq:(List Ad)->Option Int)(L:Nat)(o3:Nat×Lw):A:=
 (sl o3.1 [(lf o3.2.1)])
def An4 [An A Int](Jq:(List Ad)->Option Int)(L:Nat)(a0:List Ad):A:=(bd (Ms Jq L a0 L 0 0) λo3=>Xj Jq L o3)
def Ahu(Jq:(List Ad)->Option Int)(L:Nat)(a0:List Ad):Option Int:=An4 Jq L a0
theorem b82(Jq:(List Ad)->Option Int)(Bl7:Bet Jq)(L:Nat):Bet (Ahu Jq L):=λa0 r h=>hF Tryz.func82 (s82 Jq Bl7 L) L (λkk=>eE ((hq (Bns Jq L (KA (O82 Jq L) L 9 c82 (rl [4,1,2,1]) (KE Tryz.f82 kk)) a0 L (0,0)) λo3=>Xj Jq L o3))) h
def Nd:Nat->(List Ad)->Option Int
 |0,_=>none
 |L+1,a0=>Ahu (Nd L) L a0
theorem Bly(L:Nat):Bet (Nd L):=by
 induction L with
 |zero=>exact λ_ _ h=>(by cases h)
 |succ L ih=>
  have i82:=ih;exact b82 (Nd L) i82 L
def X82(L:Nat):N1:=E1 I 82 Aax (Nd L) (Bly L)
end
end Go.Proofs.YtgacplpjamkieaaGreat.Ev
