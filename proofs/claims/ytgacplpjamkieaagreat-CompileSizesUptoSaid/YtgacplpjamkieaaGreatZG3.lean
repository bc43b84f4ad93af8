import Derived.Test.YtgacplpjamkieaaGreatZG1
import Derived.Test.YtgacplpjamkieaaGreatZG2
set_option maxRecDepth 100000
set_option maxHeartbeats 4000000
set_option linter.unusedVariables false
set_option linter.unusedSimpArgs false
set_option linter.unnecessarySimpa false
namespace Go.Proofs.YtgacplpjamkieaaGreat.Ev
open Go An
noncomputable section
variable {A:Type} (L n:Nat) (kk:Tb) (K:Hp) (k:Ei)
def Be6:=CC Tryz.f180
def Ajh:=CC Tryz.f235
def Ajg:=CC Tryz.f210
def Rp:Bj:=oL [X90 L,A73 L,Bq3 L]
def Bib(p1_0:List Ao)(p1_1:Ac)(p1_2:Ck)(v:Lw):St:=⟨[(0,lv (.t213 p1_0)),(1,zq4),(4,I v.1),(7,I (p1_0.length:Int)),(8,I v.2)],[(2,(Af p1_1)),(3,(Dx p1_2))],1004⟩
def Wy [An A Rs](L:Nat)(p1_0:List Ao)(p1_1:Ac)(p1_2:Ck)(rec:Int->Int->A)(Aq:Int)(Ak:Int):A:=
 (lw Ak p1_0
 (cn ((gD p1_0 Ak).aG.toList == p1_2.aG.toList)
 (lf (0,Ak,Ak))
 (rec Aq (Bb (Ak+1))))
 (lf (1,Aq,Ak)))
def Mq(L:Nat)(p1_0:List Ao)(p1_1:Ac)(p1_2:Ck):Nat->Int->Int->Option Rs
 |0,_,_=>none
 |n+1,Aq,Ak=>Wy L p1_0 p1_1 p1_2 (Mq L p1_0 p1_1 p1_2 n) Aq Ak
theorem Bg2(p1_0:List Ao)(p1_1:Ac)(p1_2:Ck):LP (EV (Rp L) L 7 Be6.u.l.u.l.l) [0,1,4,7,8] [2,3] (Bib p1_0 p1_1 p1_2) [.ret,.exit 0] (λn v=>Mq L p1_0 p1_1 p1_2 n v.1 v.2) K:=lE (λ_=>rfl) λn v ih=>eE (Wy L p1_0 p1_1 p1_2 (λAq Ak=>re (ih (Aq,Ak))) v.1 v.2)
def Bd1(p1_0:List Ao)(p1_1:Ac)(p1_2:Ck)(k:Ei):Int->Prop:=λo=>k (I o) [(2,(Af p1_1)),(3,(Dx p1_2))]
def Ab5 [An A Int](L:Nat)(o4:Nat×Lw):A:=
 (sl o4.1 [(lf o4.2.1),
 (lf (-1))])
def Ai9 [An A Int](p1_0:List Ao)(p1_1:Ac)(p1_2:Ck):A:=(bd (Mq L p1_0 p1_1 p1_2 L 0 0) λo4=>Ab5 L o4)
def F3(p1_0:List Ao)(p1_1:Ac)(p1_2:Ck):Option Int:=Ai9 L p1_0 p1_1 p1_2
theorem Acq(p1_0:List Ao)(p1_1:Ac)(p1_2:Ck):YO (Rp L) L 8 180 [lv (.t213 p1_0),zq4] [(2,(Af p1_1)),(3,(Dx p1_2))] k=ob (F3 L p1_0 p1_1 p1_2) (Bd1 p1_0 p1_1 p1_2 k):=(Dj _ _ _ jn4 _ _ _ _ _ _ _).trans (eE ((hq (Bg2 L (KA (Rp L) L 7 Be6 (rl [2,1,2,1]) (KJ Tryz.f180 k)) p1_0 p1_1 p1_2 L (0,0)) λo4=>Ab5 L o4)))
def Xb [An A Int](a1:Ck)(o38:Int):A:=
 (cn (!(decide (o38>=0)))
 (lf 5)
 (bd (Bh L a1.bW (-1000) 1000) λr39=>
 (jp (.cn (!r39)
 (.lf true)
 (.lf (a1.bW == 0))) (λb40=>
 (cn b40
 (lf 2)
 (lf 0))))))
def Xc [An A Int](a1:Ck)(o41:Int):A:=
 (cn (!(decide (o41>=0)))
 (lf 5)
 (bd (Bh L a1.bW (-1000) 1000) λr42=>
 (jp (.cn (!r42)
 (.lf true)
 (.lf (a1.bW == 0))) (λb43=>
 (cn b43
 (lf 2)
 (lf 0))))))
def Xd [An A Int](a1:Ck)(o44:Int):A:=
 (cn (!(decide (o44>=0)))
 (lf 5)
 (bd (Bh L a1.bW (-1000) 1000) λr45=>
 (jp (.cn (!r45)
 (.lf true)
 (.lf (a1.bW == 0))) (λb46=>
 (cn b46
 (lf 2)
 (lf 0))))))
def Xe [An A Int](a1:Ck)(o47:Int):A:=
 (cn (!(decide (o47>=0)))
 (lf 5)
 (bd (Bh L a1.bW (-1000) 1000) λr48=>
 (jp (.cn (!r48)
 (.lf true)
 (.lf (a1.bW == 0))) (λb49=>
 (cn b49
 (lf 2)
 (lf 0))))))
def Xf [An A Int](a1:Ck)(o50:Int):A:=
 (cn (!(decide (o50>=0)))
 (lf 5)
 (bd (Bh L a1.bW (-1000) 1000) λr51=>
 (jp (.cn (!r51)
 (.lf true)
 (.lf (a1.bW == 0))) (λb52=>
 (cn b52
 (lf 2)
 (lf 0))))))
def Xg [An A Int](a1:Ck)(o53:Int):A:=
 (cn (!(decide (o53>=0)))
 (lf 5)
 (bd (Bh L a1.bW (-1000) 1000) λr54=>
 (jp (.cn (!r54)
 (.lf true)
 (.lf (a1.bW == 0))) (λb55=>
 (cn b55
 (lf 2)
 (lf 0))))))
def Xh [An A Int](a1:Ck)(o56:Int):A:=
 (cn (!(decide (o56>=0)))
 (lf 5)
 (bd (Bh L a1.bW (-1000) 1000) λr57=>
 (jp (.cn (!r57)
 (.lf true)
 (.lf (a1.bW == 0))) (λb58=>
 (cn b58
 (lf 2)
 (lf 0))))))
def Vi [An A Int](a1:Ck)(o59:Int):A:=
 (cn (!(decide (o59>=0)))
 (lf 5)
 (bd (Bh L a1.bW (-1000) 1000) λr60=>
 (jp (.cn (!r60)
 (.lf true)
 (.lf (a1.bW == 0))) (λb61=>
 (cn b61
 (lf 2)
 (lf 0))))))
def Vj [An A Int](a1:Ck)(o62:Int):A:=
 (cn (!(decide (o62>=0)))
 (lf 5)
 (bd (Bh L a1.bW (-1000) 1000) λr63=>
 (jp (.cn (!r63)
 (.lf true)
 (.lf (a1.bW == 0))) (λb64=>
 (cn b64
 (lf 2)
 (lf 0))))))
def Xm [An A Int](a0:Ac)(a1:Ck)(nx3:A)(nx4:A)(nx5:A)(nx6:A)(nx7:A)(nx8:A)(nx9:A)(nx10:A)(nx11:A):A:=
 (cn (a1.bN.toList == (⟨#[99,114,101,97,116,101,100]⟩:Yb).toList)
 (cn (a1.bN.toList == (⟨#[99,114,101,97,116,101,100]⟩:Yb).toList)
 (bd (Ej L a0 a1.aG) λr1=>
 (cn (!(decide (r1>=0)))
 (lf 5)
 (bd (Bh L a1.bW (-1000) 1000) λr2=>
 (jp (.cn (!r2)
 (.lf true)
 (.lf (a1.bW == 0))) (λb3=>
 (cn b3
 (lf 2)
 (lf 0)))))))
 (cn (a1.bN.toList == (⟨#[115,116,111,114,101,100]⟩:Yb).toList)
 (cn (a1.bN.toList == (⟨#[115,116,111,114,101,100]⟩:Yb).toList)
 nx3
 (cn (a1.bN.toList == (⟨#[99,111,117,110,116,101,100]⟩:Yb).toList)
 (bd (Cj L a0.aU a1.aG) λr5=>
 (cn (!r5)
 (lf 5)
 (bd (Bh L a1.bW (-1000) 1000) λr6=>
 (jp (.cn (!r6)
 (.lf true)
 (.lf (a1.bW == 0))) (λb7=>
 (cn b7
 (lf 2)
 (lf 0)))))))
 (lf 1)))
 (cn (a1.bN.toList == (⟨#[101,110,116,101,114,101,100]⟩:Yb).toList)
 (cn (a1.bN.toList == (⟨#[101,110,116,101,114,101,100]⟩:Yb).toList)
 nx4
 (cn (a1.bN.toList == (⟨#[99,111,117,110,116,101,100]⟩:Yb).toList)
 (bd (Cj L a0.aU a1.aG) λr8=>
 (cn (!r8)
 (lf 5)
 (bd (Bh L a1.bW (-1000) 1000) λr9=>
 (jp (.cn (!r9)
 (.lf true)
 (.lf (a1.bW == 0))) (λb10=>
 (cn b10
 (lf 2)
 (lf 0)))))))
 (lf 1)))
 (cn (a1.bN.toList == (⟨#[108,101,102,116]⟩:Yb).toList)
 nx5
 (cn (a1.bN.toList == (⟨#[99,111,117,110,116,101,100]⟩:Yb).toList)
 (bd (Cj L a0.aU a1.aG) λr11=>
 (cn (!r11)
 (lf 5)
 (bd (Bh L a1.bW (-1000) 1000) λr12=>
 (jp (.cn (!r12)
 (.lf true)
 (.lf (a1.bW == 0))) (λb13=>
 (cn b13
 (lf 2)
 (lf 0)))))))
 (lf 1))))))
 (cn (a1.bN.toList == (⟨#[101,110,100,101,100]⟩:Yb).toList)
 (cn (a1.bN.toList == (⟨#[101,110,100,101,100]⟩:Yb).toList)
 (bd (Ej L a0 a1.aG) λr14=>
 (cn (!(decide (r14>=0)))
 (lf 5)
 (bd (Bh L a1.bW (-1000) 1000) λr15=>
 (jp (.cn (!r15)
 (.lf true)
 (.lf (a1.bW == 0))) (λb16=>
 (cn b16
 (lf 2)
 (lf 0)))))))
 (cn (a1.bN.toList == (⟨#[115,116,111,114,101,100]⟩:Yb).toList)
 (cn (a1.bN.toList == (⟨#[115,116,111,114,101,100]⟩:Yb).toList)
 nx6
 (cn (a1.bN.toList == (⟨#[99,111,117,110,116,101,100]⟩:Yb).toList)
 (bd (Cj L a0.aU a1.aG) λr17=>
 (cn (!r17)
 (lf 5)
 (bd (Bh L a1.bW (-1000) 1000) λr18=>
 (jp (.cn (!r18)
 (.lf true)
 (.lf (a1.bW == 0))) (λb19=>
 (cn b19
 (lf 2)
 (lf 0)))))))
 (lf 1)))
 (cn (a1.bN.toList == (⟨#[101,110,116,101,114,101,100]⟩:Yb).toList)
 (cn (a1.bN.toList == (⟨#[101,110,116,101,114,101,100]⟩:Yb).toList)
 nx7
 (cn (a1.bN.toList == (⟨#[99,111,117,110,116,101,100]⟩:Yb).toList)
 (bd (Cj L a0.aU a1.aG) λr20=>
 (cn (!r20)
 (lf 5)
 (bd (Bh L a1.bW (-1000) 1000) λr21=>
 (jp (.cn (!r21)
 (.lf true)
 (.lf (a1.bW == 0))) (λb22=>
 (cn b22
 (lf 2)
 (lf 0)))))))
 (lf 1)))
 (cn (a1.bN.toList == (⟨#[108,101,102,116]⟩:Yb).toList)
 nx8
 (cn (a1.bN.toList == (⟨#[99,111,117,110,116,101,100]⟩:Yb).toList)
 (bd (Cj L a0.aU a1.aG) λr23=>
 (cn (!r23)
 (lf 5)
 (bd (Bh L a1.bW (-1000) 1000) λr24=>
 (jp (.cn (!r24)
 (.lf true)
 (.lf (a1.bW == 0))) (λb25=>
 (cn b25
 (lf 2)
 (lf 0)))))))
 (lf 1))))))
 (cn (a1.bN.toList == (⟨#[105,110,115,105,100,101]⟩:Yb).toList)
 (bd (Ej L a0 a1.aG) λr26=>
 (cn (!(decide (r26>=0)))
 (lf 5)
 (bd (Bh L a1.bW (-1000) 1000) λr27=>
 (jp (.cn (!r27)
 (.lf true)
 (.lf (a1.bW == 0))) (λb28=>
 (cn b28
 (lf 2)
 (lf 0)))))))
 (cn (a1.bN.toList == (⟨#[115,116,111,114,101,100]⟩:Yb).toList)
 (cn (a1.bN.toList == (⟨#[115,116,111,114,101,100]⟩:Yb).toList)
 nx9
 (cn (a1.bN.toList == (⟨#[99,111,117,110,116,101,100]⟩:Yb).toList)
 (bd (Cj L a0.aU a1.aG) λr29=>
 (cn (!r29)
 (lf 5)
 (bd (Bh L a1.bW (-1000) 1000) λr30=>
 (jp (.cn (!r30)
 (.lf true)
 (.lf (a1.bW == 0))) (λb31=>
 (cn b31
 (lf 2)
 (lf 0)))))))
 (lf 1)))
 (cn (a1.bN.toList == (⟨#[101,110,116,101,114,101,100]⟩:Yb).toList)
 (cn (a1.bN.toList == (⟨#[101,110,116,101,114,101,100]⟩:Yb).toList)
 nx10
 (cn (a1.bN.toList == (⟨#[99,111,117,110,116,101,100]⟩:Yb).toList)
 (bd (Cj L a0.aU a1.aG) λr32=>
 (cn (!r32)
 (lf 5)
 (bd (Bh L a1.bW (-1000) 1000) λr33=>
 (jp (.cn (!r33)
 (.lf true)
 (.lf (a1.bW == 0))) (λb34=>
 (cn b34
 (lf 2)
 (lf 0)))))))
 (lf 1)))
 (cn (a1.bN.toList == (⟨#[108,101,102,116]⟩:Yb).toList)
 nx11
 (cn (a1.bN.toList == (⟨#[99,111,117,110,116,101,100]⟩:Yb).toList)
 (bd (Cj L a0.aU a1.aG) λr35=>
 (cn (!r35)
 (lf 5)
 (bd (Bh L a1.bW (-1000) 1000) λr36=>
 (jp (.cn (!r36)
 (.lf true)
 (.lf (a1.bW == 0))) (λb37=>
 (cn b37
 (lf 2)
 (lf 0)))))))
 (lf 1))))))))
def An2 [An A Int](a0:Ac)(a1:Ck):A:=Xm L a0 a1 (bd (F3 L a0.aO a0 a1) λo38=>Xb L a1 o38) (bd (F3 L a0.aO a0 a1) λo41=>Xc L a1 o41) (bd (F3 L a0.aO a0 a1) λo44=>Xd L a1 o44) (bd (F3 L a0.aO a0 a1) λo47=>Xe L a1 o47) (bd (F3 L a0.aO a0 a1) λo50=>Xf L a1 o50) (bd (F3 L a0.aO a0 a1) λo53=>Xg L a1 o53) (bd (F3 L a0.aO a0 a1) λo56=>Xh L a1 o56) (bd (F3 L a0.aO a0 a1) λo59=>Vi L a1 o59) (bd (F3 L a0.aO a0 a1) λo62=>Vj L a1 o62)
def Uj(a0:Ac)(a1:Ck):Option Int:=An2 L a0 a1
def Bvx:N1:=E2 I 210 Ie A18 (Uj L) λa0 a1 r h=>hF Tryz.func210 (C:=Rp L) (oS _) L (λkk=>eE (Xm L a0 a1 (hq (Acq L (Rn (Rp L) L 8 2 3 Ajh.u.l ⟨[(6,zq4),(5,lv (.t213 a0.aO)),(0,lv (.t213 a0.aO)),(1,zq4),Axz],[(2,(Af a0)),(3,(Dx a1))],1004⟩ (some 7) (kN (KA (Rp L) L 8 Ajh (rl [2,1]) (KJ Tryz.f235 (Rn (Rp L) L 9 1 4 Ajg.w.l.u.l.w.r.l ⟨[(23,zq4),(22,lv (.t213 a0.aO)),A1q,Ab9,zq9,(4,I 0),A1s,(7,S a1.bN),(17,B (a1.bN.toList == (⟨#[115,116,111,114,101,100]⟩:Yb).toList))],[(2,(Af a0)),(3,(Dx a1))],0⟩ (some 24) (kN (KA (Rp L) L 9 Ajg (rl [4,1,2,1,5,1]) (KE Tryz.f210 kk)))))))) a0.aO a0 a1) λo38=>Xb L a1 o38) (hq (Acq L (Rn (Rp L) L 8 2 3 Ajh.u.l ⟨[(6,zq4),(5,lv (.t213 a0.aO)),(0,lv (.t213 a0.aO)),(1,zq4),Axz],[(2,(Af a0)),(3,(Dx a1))],1004⟩ (some 7) (kN (KA (Rp L) L 8 Ajh (rl [2,1]) (KJ Tryz.f235 (Rn (Rp L) L 9 1 4 Ajg.w.l.u.l.w.r.l ⟨[(23,zq4),(22,lv (.t213 a0.aO)),A1q,Ab9,zq9,(4,I 0),A1s,(7,S a1.bN),(17,B (a1.bN.toList == (⟨#[101,110,116,101,114,101,100]⟩:Yb).toList))],[(2,(Af a0)),(3,(Dx a1))],0⟩ (some 24) (kN (KA (Rp L) L 9 Ajg (rl [4,1,2,1,5,1]) (KE Tryz.f210 kk)))))))) a0.aO a0 a1) λo41=>Xc L a1 o41) (hq (Acq L (Rn (Rp L) L 8 2 3 Ajh.u.l ⟨[(6,zq4),(5,lv (.t213 a0.aO)),(0,lv (.t213 a0.aO)),(1,zq4),Axz],[(2,(Af a0)),(3,(Dx a1))],1004⟩ (some 7) (kN (KA (Rp L) L 8 Ajh (rl [2,1]) (KJ Tryz.f235 (Rn (Rp L) L 9 1 4 Ajg.w.l.u.l.w.r.l ⟨[(23,zq4),(22,lv (.t213 a0.aO)),A1q,Ab9,zq9,(4,I 0),A1s,(7,S a1.bN),(17,B (a1.bN.toList == (⟨#[108,101,102,116]⟩:Yb).toList))],[(2,(Af a0)),(3,(Dx a1))],0⟩ (some 24) (kN (KA (Rp L) L 9 Ajg (rl [4,1,2,1,5,1]) (KE Tryz.f210 kk)))))))) a0.aO a0 a1) λo44=>Xd L a1 o44) (hq (Acq L (Rn (Rp L) L 8 2 3 Ajh.u.l ⟨[(6,zq4),(5,lv (.t213 a0.aO)),(0,lv (.t213 a0.aO)),(1,zq4),Axz],[(2,(Af a0)),(3,(Dx a1))],1004⟩ (some 7) (kN (KA (Rp L) L 8 Ajh (rl [2,1]) (KJ Tryz.f235 (Rn (Rp L) L 9 1 4 Ajg.w.l.u.l.w.r.l ⟨[(23,zq4),(22,lv (.t213 a0.aO)),A1q,Ab9,zq9,(4,I 0),A1s,(7,S a1.bN),(17,B (a1.bN.toList == (⟨#[115,116,111,114,101,100]⟩:Yb).toList))],[(2,(Af a0)),(3,(Dx a1))],0⟩ (some 24) (kN (KA (Rp L) L 9 Ajg (rl [4,1,2,1,5,1]) (KE Tryz.f210 kk)))))))) a0.aO a0 a1) λo47=>Xe L a1 o47) (hq (Acq L (Rn (Rp L) L 8 2 3 Ajh.u.l ⟨[(6,zq4),(5,lv (.t213 a0.aO)),(0,lv (.t213 a0.aO)),(1,zq4),Axz],[(2,(Af a0)),(3,(Dx a1))],1004⟩ (some 7) (kN (KA (Rp L) L 8 Ajh (rl [2,1]) (KJ Tryz.f235 (Rn (Rp L) L 9 1 4 Ajg.w.l.u.l.w.r.l ⟨[(23,zq4),(22,lv (.t213 a0.aO)),A1q,Ab9,zq9,(4,I 0),A1s,(7,S a1.bN),(17,B (a1.bN.toList == (⟨#[101,110,116,101,114,101,100]⟩:Yb).toList))],[(2,(Af a0)),(3,(Dx a1))],0⟩ (some 24) (kN (KA (Rp L) L 9 Ajg (rl [4,1,2,1,5,1]) (KE Tryz.f210 kk)))))))) a0.aO a0 a1) λo50=>Xf L a1 o50) (hq (Acq L (Rn (Rp L) L 8 2 3 Ajh.u.l ⟨[(6,zq4),(5,lv (.t213 a0.aO)),(0,lv (.t213 a0.aO)),(1,zq4),Axz],[(2,(Af a0)),(3,(Dx a1))],1004⟩ (some 7) (kN (KA (Rp L) L 8 Ajh (rl [2,1]) (KJ Tryz.f235 (Rn (Rp L) L 9 1 4 Ajg.w.l.u.l.w.r.l ⟨[(23,zq4),(22,lv (.t213 a0.aO)),A1q,Ab9,zq9,(4,I 0),A1s,(7,S a1.bN),(17,B (a1.bN.toList == (⟨#[108,101,102,116]⟩:Yb).toList))],[(2,(Af a0)),(3,(Dx a1))],0⟩ (some 24) (kN (KA (Rp L) L 9 Ajg (rl [4,1,2,1,5,1]) (KE Tryz.f210 kk)))))))) a0.aO a0 a1) λo53=>Xg L a1 o53) (hq (Acq L (Rn (Rp L) L 8 2 3 Ajh.u.l ⟨[(6,zq4),(5,lv (.t213 a0.aO)),(0,lv (.t213 a0.aO)),(1,zq4),Axz],[(2,(Af a0)),(3,(Dx a1))],1004⟩ (some 7) (kN (KA (Rp L) L 8 Ajh (rl [2,1]) (KJ Tryz.f235 (Rn (Rp L) L 9 1 4 Ajg.w.l.u.l.w.r.l ⟨[(23,zq4),(22,lv (.t213 a0.aO)),A1q,Ab9,zq9,(4,I 0),A1s,(7,S a1.bN),(17,B (a1.bN.toList == (⟨#[115,116,111,114,101,100]⟩:Yb).toList))],[(2,(Af a0)),(3,(Dx a1))],0⟩ (some 24) (kN (KA (Rp L) L 9 Ajg (rl [4,1,2,1,5,1]) (KE Tryz.f210 kk)))))))) a0.aO a0 a1) λo56=>Xh L a1 o56) (hq (Acq L (Rn (Rp L) L 8 2 3 Ajh.u.l ⟨[(6,zq4),(5,lv (.t213 a0.aO)),(0,lv (.t213 a0.aO)),(1,zq4),Axz],[(2,(Af a0)),(3,(Dx a1))],1004⟩ (some 7) (kN (KA (Rp L) L 8 Ajh (rl [2,1]) (KJ Tryz.f235 (Rn (Rp L) L 9 1 4 Ajg.w.l.u.l.w.r.l ⟨[(23,zq4),(22,lv (.t213 a0.aO)),A1q,Ab9,zq9,(4,I 0),A1s,(7,S a1.bN),(17,B (a1.bN.toList == (⟨#[101,110,116,101,114,101,100]⟩:Yb).toList))],[(2,(Af a0)),(3,(Dx a1))],0⟩ (some 24) (kN (KA (Rp L) L 9 Ajg (rl [4,1,2,1,5,1]) (KE Tryz.f210 kk)))))))) a0.aO a0 a1) λo59=>Vi L a1 o59) (hq (Acq L (Rn (Rp L) L 8 2 3 Ajh.u.l ⟨[(6,zq4),(5,lv (.t213 a0.aO)),(0,lv (.t213 a0.aO)),(1,zq4),Axz],[(2,(Af a0)),(3,(Dx a1))],1004⟩ (some 7) (kN (KA (Rp L) L 8 Ajh (rl [2,1]) (KJ Tryz.f235 (Rn (Rp L) L 9 1 4 Ajg.w.l.u.l.w.r.l ⟨[(23,zq4),(22,lv (.t213 a0.aO)),A1q,Ab9,zq9,(4,I 0),A1s,(7,S a1.bN),(17,B (a1.bN.toList == (⟨#[108,101,102,116]⟩:Yb).toList))],[(2,(Af a0)),(3,(Dx a1))],0⟩ (some 24) (kN (KA (Rp L) L 9 Ajg (rl [4,1,2,1,5,1]) (KE Tryz.f210 kk)))))))) a0.aO a0 a1) λo62=>Vj L a1 o62))) h
def Ban:=CC Tryz.f206
def Be7:=CC Tryz.f207
def Bsb:=CC Tryz.f208
def Br0:=CC Tryz.f157
def Ajf:Bj:=oL [X75 L,Bvx L,Bkt L]
def A92(p10_0:Yb)(p10_1:Ac)(p10_2:List Yb)(p10_3:List Bool)(p10_4:Bg)(p10_5:Bg)(k:Ei):Dq->Prop:=λo=>k (I o.1) [(1,(Af p10_1)),Afs,(4,[.aP false false (.t9 o.2.1) (.t4 o.2.2)]),(1013,(Fs p10_4)),(2017,(Fs p10_5))]
def Af7 [An A Dq](p10_0:Yb)(p10_1:Ac)(p10_2:List Yb)(p10_3:List Bool)(p10_4:Bg)(p10_5:Bg):A:=
 (bd (Dk L p10_0) λr1=>
 (cn (r1 != 0)
 (lf (r1,p10_2,p10_3))
 (fq (p10_2.findIdx? λb=>p10_0 == b) (λi2=>
 (cn (p10_3.getD i2 default)
 (lf (4,p10_2,p10_3))
 (fq (p10_2.findIdx? λb=>p10_0 == b) (λi3=>
 (lf (0,p10_2,(p10_3.set i3 true))))
 (lf (0,(p10_2++ [p10_0]),(p10_3++ [true]))))))
 (fq (p10_2.findIdx? λb=>p10_0 == b) (λi4=>
 (lf (0,p10_2,(p10_3.set i4 true))))
 (lf (0,(p10_2++ [p10_0]),(p10_3++ [true])))))))
def d9(p10_0:Yb)(p10_1:Ac)(p10_2:List Yb)(p10_3:List Bool)(p10_4:Bg)(p10_5:Bg):Option Dq:=Af7 L p10_0 p10_1 p10_2 p10_3 p10_4 p10_5
theorem Bbj(p10_0:Yb)(p10_1:Ac)(p10_2:List Yb)(p10_3:List Bool)(p10_4:Bg)(p10_5:Bg):YO (Ajf L) L 7 79 [.mp 4,S p10_0] [(1,(Af p10_1)),Afs,(4,[.aP false false (.t9 p10_2) (.t4 p10_3)]),(1013,(Fs p10_4)),(2017,(Fs p10_5))] k=ob (d9 L p10_0 p10_1 p10_2 p10_3 p10_4 p10_5) (A92 p10_0 p10_1 p10_2 p10_3 p10_4 p10_5 k):=(Dj _ _ _ jn4 _ _ _ _ _ _ _).trans (eE (Af7 L p10_0 p10_1 p10_2 p10_3 p10_4 p10_5))
def Bh0(p11_0:List Ck)(p11_1:Ac)(p11_2:List Yb)(p11_3:List Bool)(p11_4:Bg)(p11_5:Bg)(v:Lw):St:=⟨[(0,.any),(1,.any),(2,.bK 209 0 At0),(6,I v.1),(14,lv (.dX p11_0)),(15,I (p11_0.length:Int)),(16,I v.2)],[(1,(Af p11_1)),Afs,(4,[.aP false false (.t9 p11_2) (.t4 p11_3)]),(1013,(Fs p11_4)),(2017,(Fs p11_5))],3018⟩
def Ww [An A Rs](p11_0:List Ck)(p11_1:Ac)(p11_2:List Yb)(p11_3:List Bool)(p11_4:Bg)(p11_5:Bg)(rec:Int->Int->A)(C3:Int)(C7:Int):A:=
 (lw C7 p11_0
 (bd (Uj L p11_1 (gD p11_0 C7)) λr6=>
 (cn (r6 != 0)
 (lf (0,r6,C7))
 (rec C3 (Bb (C7+1)))))
 (lf (1,C3,C7)))
def Mi(L:Nat)(p11_0:List Ck)(p11_1:Ac)(p11_2:List Yb)(p11_3:List Bool)(p11_4:Bg)(p11_5:Bg):Nat->Int->Int->Option Rs
 |0,_,_=>none
 |n+1,C3,C7=>Ww L p11_0 p11_1 p11_2 p11_3 p11_4 p11_5 (Mi L p11_0 p11_1 p11_2 p11_3 p11_4 p11_5 n) C3 C7
theorem Bgr(p11_0:List Ck)(p11_1:Ac)(p11_2:List Yb)(p11_3:List Bool)(p11_4:Bg)(p11_5:Bg):LP (EV (Ajf L) L 6 Bsb.w.l.u.l.l) [0,1,2,6,14,15,16] [1,3,4,1013,2017] (Bh0 p11_0 p11_1 p11_2 p11_3 p11_4 p11_5) [.ret,.exit 0] (λn v=>Mi L p11_0 p11_1 p11_2 p11_3 p11_4 p11_5 n v.1 v.2) K:=lE (λ_=>rfl) λn v ih=>eE (Ww L p11_0 p11_1 p11_2 p11_3 p11_4 p11_5 (λC3 C7=>re (ih (C3,C7))) v.1 v.2)
def A93(p11_0:List Ck)(p11_1:Ac)(p11_2:List Yb)(p11_3:List Bool)(p11_4:Bg)(p11_5:Bg)(k:Ei):Int->Prop:=λo=>k (I o) [(1,(Af p11_1)),Afs,(4,[.aP false false (.t9 p11_2) (.t4 p11_3)]),(1013,(Fs p11_4)),(2017,(Fs p11_5))]
def Agy [An A Int](L:Nat)(o7:Nat×Lw):A:=
 (sl o7.1 [(lf o7.2.1),
 (lf 0)])
def Ahe [An A Int](L:Nat)(p11_0:List Ck)(p11_1:Ac)(p11_2:List Yb)(p11_3:List Bool)(p11_4:Bg)(p11_5:Bg)(nx17:A):A:=
 (cn (decide ((p11_0.length:Int)>8))
 (lf 6)
 nx17)
def Aqh [An A Int](p11_0:List Ck)(p11_1:Ac)(p11_2:List Yb)(p11_3:List Bool)(p11_4:Bg)(p11_5:Bg):A:=Ahe L p11_0 p11_1 p11_2 p11_3 p11_4 p11_5 (bd (Mi L p11_0 p11_1 p11_2 p11_3 p11_4 p11_5 L 0 0) λo7=>Agy L o7)
def f5(p11_0:List Ck)(p11_1:Ac)(p11_2:List Yb)(p11_3:List Bool)(p11_4:Bg)(p11_5:Bg):Option Int:=Aqh L p11_0 p11_1 p11_2 p11_3 p11_4 p11_5
theorem Bbk(p11_0:List Ck)(p11_1:Ac)(p11_2:List Yb)(p11_3:List Bool)(p11_4:Bg)(p11_5:Bg):YO (Ajf L) L 7 208 [lv (.dX p11_0),I 8,.bK 209 0 At0] [(1,(Af p11_1)),Afs,(4,[.aP false false (.t9 p11_2) (.t4 p11_3)]),(1013,(Fs p11_4)),(2017,(Fs p11_5))] k=ob (f5 L p11_0 p11_1 p11_2 p11_3 p11_4 p11_5) (A93 p11_0 p11_1 p11_2 p11_3 p11_4 p11_5 k):=(Dj _ _ _ jn4 _ _ _ _ _ _ _).trans (eE (Ahe L p11_0 p11_1 p11_2 p11_3 p11_4 p11_5 (hq (Bgr L (KA (Ajf L) L 6 Bsb (rl [4,1,2,1]) (KJ Tryz.f208 k)) p11_0 p11_1 p11_2 p11_3 p11_4 p11_5 L (0,0)) λo7=>Agy L o7)))
def Bdz(p7_0:Bg)(p7_1:Ac)(p7_2:List Yb)(p7_3:List Bool)(p7_4:Bg)(k:Ei):Dq->Prop:=λo=>k (I o.1) [(1,(Af p7_1)),Afs,(4,[.aP false false (.t9 o.2.1) (.t4 o.2.2)]),(1013,(Fs p7_4)),(2017,(Fs p7_0))]
def n9 [An A Dq](o5:Dq)(p7_0:Bg)(o8:Int):A:=
 (cn (o8 != 0)
 (lf (o8,o5.2.1,o5.2.2))
 (bd (Ac9 L p7_0.Total) λr9=>
 (cn (!r9)
 (lf (2,o5.2.1,o5.2.2))
 (lf (0,o5.2.1,o5.2.2)))))
def w9 [An A Dq](L:Nat)(p7_0:Bg)(p7_1:Ac)(p7_4:Bg)(o5:Dq)(nx18:Dq->A):A:=
 (cn (o5.1 != 0)
 (lf (o5.1,o5.2.1,o5.2.2))
 (cn ((p7_0.bX.length:Int) == 0)
 (lf (7,o5.2.1,o5.2.2))
 (nx18 o5)))
def Agx [An A Dq](p7_0:Bg)(p7_1:Ac)(p7_4:Bg)(o5:Dq):A:=w9 L p7_0 p7_1 p7_4 o5 (λo5=>bd (f5 L p7_0.bX p7_1 o5.2.1 o5.2.2 p7_4 p7_0) λo8=>n9 L o5 p7_0 o8)
def Ai7 [An A Dq](p7_0:Bg)(p7_1:Ac)(p7_2:List Yb)(p7_3:List Bool)(p7_4:Bg):A:=(bd (d9 L p7_0.aG p7_1 p7_2 p7_3 p7_4 p7_0) λo5=>Agx L p7_0 p7_1 p7_4 o5)
def Oi(p7_0:Bg)(p7_1:Ac)(p7_2:List Yb)(p7_3:List Bool)(p7_4:Bg):Option Dq:=Ai7 L p7_0 p7_1 p7_2 p7_3 p7_4
theorem Bfx(p7_0:Bg)(p7_1:Ac)(p7_2:List Yb)(p7_3:List Bool)(p7_4:Bg):YO (Ajf L) L 8 207 [.agg (Fs p7_0),.loc 3 0,.loc 1 0] [(1,(Af p7_1)),Afs,(4,[.aP false false (.t9 p7_2) (.t4 p7_3)]),(1013,(Fs p7_4))] k=ob (Oi L p7_0 p7_1 p7_2 p7_3 p7_4) (Bdz p7_0 p7_1 p7_2 p7_3 p7_4 k):=(Dj _ _ _ jn4 _ _ _ _ _ _ _).trans (eE ((hq (Bbj L (Rn (Ajf L) L 7 1 4 Be7.u.l.l ⟨[(9,S p7_0.aG),(8,A1r),(7,.mp 4),Apz,(2,.loc 1 0),(3,A1r),(4,I 0)],[(1,(Af p7_1)),Afs,(4,[.aP false false (.t9 p7_2) (.t4 p7_3)]),(1013,(Fs p7_4)),(2017,(Fs p7_0))],2014⟩ (some 10) (kN (KA (Ajf L) L 7 Be7 (rl [2,2]) (KJ Tryz.f207 k)))) p7_0.aG p7_1 p7_2 p7_3 p7_4 p7_0) λo5=>w9 L p7_0 p7_1 p7_4 o5 (λo5=>hq (Bbk L (Rn (Ajf L) L 7 1 4 Be7.w.u.l.l ⟨[(20,.bK 209 0 At0),(19,lv (.dX p7_0.bX)),(18,.loc 2017 1),(2,.loc 1 0),(3,A1r),(4,I 0)],[(1,(Af p7_1)),Afs,(4,[.aP false false (.t9 o5.2.1) (.t4 o5.2.2)]),(1013,(Fs p7_4)),(2017,(Fs p7_0))],2014⟩ (some 21) (kN (KA (Ajf L) L 7 Be7 (rl [6,2]) (KJ Tryz.f207 k)))) p7_0.bX p7_1 o5.2.1 o5.2.2 p7_4 p7_0) λo8=>n9 L o5 p7_0 o8))))
def Bhz(p1_0:List Bg)(p1_1:Ac)(v:Tu3):St:=⟨[(0,.any),(1,.any),(2,.bK 207 0 Ans),(6,I v.1),(14,lv (.cO p1_0)),(15,I (p1_0.length:Int)),(16,I v.2.1)],[(1,(Af p1_1)),Afs,(4,[.aP false false (.t9 v.2.2.1) (.t4 v.2.2.2)])],1005⟩
def U7 [An A Rq](L:Nat)(Ak:Int)(Av:Int)(rec:Int->Int->List Yb->List Bool->A)(o10:Dq):A:=
 (cn (o10.1 != 0)
 (lf (0,o10.1,Ak,o10.2.1,o10.2.2))
 (rec Av (Bb (Ak+1)) o10.2.1 o10.2.2))
def Vr [An A Rq](L:Nat)(p1_0:List Bg)(p1_1:Ac)(rec:Int->Int->List Yb->List Bool->A)(Av:Int)(Ak:Int)(Ct:List Yb)(Cu:List Bool)(nx19:Int->(List Yb)->(List Bool)->Int->A):A:=
 (lw Ak p1_0
 (nx19 Ak Ct Cu Av)
 (lf (1,Av,Ak,Ct,Cu)))
def Abm [An A Rq](p1_0:List Bg)(p1_1:Ac)(rec:Int->Int->List Yb->List Bool->A)(Av:Int)(Ak:Int)(Ct:List Yb)(Cu:List Bool):A:=Vr L p1_0 p1_1 rec Av Ak Ct Cu (λAk Ct Cu Av=>bd (Oi L (gD p1_0 Ak) p1_1 Ct Cu (gD p1_0 Ak)) λo10=>U7 L Ak Av rec o10)
def Mh(L:Nat)(p1_0:List Bg)(p1_1:Ac):Nat->Int->Int->List Yb->List Bool->Option Rq
 |0,_,_,_,_=>none
 |n+1,Av,Ak,Ct,Cu=>Abm L p1_0 p1_1 (Mh L p1_0 p1_1 n) Av Ak Ct Cu
theorem Bgq(p1_0:List Bg)(p1_1:Ac):LP (EV (Ajf L) L 8 Ban.w.l.u.l.l) [0,1,2,6,14,15,16] [1,3,4] (Bhz p1_0 p1_1) [.ret,.exit 0] (λn v=>Mh L p1_0 p1_1 n v.1 v.2.1 v.2.2.1 v.2.2.2) K:=lE (λ_=>rfl) λn v ih=>eE (Vr L p1_0 p1_1 (λAv Ak Ct Cu=>re (ih (Av,Ak,Ct,Cu))) v.1 v.2.1 v.2.2.1 v.2.2.2 (λAk Ct Cu Av=>hq (Bfx L (Rn (Ajf L) L 8 1 3 Ban.w.l.u.l.l.w.l.l.u.l ⟨[(21,.agg (Fs (gD p1_0 Ak))),(20,.bK 207 0 Ans),(2,.bK 207 0 Ans),(6,I Av),(8,.loc 1013 0),(14,lv (.cO p1_0)),(15,I (p1_0.length:Int)),(16,I Ak),(17,B (decide (Ak<(p1_0.length:Int)))),(18,.ref (Fs (gD p1_0 Ak))),(19,.agg (Fs (gD p1_0 Ak)))],[(1,(Af p1_1)),Afs,(4,[.aP false false (.t9 Ct) (.t4 Cu)]),(1013,(Fs (gD p1_0 Ak)))],1005⟩ (some 22) (kN (KA (Ajf L) L 8 Ban.w.l.u.l.l (rl [4,2,2,1]) (Jz (M8 (EV (Ajf L) L 8 Ban.w.l.u.l.l) [0,1,2,6,14,15,16] [1,3,4] n) [0,1,2,6,14,15,16] [1,3,4] K)))) (gD p1_0 Ak) p1_1 Ct Cu (gD p1_0 Ak)) λo10=>U7 L Ak Av (λAv Ak Ct Cu=>re (ih (Av,Ak,Ct,Cu))) o10))
def Bdy(p1_0:List Bg)(p1_1:Ac)(k:Ei):Dq->Prop:=λo=>k (I o.1) [(1,(Af p1_1)),Afs,(4,[.aP false false (.t9 o.2.1) (.t4 o.2.2)])]
def Agz [An A Dq](L:Nat)(o11:Nat×Tu3):A:=
 (sl o11.1 [(lf (o11.2.1,o11.2.2.2.1,o11.2.2.2.2)),
 (lf (0,o11.2.2.2.1,o11.2.2.2.2))])
def Ahf [An A Dq](L:Nat)(p1_0:List Bg)(p1_1:Ac)(nx20:A):A:=
 (cn (decide ((p1_0.length:Int)>32))
 (lf (6,[],[]))
 nx20)
def Ate [An A Dq](p1_0:List Bg)(p1_1:Ac):A:=Ahf L p1_0 p1_1 (bd (Mh L p1_0 p1_1 L 0 0 [] []) λo11=>Agz L o11)
def Abl(p1_0:List Bg)(p1_1:Ac):Option Dq:=Ate L p1_0 p1_1
theorem Bfw(p1_0:List Bg)(p1_1:Ac):YO (Ajf L) L 9 206 [lv (.cO p1_0),I 32,.bK 207 0 Ans] [(1,(Af p1_1)),Afs,(4,zq5)] k=ob (Abl L p1_0 p1_1) (Bdy p1_0 p1_1 k):=(Dj _ _ _ jn4 _ _ _ _ _ _ _).trans (eE (Ahf L p1_0 p1_1 (hq (Bgq L (KA (Ajf L) L 8 Ban (rl [4,1,2,1]) (KJ Tryz.f206 k)) p1_0 p1_1 L (0,0,[],[])) λo11=>Agz L o11)))
def U8 [An A Int](L:Nat)(o12:Dq):A:=
 (lf o12.1)
def An0 [An A Int](a0:Ac):A:=(bd (Abl L a0.Laws a0) λo12=>U8 L o12)
def Aci(a0:Ac):Option Int:=An0 L a0
def Bvs:N1:=E1 I 157 Ie (Aci L) λa0 r h=>hF Tryz.func157 (C:=Ajf L) (oS _) L (λkk=>eE ((hq (Bfw L (Rn (Ajf L) L 9 1 4 Br0.w.l ⟨[(7,.bK 207 0 Ans),(6,lv (.cO a0.Laws)),(5,.loc 1 12),Ajq,(2,I 0),zq9],[(1,(Af a0)),Afs,(4,zq5)],0⟩ (some 8) (kN (KA (Ajf L) L 9 Br0 (rl [4,1]) (KE Tryz.f157 kk)))) a0.Laws a0) λo12=>U8 L o12))) h
end
end Go.Proofs.YtgacplpjamkieaaGreat.Ev
