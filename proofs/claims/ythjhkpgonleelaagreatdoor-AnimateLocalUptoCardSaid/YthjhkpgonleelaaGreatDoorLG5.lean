import Derived.Test.YthjhkpgonleelaaGreatDoorLG1
import Derived.Test.YthjhkpgonleelaaGreatDoorLG2
import Derived.Test.YthjhkpgonleelaaGreatDoorLG4
set_option maxRecDepth 100000
set_option maxHeartbeats 4000000
set_option linter.unusedVariables false
set_option linter.unusedSimpArgs false
set_option linter.unnecessarySimpa false
namespace Go.Proofs.YthjhkpgonleelaaGreatDoor.Ev
open Go An
noncomputable section
variable {A:Type} (L n:Nat) (kk:K5) (K:Ef) (k:Dj)
def B5y:=CC Tryz.f159
def B5r:=CC Tryz.f121
def Bjl(L:Nat):Bc:=oL []
def Bvj(p1_0:List Aa)(p1_1:Ai)(p1_2:Yb)(v:Jc):St:=⟨[(0,lv (.t66 p1_0)),(1,.bI 160 0 Ae7),(4,I v.1),(7,I (p1_0.length:Int)),(8,I v.2)],[(2,(Bt p1_1)),(3,[S p1_2])],1004⟩
def Xj [An A C3](L:Nat)(p1_0:List Aa)(p1_1:Ai)(p1_2:Yb)(rec:Int->Int->A)(Ag:Int)(Af:Int):A:=
 (lw Af p1_0
 (cn ((gD p1_0 Af).aF.toList == p1_2.toList)
 (lf (0,Af,Af))
 (rec Ag (Bu (Af+1))))
 (lf (1,Ag,Af)))
def Kd(L:Nat)(p1_0:List Aa)(p1_1:Ai)(p1_2:Yb):Nat->Int->Int->Option C3
 |0,_,_=>none
 |n+1,Ag,Af=>Xj L p1_0 p1_1 p1_2 (Kd L p1_0 p1_1 p1_2 n) Ag Af
theorem Btw(p1_0:List Aa)(p1_1:Ai)(p1_2:Yb):LP (EV (Bjl L) L 8 B5y.u.l.u.l.l) [0,1,4,7,8] [2,3] (Bvj p1_0 p1_1 p1_2) [.ret,.exit 0] (λn v=>Kd L p1_0 p1_1 p1_2 n v.1 v.2) K:=lE (λ_=>rfl) λn v ih=>eE (Xj L p1_0 p1_1 p1_2 (λAg Af=>re (ih (Ag,Af))) v.1 v.2)
def Bp4(p1_0:List Aa)(p1_1:Ai)(p1_2:Yb)(k:Dj):Int->Prop:=λo=>k (I o) [(2,(Bt p1_1)),(3,[S p1_2])]
def Afy [An A Int](L:Nat)(o1:Nat×Jc):A:=
 (sl o1.1 [(lf o1.2.1),
 (lf (-1))])
def Ao7 [An A Int](p1_0:List Aa)(p1_1:Ai)(p1_2:Yb):A:=(bd (Kd L p1_0 p1_1 p1_2 L 0 0) λo1=>Afy L o1)
def Xd(p1_0:List Aa)(p1_1:Ai)(p1_2:Yb):Option Int:=Ao7 L p1_0 p1_1 p1_2
theorem Bsy(p1_0:List Aa)(p1_1:Ai)(p1_2:Yb):YO (Bjl L) L 9 159 [lv (.t66 p1_0),.bI 160 0 Ae7] [(2,(Bt p1_1)),(3,[S p1_2])] k=ob (Xd L p1_0 p1_1 p1_2) (Bp4 p1_0 p1_1 p1_2 k):=(C4 _ _ _ jn4 _ _ _ _ _ _ _).trans (eE ((hq (Btw L (KA (Bjl L) L 8 B5y (rl [2,1,2,1]) (KJ Tryz.f159 k)) p1_0 p1_1 p1_2 L (0,0)) λo1=>Afy L o1)))
def Xx [An A Int](L:Nat)(o2:Int):A:=
 (lf o2)
def Au1 [An A Int](a0:Ai)(a1:Yb):A:=(bd (Xd L a0.aA a0 a1) λo2=>Xx L o2)
def Zm(a0:Ai)(a1:Yb):Option Int:=Au1 L a0 a1
def B84:F3:=E2 I 121 Ve cS (Zm L) λa0 a1 r h=>hF Tryz.func121 (C:=Bjl L) (oS _) L (λkk=>eE ((hq (Bsy L (Md (Bjl L) L 9 1 4 B5r.u.l ⟨[(7,.bI 160 0 Ae7),(6,lv (.t66 a0.aA)),(5,.loc 2 2),Sw,Th,(4,I 0)],[(2,(Bt a0)),(3,[S a1])],0⟩ (some 8) (kN (KA (Bjl L) L 9 B5r (rl [2,1]) (KE Tryz.f121 kk)))) a0.aA a0 a1) λo2=>Xx L o2))) h
def Blz:=CC Tryz.f119
def c61:=CC Tryz.f61
def O61:Bc:=oL [X95 L,B84 L]
def Byc(p3_0:B9)(p3_1:Ai)(p3_2:List Bo)(p3_3:List Bool)(p3_4:B9)(k:Dj):A52->Prop:=λo=>k (I o.1) [(1,(Bt p3_1)),Ald,(4,[.aO true false (.eH o.2.1) (.t4 o.2.2)]),(1013,(Pq p3_4)),(2017,(Pq p3_0)),(2019,[S p3_0.aV,S p3_0.To])]
def Abs [An A A52](p3_0:B9)(p3_1:Ai)(p3_2:List Bo)(p3_3:List Bool)(p3_4:B9):A:=
 (bd (Zm L p3_1 p3_0.aV) λr1=>
 (jb (.cn (decide (r1<0))
 (.lf true)
 (.bd (Zm L p3_1 p3_0.To) λr3=>
 (.lf (decide (r3<0))))) (λb2=>
 (cn b2
 (lf (5,p3_2,p3_3))
 (cn (p3_0.aV.toList == p3_0.To.toList)
 (lf (1,p3_2,p3_3))
 (bd (Be L p3_0.bR 1 1000000000) λr4=>
 (cn (!r4)
 (lf (2,p3_2,p3_3))
 (fq (p3_2.findIdx? λb=>(p3_0.aV == b.a0 && (p3_0.To == b.a1))) (λi5=>
 (cn (p3_3.getD i5 default)
 (lf (4,p3_2,p3_3))
 (fq (p3_2.findIdx? λb=>(p3_0.aV == b.a0 && (p3_0.To == b.a1))) (λi6=>
 (lf (0,p3_2,(p3_3.set i6 true))))
 (lf (0,(p3_2++ [(⟨p3_0.aV,p3_0.To⟩:Bo)]),(p3_3++ [true]))))))
 (fq (p3_2.findIdx? λb=>(p3_0.aV == b.a0 && (p3_0.To == b.a1))) (λi7=>
 (lf (0,p3_2,(p3_3.set i7 true))))
 (lf (0,(p3_2++ [(⟨p3_0.aV,p3_0.To⟩:Bo)]),(p3_3++ [true]))))))))))))
def Qq(p3_0:B9)(p3_1:Ai)(p3_2:List Bo)(p3_3:List Bool)(p3_4:B9):Option A52:=Abs L p3_0 p3_1 p3_2 p3_3 p3_4
theorem B0c(p3_0:B9)(p3_1:Ai)(p3_2:List Bo)(p3_3:List Bool)(p3_4:B9):YO (O61 L) L 8 120 [.agg (Pq p3_0),.loc 1 0,.loc 3 0] [(1,(Bt p3_1)),Ald,(4,[.aO true false (.eH p3_2) (.t4 p3_3)]),(1013,(Pq p3_4))] k=ob (Qq L p3_0 p3_1 p3_2 p3_3 p3_4) (Byc p3_0 p3_1 p3_2 p3_3 p3_4 k):=(C4 _ _ _ jn4 _ _ _ _ _ _ _).trans (eE (Abs L p3_0 p3_1 p3_2 p3_3 p3_4))
def B3x(p1_0:List B9)(p1_1:Ai)(v:Int×Int×List Bo×List Bool):St:=⟨[(0,.any),(1,.any),(2,.bI 120 0 Af4),(6,I v.1),(14,lv (.t156 p1_0)),(15,I (p1_0.length:Int)),(16,I v.2.1)],[(1,(Bt p1_1)),Ald,(4,[.aO true false (.eH v.2.2.1) (.t4 v.2.2.2)])],1005⟩
def Vz [An A (Nat×Int×Int×List Bo×List Bool)](L:Nat)(Af:Int)(Ah:Int)(rec:Int->Int->List Bo->List Bool->A)(o8:A52):A:=
 (cn (o8.1 != 0)
 (lf (0,o8.1,Af,o8.2.1,o8.2.2))
 (rec Ah (Bu (Af+1)) o8.2.1 o8.2.2))
def Wg [An A (Nat×Int×Int×List Bo×List Bool)](L:Nat)(p1_0:List B9)(p1_1:Ai)(rec:Int->Int->List Bo->List Bool->A)(Ah:Int)(Af:Int)(Bq:List Bo)(Ee:List Bool)(nx3:Int->(List Bo)->(List Bool)->Int->A):A:=
 (lw Af p1_0
 (nx3 Af Bq Ee Ah)
 (lf (1,Ah,Af,Bq,Ee)))
def Ace [An A (Nat×Int×Int×List Bo×List Bool)](p1_0:List B9)(p1_1:Ai)(rec:Int->Int->List Bo->List Bool->A)(Ah:Int)(Af:Int)(Bq:List Bo)(Ee:List Bool):A:=Wg L p1_0 p1_1 rec Ah Af Bq Ee (λAf Bq Ee Ah=>bd (Qq L (gD p1_0 Af) p1_1 Bq Ee (gD p1_0 Af)) λo8=>Vz L Af Ah rec o8)
def I5(L:Nat)(p1_0:List B9)(p1_1:Ai):Nat->Int->Int->List Bo->List Bool->Option (Nat×Int×Int×List Bo×List Bool)
 |0,_,_,_,_=>none
 |n+1,Ah,Af,Bq,Ee=>Ace L p1_0 p1_1 (I5 L p1_0 p1_1 n) Ah Af Bq Ee
theorem B1x(p1_0:List B9)(p1_1:Ai):LP (EV (O61 L) L 8 Blz.w.l.u.l.l) [0,1,2,6,14,15,16] [1,3,4] (B3x p1_0 p1_1) [.ret,.exit 0] (λn v=>I5 L p1_0 p1_1 n v.1 v.2.1 v.2.2.1 v.2.2.2) K:=lE (λ_=>rfl) λn v ih=>eE (Wg L p1_0 p1_1 (λAh Af Bq Ee=>re (ih (Ah,Af,Bq,Ee))) v.1 v.2.1 v.2.2.1 v.2.2.2 (λAf Bq Ee Ah=>hq (B0c L (Md (O61 L) L 8 1 3 Blz.w.l.u.l.l.w.l.l.u.l ⟨[(21,.agg (Pq (gD p1_0 Af))),(20,.bI 120 0 Af4),(2,.bI 120 0 Af4),(6,I Ah),(8,.loc 1013 0),(14,lv (.t156 p1_0)),(15,I (p1_0.length:Int)),(16,I Af),(17,B (decide (Af<(p1_0.length:Int)))),(18,.ref (Pq (gD p1_0 Af))),(19,.agg (Pq (gD p1_0 Af)))],[(1,(Bt p1_1)),Ald,(4,[.aO true false (.eH Bq) (.t4 Ee)]),(1013,(Pq (gD p1_0 Af)))],1005⟩ (some 22) (kN (KA (O61 L) L 8 Blz.w.l.u.l.l (rl [4,2,2,1]) (Hf (Io (EV (O61 L) L 8 Blz.w.l.u.l.l) [0,1,2,6,14,15,16] [1,3,4] n) [0,1,2,6,14,15,16] [1,3,4] K)))) (gD p1_0 Af) p1_1 Bq Ee (gD p1_0 Af)) λo8=>Vz L Af Ah (λAh Af Bq Ee=>re (ih (Ah,Af,Bq,Ee))) o8))
def Byb(p1_0:List B9)(p1_1:Ai)(k:Dj):A52->Prop:=λo=>k (I o.1) [(1,(Bt p1_1)),Ald,(4,[.aO true false (.eH o.2.1) (.t4 o.2.2)])]
def Acm [An A A52](L:Nat)(o9:Nat×Int×Int×List Bo×List Bool):A:=
 (sl o9.1 [(lf (o9.2.1,o9.2.2.2.1,o9.2.2.2.2)),
 (lf (0,o9.2.2.2.1,o9.2.2.2.2))])
def Acy [An A A52](L:Nat)(p1_0:List B9)(p1_1:Ai)(nx4:A):A:=
 (cn (decide ((p1_0.length:Int)>32))
 (lf (6,[],[]))
 nx4)
def Alv [An A A52](p1_0:List B9)(p1_1:Ai):A:=Acy L p1_0 p1_1 (bd (I5 L p1_0 p1_1 L 0 0 [] []) λo9=>Acm L o9)
def Abz(p1_0:List B9)(p1_1:Ai):Option A52:=Alv L p1_0 p1_1
theorem B0b(p1_0:List B9)(p1_1:Ai):YO (O61 L) L 9 119 [lv (.t156 p1_0),I 32,.bI 120 0 Af4] [(1,(Bt p1_1)),Ald,(4,[.aO true false (.eH []) (.t4 [])])] k=ob (Abz L p1_0 p1_1) (Byb p1_0 p1_1 k):=(C4 _ _ _ jn4 _ _ _ _ _ _ _).trans (eE (Acy L p1_0 p1_1 (hq (B1x L (KA (O61 L) L 8 Blz (rl [4,1,2,1]) (KJ Tryz.f119 k)) p1_0 p1_1 L (0,0,[],[])) λo9=>Acm L o9)))
def V0 [An A Int](L:Nat)(o10:A52):A:=
 (lf o10.1)
def Ass [An A Int](a0:Ai):A:=(bd (Abz L a0.aH a0) λo10=>V0 L o10)
def Ada(a0:Ai):Option Int:=Ass L a0
def X61:F3:=E1 I 61 Ve (Ada L) λa0 r h=>hF Tryz.func61 (C:=O61 L) (oS _) L (λkk=>eE ((hq (B0b L (Md (O61 L) L 9 1 4 c61.w.l ⟨[(7,.bI 120 0 Af4),(6,lv (.t156 a0.aH)),(5,.loc 1 3),zq7,(2,I 0),Th],[(1,(Bt a0)),Ald,(4,[.aO true false (.eH []) (.t4 [])])],0⟩ (some 8) (kN (KA (O61 L) L 9 c61 (rl [4,1]) (KE Tryz.f61 kk)))) a0.aH a0) λo10=>V0 L o10))) h
def c57:=CC Tryz.f57
def c58:=CC Tryz.f58
def c36:=CC Tryz.f36
def O36:Bc:=oL [X35 L,X60 L,X61 L,By3 L,By4 L]
def Bx8(p7_0:Yb)(p7_1:Ai)(p7_2:List Yb)(p7_3:List Bool)(p7_4:Aw)(p7_5:Aw)(k:Dj):Df->Prop:=λo=>k (I o.1) [(1,(Bt p7_1)),(13,[.aO false false (.t9 o.2.1) (.t4 o.2.2)]),(1022,(Ck p7_4)),(2026,(Ck p7_5))]
def Alt [An A Df](p7_0:Yb)(p7_1:Ai)(p7_2:List Yb)(p7_3:List Bool)(p7_4:Aw)(p7_5:Aw):A:=
 (bd (Cu L p7_0) λr2=>
 (cn (r2 != 0)
 (lf (r2,p7_2,p7_3))
 (fq (p7_2.findIdx? λb=>p7_0 == b) (λi3=>
 (cn (p7_3.getD i3 default)
 (lf (4,p7_2,p7_3))
 (fq (p7_2.findIdx? λb=>p7_0 == b) (λi4=>
 (lf (0,p7_2,(p7_3.set i4 true))))
 (lf (0,(p7_2++ [p7_0]),(p7_3++ [true]))))))
 (fq (p7_2.findIdx? λb=>p7_0 == b) (λi5=>
 (lf (0,p7_2,(p7_3.set i5 true))))
 (lf (0,(p7_2++ [p7_0]),(p7_3++ [true])))))))
def Abv(p7_0:Yb)(p7_1:Ai)(p7_2:List Yb)(p7_3:List Bool)(p7_4:Aw)(p7_5:Aw):Option Df:=Alt L p7_0 p7_1 p7_2 p7_3 p7_4 p7_5
theorem Bz7(p7_0:Yb)(p7_1:Ai)(p7_2:List Yb)(p7_3:List Bool)(p7_4:Aw)(p7_5:Aw):YO (O36 L) L 6 59 [.mp 13,S p7_0] [(1,(Bt p7_1)),(13,[.aO false false (.t9 p7_2) (.t4 p7_3)]),(1022,(Ck p7_4)),(2026,(Ck p7_5))] k=ob (Abv L p7_0 p7_1 p7_2 p7_3 p7_4 p7_5) (Bx8 p7_0 p7_1 p7_2 p7_3 p7_4 p7_5 k):=(C4 _ _ _ jn4 _ _ _ _ _ _ _).trans (eE (Alt L p7_0 p7_1 p7_2 p7_3 p7_4 p7_5))
def Bx7(p5_0:Aw)(p5_1:Ai)(p5_2:List Yb)(p5_3:List Bool)(p5_4:Aw)(k:Dj):Df->Prop:=λo=>k (I o.1) [(1,(Bt p5_1)),(13,[.aO false false (.t9 o.2.1) (.t4 o.2.2)]),(1022,(Ck p5_4)),(2026,(Ck p5_0))]
def Acj [An A Df](p5_0:Aw)(o6:Df):A:=
 (cn (o6.1 != 0)
 (lf (o6.1,o6.2.1,o6.2.2))
 (bd (Jf L p5_0.bM) λr7=>
 (cn (!r7)
 (lf (1,o6.2.1,o6.2.2))
 (bd (Rw L p5_0.bM p5_0.N) λr8=>
 (cn (!r8)
 (lf (2,o6.2.1,o6.2.2))
 (lf (0,o6.2.1,o6.2.2)))))))
def Als [An A Df](p5_0:Aw)(p5_1:Ai)(p5_2:List Yb)(p5_3:List Bool)(p5_4:Aw):A:=(bd (Abv L p5_0.aF p5_1 p5_2 p5_3 p5_4 p5_0) λo6=>Acj L p5_0 o6)
def L1(p5_0:Aw)(p5_1:Ai)(p5_2:List Yb)(p5_3:List Bool)(p5_4:Aw):Option Df:=Als L p5_0 p5_1 p5_2 p5_3 p5_4
theorem Bz6(p5_0:Aw)(p5_1:Ai)(p5_2:List Yb)(p5_3:List Bool)(p5_4:Aw):YO (O36 L) L 7 87 [.mp 13,.agg (Ck p5_0)] [(1,(Bt p5_1)),(13,[.aO false false (.t9 p5_2) (.t4 p5_3)]),(1022,(Ck p5_4))] k=ob (L1 L p5_0 p5_1 p5_2 p5_3 p5_4) (Bx7 p5_0 p5_1 p5_2 p5_3 p5_4 k):=(C4 _ _ _ jn4 _ _ _ _ _ _ _).trans (eE ((hq (Bz7 L (Md (O36 L) L 6 1 4 c87.u.l.l ⟨[(8,S p5_0.aF),(7,.loc 2026 0),(6,.mp 13),(0,.mp 13),(3,.loc 2026 0),(4,I 0)],[(1,(Bt p5_1)),(13,[.aO false false (.t9 p5_2) (.t4 p5_3)]),(1022,(Ck p5_4)),(2026,(Ck p5_0))],2023⟩ (some 9) (kN (KA (O36 L) L 6 c87 (rl [2,2]) (KJ Tryz.f87 k)))) p5_0.aF p5_1 p5_2 p5_3 p5_4 p5_0) λo6=>Acj L p5_0 o6)))
def B3e(p1_0:List Aw)(p1_1:Ai)(v:Tu4):St:=⟨[(0,.any),(1,.any),(2,Bpa),(6,I v.1),(14,lv (.dO p1_0)),(15,I (p1_0.length:Int)),(16,I v.2.1)],[(1,(Bt p1_1)),(13,[.aO false false (.t9 v.2.2.1) (.t4 v.2.2.2)])],1014⟩
def Vw [An A Po](L:Nat)(Af:Int)(Ah:Int)(rec:Int->Int->List Yb->List Bool->A)(o9:Df):A:=
 (cn (o9.1 != 0)
 (lf (0,o9.1,Af,o9.2.1,o9.2.2))
 (rec Ah (Bu (Af+1)) o9.2.1 o9.2.2))
def Wd [An A Po](L:Nat)(p1_0:List Aw)(p1_1:Ai)(rec:Int->Int->List Yb->List Bool->A)(Ah:Int)(Af:Int)(Bq:List Yb)(Ee:List Bool)(nx7:Int->(List Yb)->(List Bool)->Int->A):A:=
 (lw Af p1_0
 (nx7 Af Bq Ee Ah)
 (lf (1,Ah,Af,Bq,Ee)))
def Acb [An A Po](p1_0:List Aw)(p1_1:Ai)(rec:Int->Int->List Yb->List Bool->A)(Ah:Int)(Af:Int)(Bq:List Yb)(Ee:List Bool):A:=Wd L p1_0 p1_1 rec Ah Af Bq Ee (λAf Bq Ee Ah=>bd (L1 L (gD p1_0 Af) p1_1 Bq Ee (gD p1_0 Af)) λo9=>Vw L Af Ah rec o9)
def I3(L:Nat)(p1_0:List Aw)(p1_1:Ai):Nat->Int->Int->List Yb->List Bool->Option Po
 |0,_,_,_,_=>none
 |n+1,Ah,Af,Bq,Ee=>Acb L p1_0 p1_1 (I3 L p1_0 p1_1 n) Ah Af Bq Ee
theorem B1e(p1_0:List Aw)(p1_1:Ai):LP (EV (O36 L) L 7 c86.w.l.u.l.l) [0,1,2,6,14,15,16] [1,13] (B3e p1_0 p1_1) [.ret,.exit 0] (λn v=>I3 L p1_0 p1_1 n v.1 v.2.1 v.2.2.1 v.2.2.2) K:=lE (λ_=>rfl) λn v ih=>eE (Wd L p1_0 p1_1 (λAh Af Bq Ee=>re (ih (Ah,Af,Bq,Ee))) v.1 v.2.1 v.2.2.1 v.2.2.2 (λAf Bq Ee Ah=>hq (Bz6 L (Md (O36 L) L 7 1 3 c86.w.l.u.l.l.w.l.l.u.l ⟨[(21,.agg (Ck (gD p1_0 Af))),(20,Bpa),(2,Bpa),(6,I Ah),(8,.loc 1022 0),(14,lv (.dO p1_0)),(15,I (p1_0.length:Int)),(16,I Af),(17,B (decide (Af<(p1_0.length:Int)))),(18,.ref (Ck (gD p1_0 Af))),(19,.agg (Ck (gD p1_0 Af)))],[(1,(Bt p1_1)),(13,[.aO false false (.t9 Bq) (.t4 Ee)]),(1022,(Ck (gD p1_0 Af)))],1014⟩ (some 22) (kN (KA (O36 L) L 7 c86.w.l.u.l.l (rl [4,2,2,1]) (Hf (Io (EV (O36 L) L 7 c86.w.l.u.l.l) [0,1,2,6,14,15,16] [1,13] n) [0,1,2,6,14,15,16] [1,13] K)))) (gD p1_0 Af) p1_1 Bq Ee (gD p1_0 Af)) λo9=>Vw L Af Ah (λAh Af Bq Ee=>re (ih (Ah,Af,Bq,Ee))) o9))
def Bx6(p1_0:List Aw)(p1_1:Ai)(k:Dj):Df->Prop:=λo=>k (I o.1) [(1,(Bt p1_1)),(13,[.aO false false (.t9 o.2.1) (.t4 o.2.2)])]
def Amj [An A Df](L:Nat)(o10:Nat×Tu4):A:=
 (sl o10.1 [(lf (o10.2.1,o10.2.2.2.1,o10.2.2.2.2)),
 (lf (0,o10.2.2.2.1,o10.2.2.2.2))])
def Am1 [An A Df](L:Nat)(p1_0:List Aw)(p1_1:Ai)(nx8:A):A:=
 (cn (decide ((p1_0.length:Int)>32))
 (lf (6,[],[]))
 nx8)
def Axl [An A Df](p1_0:List Aw)(p1_1:Ai):A:=Am1 L p1_0 p1_1 (bd (I3 L p1_0 p1_1 L 0 0 [] []) λo10=>Amj L o10)
def Abu(p1_0:List Aw)(p1_1:Ai):Option Df:=Axl L p1_0 p1_1
theorem Bz5(p1_0:List Aw)(p1_1:Ai):YO (O36 L) L 8 86 [lv (.dO p1_0),I 32,Bpa] [(1,(Bt p1_1)),(13,zq8)] k=ob (Abu L p1_0 p1_1) (Bx6 p1_0 p1_1 k):=(C4 _ _ _ jn4 _ _ _ _ _ _ _).trans (eE (Am1 L p1_0 p1_1 (hq (B1e L (KA (O36 L) L 7 c86 (rl [4,1,2,1]) (KJ Tryz.f86 k)) p1_0 p1_1 L (0,0,[],[])) λo10=>Amj L o10)))
def Bqb(p14_0:Yb)(p14_1:Ai)(p14_2:List Yb)(p14_3:List Bool)(p14_4:List Yb)(p14_5:List Bool)(p14_6:Aa)(p14_7:Aa)(k:Dj):Df->Prop:=λo=>k (I o.1) [(1,(Bt p14_1)),A7d,(13,[.aO false false (.t9 p14_2) (.t4 p14_3)]),(24,[.aO false false (.t9 o.2.1) (.t4 o.2.2)]),(1033,(Ae p14_6)),(2036,(Ae p14_7))]
def Ajc [An A Df](p14_0:Yb)(p14_1:Ai)(p14_2:List Yb)(p14_3:List Bool)(p14_4:List Yb)(p14_5:List Bool)(p14_6:Aa)(p14_7:Aa):A:=
 (bd (Cu L p14_0) λr12=>
 (cn (r12 != 0)
 (lf (r12,p14_4,p14_5))
 (fq (p14_4.findIdx? λb=>p14_0 == b) (λi13=>
 (cn (p14_5.getD i13 default)
 (lf (4,p14_4,p14_5))
 (fq (p14_4.findIdx? λb=>p14_0 == b) (λi14=>
 (lf (0,p14_4,(p14_5.set i14 true))))
 (lf (0,(p14_4++ [p14_0]),(p14_5++ [true]))))))
 (fq (p14_4.findIdx? λb=>p14_0 == b) (λi15=>
 (lf (0,p14_4,(p14_5.set i15 true))))
 (lf (0,(p14_4++ [p14_0]),(p14_5++ [true])))))))
def Zy(p14_0:Yb)(p14_1:Ai)(p14_2:List Yb)(p14_3:List Bool)(p14_4:List Yb)(p14_5:List Bool)(p14_6:Aa)(p14_7:Aa):Option Df:=Ajc L p14_0 p14_1 p14_2 p14_3 p14_4 p14_5 p14_6 p14_7
theorem Bs3(p14_0:Yb)(p14_1:Ai)(p14_2:List Yb)(p14_3:List Bool)(p14_4:List Yb)(p14_5:List Bool)(p14_6:Aa)(p14_7:Aa):YO (O36 L) L 7 59 [.mp 24,S p14_0] [(1,(Bt p14_1)),A7d,(13,[.aO false false (.t9 p14_2) (.t4 p14_3)]),(24,[.aO false false (.t9 p14_4) (.t4 p14_5)]),(1033,(Ae p14_6)),(2036,(Ae p14_7))] k=ob (Zy L p14_0 p14_1 p14_2 p14_3 p14_4 p14_5 p14_6 p14_7) (Bqb p14_0 p14_1 p14_2 p14_3 p14_4 p14_5 p14_6 p14_7 k):=(C4 _ _ _ jn4 _ _ _ _ _ _ _).trans (eE (Ajc L p14_0 p14_1 p14_2 p14_3 p14_4 p14_5 p14_6 p14_7))
def Bqa(p12_0:Aa)(p12_1:Ai)(p12_2:List Yb)(p12_3:List Bool)(p12_4:List Yb)(p12_5:List Bool)(p12_6:Aa)(k:Dj):Df->Prop:=λo=>k (I o.1) [(1,(Bt p12_1)),A7d,(13,[.aO false false (.t9 p12_2) (.t4 p12_3)]),(24,[.aO false false (.t9 o.2.1) (.t4 o.2.2)]),(1033,(Ae p12_6)),(2036,(Ae p12_0))]
def Aad [An A Df](p12_0:Aa)(o16:Df):A:=
 (cn (o16.1 != 0)
 (lf (o16.1,o16.2.1,o16.2.2))
 (bd (Agh L p12_0) λr17=>
 (lf (r17,o16.2.1,o16.2.2))))
def Ajb [An A Df](p12_0:Aa)(p12_1:Ai)(p12_2:List Yb)(p12_3:List Bool)(p12_4:List Yb)(p12_5:List Bool)(p12_6:Aa):A:=(bd (Zy L p12_0.aF p12_1 p12_2 p12_3 p12_4 p12_5 p12_6 p12_0) λo16=>Aad L p12_0 o16)
def J5(p12_0:Aa)(p12_1:Ai)(p12_2:List Yb)(p12_3:List Bool)(p12_4:List Yb)(p12_5:List Bool)(p12_6:Aa):Option Df:=Ajb L p12_0 p12_1 p12_2 p12_3 p12_4 p12_5 p12_6
theorem Bs2(p12_0:Aa)(p12_1:Ai)(p12_2:List Yb)(p12_3:List Bool)(p12_4:List Yb)(p12_5:List Bool)(p12_6:Aa):YO (O36 L) L 8 58 [.agg (Ae p12_0),.loc 5 0] [(1,(Bt p12_1)),A7d,(13,[.aO false false (.t9 p12_2) (.t4 p12_3)]),(24,[.aO false false (.t9 p12_4) (.t4 p12_5)]),(1033,(Ae p12_6))] k=ob (J5 L p12_0 p12_1 p12_2 p12_3 p12_4 p12_5 p12_6) (Bqa p12_0 p12_1 p12_2 p12_3 p12_4 p12_5 p12_6 k):=(C4 _ _ _ jn4 _ _ _ _ _ _ _).trans (eE ((hq (Bs3 L (Md (O36 L) L 7 1 4 c58.u.l.l ⟨[(7,S p12_0.aF),(6,.loc 2036 0),(5,.mp 24),(1,.loc 5 0),(2,.loc 2036 0),(3,I 0)],[(1,(Bt p12_1)),A7d,(13,[.aO false false (.t9 p12_2) (.t4 p12_3)]),(24,[.aO false false (.t9 p12_4) (.t4 p12_5)]),(1033,(Ae p12_6)),(2036,(Ae p12_0))],2034⟩ (some 8) (kN (KA (O36 L) L 7 c58 (rl [2,2]) (KJ Tryz.f58 k)))) p12_0.aF p12_1 p12_2 p12_3 p12_4 p12_5 p12_6 p12_0) λo16=>Aad L p12_0 o16)))
def B3f(p8_0:List Aa)(p8_1:Ai)(p8_2:List Yb)(p8_3:List Bool)(v:Tu4):St:=⟨[(0,.any),(1,.any),(2,Bo9),(6,I v.1),(14,lv (.t66 p8_0)),(15,I (p8_0.length:Int)),(16,I v.2.1)],[(1,(Bt p8_1)),A7d,(13,[.aO false false (.t9 p8_2) (.t4 p8_3)]),(24,[.aO false false (.t9 v.2.2.1) (.t4 v.2.2.2)])],1025⟩
def Tt [An A Po](L:Nat)(Bp:Int)(Bz:Int)(rec:Int->Int->List Yb->List Bool->A)(o18:Df):A:=
 (cn (o18.1 != 0)
 (lf (0,o18.1,Bp,o18.2.1,o18.2.2))
 (rec Bz (Bu (Bp+1)) o18.2.1 o18.2.2))
def T1 [An A Po](L:Nat)(p8_0:List Aa)(p8_1:Ai)(p8_2:List Yb)(p8_3:List Bool)(rec:Int->Int->List Yb->List Bool->A)(Bz:Int)(Bp:Int)(Qy:List Yb)(Qz:List Bool)(nx16:Int->(List Yb)->(List Bool)->Int->A):A:=
 (lw Bp p8_0
 (nx16 Bp Qy Qz Bz)
 (lf (1,Bz,Bp,Qy,Qz)))
def Acd [An A Po](p8_0:List Aa)(p8_1:Ai)(p8_2:List Yb)(p8_3:List Bool)(rec:Int->Int->List Yb->List Bool->A)(Bz:Int)(Bp:Int)(Qy:List Yb)(Qz:List Bool):A:=T1 L p8_0 p8_1 p8_2 p8_3 rec Bz Bp Qy Qz (λBp Qy Qz Bz=>bd (J5 L (gD p8_0 Bp) p8_1 p8_2 p8_3 Qy Qz (gD p8_0 Bp)) λo18=>Tt L Bp Bz rec o18)
def I4(L:Nat)(p8_0:List Aa)(p8_1:Ai)(p8_2:List Yb)(p8_3:List Bool):Nat->Int->Int->List Yb->List Bool->Option Po
 |0,_,_,_,_=>none
 |n+1,Bz,Bp,Qy,Qz=>Acd L p8_0 p8_1 p8_2 p8_3 (I4 L p8_0 p8_1 p8_2 p8_3 n) Bz Bp Qy Qz
theorem B1f(p8_0:List Aa)(p8_1:Ai)(p8_2:List Yb)(p8_3:List Bool):LP (EV (O36 L) L 8 c57.w.l.u.l.l) [0,1,2,6,14,15,16] [1,5,13,24] (B3f p8_0 p8_1 p8_2 p8_3) [.ret,.exit 0] (λn v=>I4 L p8_0 p8_1 p8_2 p8_3 n v.1 v.2.1 v.2.2.1 v.2.2.2) K:=lE (λ_=>rfl) λn v ih=>eE (T1 L p8_0 p8_1 p8_2 p8_3 (λBz Bp Qy Qz=>re (ih (Bz,Bp,Qy,Qz))) v.1 v.2.1 v.2.2.1 v.2.2.2 (λBp Qy Qz Bz=>hq (Bs2 L (Md (O36 L) L 8 1 3 c57.w.l.u.l.l.w.l.l.u.l ⟨[(21,.agg (Ae (gD p8_0 Bp))),(20,Bo9),(2,Bo9),(6,I Bz),(8,.loc 1033 0),(14,lv (.t66 p8_0)),(15,I (p8_0.length:Int)),(16,I Bp),(17,B (decide (Bp<(p8_0.length:Int)))),(18,.ref (Ae (gD p8_0 Bp))),(19,.agg (Ae (gD p8_0 Bp)))],[(1,(Bt p8_1)),A7d,(13,[.aO false false (.t9 p8_2) (.t4 p8_3)]),(24,[.aO false false (.t9 Qy) (.t4 Qz)]),(1033,(Ae (gD p8_0 Bp)))],1025⟩ (some 22) (kN (KA (O36 L) L 8 c57.w.l.u.l.l (rl [4,2,2,1]) (Hf (Io (EV (O36 L) L 8 c57.w.l.u.l.l) [0,1,2,6,14,15,16] [1,5,13,24] n) [0,1,2,6,14,15,16] [1,5,13,24] K)))) (gD p8_0 Bp) p8_1 p8_2 p8_3 Qy Qz (gD p8_0 Bp)) λo18=>Tt L Bp Bz (λBz Bp Qy Qz=>re (ih (Bz,Bp,Qy,Qz))) o18))
def Bx9(p8_0:List Aa)(p8_1:Ai)(p8_2:List Yb)(p8_3:List Bool)(k:Dj):Df->Prop:=λo=>k (I o.1) [(1,(Bt p8_1)),A7d,(13,[.aO false false (.t9 p8_2) (.t4 p8_3)]),(24,[.aO false false (.t9 o.2.1) (.t4 o.2.2)])]
def Ajs [An A Df](L:Nat)(o19:Nat×Tu4):A:=
 (sl o19.1 [(lf (o19.2.1,o19.2.2.2.1,o19.2.2.2.2)),
 (lf (0,o19.2.2.2.1,o19.2.2.2.2))])
def Aj4 [An A Df](L:Nat)(p8_0:List Aa)(p8_1:Ai)(p8_2:List Yb)(p8_3:List Bool)(nx17:A):A:=
 (cn (decide ((p8_0.length:Int)>16))
 (lf (6,[],[]))
 nx17)
def Axm [An A Df](p8_0:List Aa)(p8_1:Ai)(p8_2:List Yb)(p8_3:List Bool):A:=Aj4 L p8_0 p8_1 p8_2 p8_3 (bd (I4 L p8_0 p8_1 p8_2 p8_3 L 0 0 [] []) λo19=>Ajs L o19)
def Abw(p8_0:List Aa)(p8_1:Ai)(p8_2:List Yb)(p8_3:List Bool):Option Df:=Axm L p8_0 p8_1 p8_2 p8_3
theorem Bz8(p8_0:List Aa)(p8_1:Ai)(p8_2:List Yb)(p8_3:List Bool):YO (O36 L) L 9 57 [lv (.t66 p8_0),I 16,Bo9] [(1,(Bt p8_1)),A7d,(13,[.aO false false (.t9 p8_2) (.t4 p8_3)]),(24,zq8)] k=ob (Abw L p8_0 p8_1 p8_2 p8_3) (Bx9 p8_0 p8_1 p8_2 p8_3 k):=(C4 _ _ _ jn4 _ _ _ _ _ _ _).trans (eE (Aj4 L p8_0 p8_1 p8_2 p8_3 (hq (B1f L (KA (O36 L) L 8 c57 (rl [4,1,2,1]) (KJ Tryz.f57 k)) p8_0 p8_1 p8_2 p8_3 L (0,0,[],[])) λo19=>Ajs L o19)))
def Tu [An A Int](a0:Ai)(o20:Df):A:=
 (cn (o20.1 != 0)
 (lf o20.1)
 (bd (Ada L a0) λr21=>
 (lf r21)))
def T2 [An A Int](L:Nat)(a0:Ai)(o11:Df)(nx18:Df->A):A:=
 (cn (o11.1 != 0)
 (lf o11.1)
 (cn ((a0.aA.length:Int) == 0)
 (lf 7)
 (nx18 o11)))
def Ack [An A Int](a0:Ai)(o11:Df):A:=T2 L a0 o11 (λo11=>bd (Abw L a0.aA a0 o11.2.1 o11.2.2) λo20=>Tu L a0 o20)
def We [An A Int](a0:Ai)(nx9:A):A:=
 (bd (Cu L a0.aF) λr1=>
 (cn (r1 != 0)
 (lf r1)
 nx9))
def Asr [An A Int](a0:Ai):A:=We L a0 (bd (Abu L a0.aI a0) λo11=>Ack L a0 o11)
def Sy(a0:Ai):Option Int:=Asr L a0
def X36:F3:=E1 I 36 Ve (Sy L) λa0 r h=>hF Tryz.func36 (C:=O36 L) (oS _) L (λkk=>eE (We L a0 (hq (Bz5 L (Md (O36 L) L 8 1 4 c56.u.l ⟨[(7,Bpa),(6,.mp 13),(5,lv (.dO a0.aI)),(0,.mp 13),(1,lv (.dO a0.aI)),(4,I 0)],[(1,(Bt a0)),(13,zq8)],1014⟩ (some 8) (kN (KA (O36 L) L 8 c56 (rl [2,1]) (KJ Tryz.f56 (Md (O36 L) L 9 1 4 c36.w.l.l ⟨[(15,lv (.dO a0.aI)),(14,.loc 1 1),(13,.mp 13),zq7,(2,I 0)],[(13,zq8),(1,(Bt a0))],0⟩ (some 16) (kN (KA (O36 L) L 9 c36 (rl [4,2]) (KE Tryz.f36 kk)))))))) a0.aI a0) λo11=>T2 L a0 o11 (λo11=>hq (Bz8 L (Md (O36 L) L 9 1 4 c36.x.u.l ⟨[(27,Bo9),(26,lv (.t66 a0.aA)),(25,.loc 1 2),zq7,(2,I 0),Bhj],[(1,(Bt a0)),A7d,(13,[.aO false false (.t9 o11.2.1) (.t4 o11.2.2)]),(24,zq8)],0⟩ (some 28) (kN (KA (O36 L) L 9 c36 (rl [10,1]) (KE Tryz.f36 kk)))) a0.aA a0 o11.2.1 o11.2.2) λo20=>Tu L a0 o20)))) h
def c62:=CC Tryz.f62
def c37:=CC Tryz.f37
def O37(L:Nat):Bc:=oL []
def B3g(p1_1:List Al)(p1_0:List Ap)(p1_2:Az)(v:Tu5):St:=⟨[(0,.any),(1,lv (.t93 p1_1)),(2,.bI 63 0 []),(6,B v.1),(15,lv (.t78 p1_0)),(16,I (p1_0.length:Int)),(17,I v.2)],[(1,(Me p1_2))],1002⟩
def Vk [An A (Nat×Tu5)](L:Nat)(p1_1:List Al)(p1_0:List Ap)(p1_2:Az)(rec:Bool->Int->A)(Ag:Bool)(Bj:Int):A:=
 (lw Bj p1_0
 (gi Bj p1_1
 (jp (.cn ((gD p1_0 Bj).aF.toList == (gD p1_1 Bj).aF.toList)
 (.lf ((gD p1_0 Bj).aI == ((gD p1_1 Bj).aI.length:Int)))
 (.lf false)) (λb1=>
 (jp (.cn b1
 (.lf (((gD p1_1 Bj).bD.length:Int) == 0))
 (.lf false)) (λb2=>
 (cn (!b2)
 (lf (0,false,Bj))
 (rec Ag (Bu (Bj+1)))))))))
 (lf (1,Ag,Bj)))
def I1(L:Nat)(p1_1:List Al)(p1_0:List Ap)(p1_2:Az):Nat->Bool->Int->Option (Nat×Tu5)
 |0,_,_=>none
 |n+1,Ag,Bj=>Vk L p1_1 p1_0 p1_2 (I1 L p1_1 p1_0 p1_2 n) Ag Bj
theorem B1g(p1_1:List Al)(p1_0:List Ap)(p1_2:Az):LP (EV (O37 L) L 8 c62.w.l.u.l.l) [0,1,2,6,15,16,17] [1] (B3g p1_1 p1_0 p1_2) [.ret,.exit 0] (λn v=>I1 L p1_1 p1_0 p1_2 n v.1 v.2) K:=lE (λ_=>rfl) λn v ih=>eE (Vk L p1_1 p1_0 p1_2 (λAg Bj=>re (ih (Ag,Bj))) v.1 v.2)
def Bya(p1_0:List Ap)(p1_1:List Al)(p1_2:Az)(k:Dj):Bool->Prop:=λo=>k (B o) [(1,(Me p1_2))]
def Vt [An A Bool](L:Nat)(o3:Nat×Tu5):A:=
 (sl o3.1 [(lf o3.2.1),
 (lf true)])
def Wc [An A Bool](L:Nat)(p1_0:List Ap)(p1_1:List Al)(p1_2:Az)(nx2:A):A:=
 (cn ((p1_0.length:Int) != (p1_1.length:Int))
 (lf false)
 nx2)
def Alq [An A Bool](p1_0:List Ap)(p1_1:List Al)(p1_2:Az):A:=Wc L p1_0 p1_1 p1_2 (bd (I1 L p1_1 p1_0 p1_2 L false 0) λo3=>Vt L o3)
def Vg(p1_0:List Ap)(p1_1:List Al)(p1_2:Az):Option Bool:=Alq L p1_0 p1_1 p1_2
theorem Bz9(p1_0:List Ap)(p1_1:List Al)(p1_2:Az):YO (O37 L) L 9 62 [lv (.t78 p1_0),lv (.t93 p1_1),.bI 63 0 []] [(1,(Me p1_2))] k=ob (Vg L p1_0 p1_1 p1_2) (Bya p1_0 p1_1 p1_2 k):=(C4 _ _ _ jn4 _ _ _ _ _ _ _).trans (eE (Wc L p1_0 p1_1 p1_2 (hq (B1g L (KA (O37 L) L 8 c62 (rl [4,1,2,1]) (KJ Tryz.f62 k)) p1_1 p1_0 p1_2 L (false,0)) λo3=>Vt L o3)))
def Vu [An A Bool](L:Nat)(o4:Bool):A:=
 (lf o4)
def Asp [An A Bool](a0:Az):A:=(bd (Vg L a0.aD a0.aK.aD a0) λo4=>Vu L o4)
def Ll(a0:Az):Option Bool:=Asp L a0
def X37:F3:=E1 B 37 Ao4 (Ll L) λa0 r h=>hF Tryz.func37 (C:=O37 L) (oS _) L (λkk=>eE ((hq (Bz9 L (Md (O37 L) L 9 1 6 c37.u.l ⟨[(7,lv (.t93 a0.aK.aD)),(6,.loc 1 10),(5,.loc 1 0),(4,lv (.t78 a0.aD)),(3,.loc 1 13),zq7,(2,B false)],[(1,(Me a0))],0⟩ (some 8) (kN (KA (O37 L) L 9 c37 (rl [2,1]) (KE Tryz.f37 kk)))) a0.aD a0.aK.aD a0) λo4=>Vu L o4))) h
def c38:=CC Tryz.f38
def O38(L:Nat):Bc:=oL []
def B3h(a0:Ac)(v:Int×Int×List Ea×List Bool):St:=⟨[(0,.any),zq7,(2,I v.1),(3,.mp 11),(13,lv (.t127 a0.aH)),(14,I (a0.aH.length:Int)),(15,I v.2.1)],[(1,(Cm a0)),(11,[.aO true false (.fC v.2.2.1) (.t4 v.2.2.2)])],0⟩
def g6 [An A (Nat×Int×Int×List Ea×List Bool)](L:Nat)(a0:Ac)(rec:Int->Int->List Ea->List Bool->A)(Ah:Int)(Af:Int)(Dg:List Ea)(Bq:List Bool):A:=
 (lw Af a0.aH
 (jp (.cn (decide ((if(gD a0.aH Af).To<(gD a0.aH Af).aV then(gD a0.aH Af).To else(gD a0.aH Af).aV)<0))
 (.lf true)
 (.lf (decide ((if(gD a0.aH Af).To>(gD a0.aH Af).aV then(gD a0.aH Af).To else(gD a0.aH Af).aV)>=(a0.aA.length:Int))))) (λb1=>
 (jp (.cn b1
 (.lf true)
 (.lf ((gD a0.aH Af).aV == (gD a0.aH Af).To))) (λb2=>
 (cn b2
 (cn b2
 (lf (0,2,Af,Dg,Bq))
 (fq (Dg.findIdx? λb=>((gD a0.aH Af).aV == b.a0 && ((gD a0.aH Af).To == b.a1))) (λi3=>
 (cn (Bq.getD i3 default)
 (lf (0,4,Af,Dg,Bq))
 (fq (Dg.findIdx? λb=>((gD a0.aH Af).aV == b.a0 && ((gD a0.aH Af).To == b.a1))) (λi4=>
 (rec Ah (Bu (Af+1)) Dg (Bq.set i4 true)))
 (rec Ah (Bu (Af+1)) (Dg++ [(⟨(gD a0.aH Af).aV,(gD a0.aH Af).To⟩:Ea)]) (Bq++ [true])))))
 (fq (Dg.findIdx? λb=>((gD a0.aH Af).aV == b.a0 && ((gD a0.aH Af).To == b.a1))) (λi5=>
 (rec Ah (Bu (Af+1)) Dg (Bq.set i5 true)))
 (rec Ah (Bu (Af+1)) (Dg++ [(⟨(gD a0.aH Af).aV,(gD a0.aH Af).To⟩:Ea)]) (Bq++ [true])))))
 (jp (.cn (decide ((gD a0.aH Af).bR<1))
 (.lf true)
 (.lf (decide ((gD a0.aH Af).bR>1000000000)))) (λb6=>
 (cn b6
 (lf (0,2,Af,Dg,Bq))
 (fq (Dg.findIdx? λb=>((gD a0.aH Af).aV == b.a0 && ((gD a0.aH Af).To == b.a1))) (λi7=>
 (cn (Bq.getD i7 default)
 (lf (0,4,Af,Dg,Bq))
 (fq (Dg.findIdx? λb=>((gD a0.aH Af).aV == b.a0 && ((gD a0.aH Af).To == b.a1))) (λi8=>
 (rec Ah (Bu (Af+1)) Dg (Bq.set i8 true)))
 (rec Ah (Bu (Af+1)) (Dg++ [(⟨(gD a0.aH Af).aV,(gD a0.aH Af).To⟩:Ea)]) (Bq++ [true])))))
 (fq (Dg.findIdx? λb=>((gD a0.aH Af).aV == b.a0 && ((gD a0.aH Af).To == b.a1))) (λi9=>
 (rec Ah (Bu (Af+1)) Dg (Bq.set i9 true)))
 (rec Ah (Bu (Af+1)) (Dg++ [(⟨(gD a0.aH Af).aV,(gD a0.aH Af).To⟩:Ea)]) (Bq++ [true]))))))))))))
 (lf (1,Ah,Af,Dg,Bq)))
def My(L:Nat)(a0:Ac):Nat->Int->Int->List Ea->List Bool->Option (Nat×Int×Int×List Ea×List Bool)
 |0,_,_,_,_=>none
 |n+1,Ah,Af,Dg,Bq=>g6 L a0 (My L a0 n) Ah Af Dg Bq
theorem B1h(a0:Ac):LP (EV (O38 L) L 9 c38.w.u.l.u.l.l) [0,1,2,3,13,14,15] [1,11] (B3h a0) [.ret,.exit 0] (λn v=>My L a0 n v.1 v.2.1 v.2.2.1 v.2.2.2) K:=lE (λ_=>rfl) λn v ih=>eE (g6 L a0 (λAh Af Dg Bq=>re (ih (Ah,Af,Dg,Bq))) v.1 v.2.1 v.2.2.1 v.2.2.2)
def Aab [An A Int](L:Nat)(o10:Nat×Int×Int×List Ea×List Bool):A:=
 (sl o10.1 [(lf o10.2.1),
 (lf 0)])
def Aa2 [An A Int](L:Nat)(a0:Ac)(nx1:A):A:=
 (cn (decide ((a0.aH.length:Int)>32))
 (lf 6)
 nx1)
def Azz [An A Int](a0:Ac):A:=Aa2 L a0 (bd (My L a0 L 0 0 [] []) λo10=>Aab L o10)
def Aeg(a0:Ac):Option Int:=Azz L a0
def X38:F3:=E1 I 38 B7 (Aeg L) λa0 r h=>hF Tryz.func38 (C:=O38 L) (oS _) L (λkk=>eE (Aa2 L a0 (hq (B1h L (KA (O38 L) L 9 c38 (rl [6,1,2,1]) (KE Tryz.f38 kk)) a0 L (0,0,[],[])) λo10=>Aab L o10))) h
def Anx [An A Bool](L:Nat)(a0:Int):A:=
 (jp (.cn (decide (a0>=1))
 (.lf (decide (a0<=19)))
 (.lf false)) (λb1=>
 (lf b1)))
def Zl(a0:Int):Option Bool:=Anx L a0
def B4r:F3:=E1 B 122 (cI .i64) (Zl L) λa0 r h=>hF Tryz.func122 (oS []) L (λkk=>eE (Anx L a0)) h
def Aqs [An A Bool](a0:Ab):A:=
 (bd (Lo L (Ab.cp a0) (Ab.mk 0 (⟨#[]⟩:Yb) 0 [])) λr1=>
 (lf r1))
def Aeh(a0:Ab):Option Bool:=Aqs L a0
def B9n:F3:=E1 B 161 Bi (Aeh L) λa0 r h=>hF Tryz.func161 (oS [B4x L]) L (λkk=>eE (Aqs L a0)) h
def Anw [An A Bool](a0:Aq):A:=
 (gi a0.Op gl0
 (jp (.cn ((gD gl0 a0.Op).fU != 0)
 (.lf true)
 (.lf (a0.A == 0))) (λb1=>
 (jp (.cn b1
 (.cn ((gD gl0 a0.Op).fZ != 0)
 (.lf true)
 (.lf (a0.B == 0)))
 (.lf false)) (λb2=>
 (jp (.cn b2
 (.cn ((gD gl0 a0.Op).u_c)
 (.lf true)
 (.lf (a0.C == 0)))
 (.lf false)) (λb3=>
 (jb (.cn b3
 (.cn ((gD gl0 a0.Op).fH)
 (.lf true)
 (.bd (Aeh L (Ab.cp a0.E)) λr5=>
 (.lf r5)))
 (.lf false)) (λb4=>
 (jb (.cn b4
 (.cn ((gD gl0 a0.Op).fM)
 (.lf true)
 (.bd (Aeh L (Ab.cp a0.F)) λr7=>
 (.lf r7)))
 (.lf false)) (λb6=>
 (jp (.cn b6
 (.cn ((gD gl0 a0.Op).dF)
 (.lf true)
 (.lf ((a0.aM.length:Int) == 0)))
 (.lf false)) (λb8=>
 (cn b8
 (cn ((gD gl0 a0.Op).bO)
 (nq (jp (.cn ((gD gl0 a0.Op).dV)
 (.lf true)
 (.lf (!a0.bU))) (λb9=>
 (lf b9))))
 (bd (Lm L a0.bE (⟨0,0,0,0,[],[]⟩:Bk)) λr10=>
 (nq (jp (.cn r10
 (.cn ((gD gl0 a0.Op).dV)
 (.lf true)
 (.lf (!a0.bU)))
 (.lf false)) (λb11=>
 (lf b11))))))
 (nq (nq (lf false)))))))))))))))))
def Zk(a0:Aq):Option Bool:=Anw L a0
def B85:F3:=E1 B 123 Oc (Zk L) λa0 r h=>hF Tryz.func123 (oS [By5 L,B9n L]) L (λkk=>eE (Anw L a0)) h
def Zp [An A Int](L:Nat)(a0:Av)(a1:Int)(a2:Int):A:=
 (gi a0.aS a0.bJ.aA
 (cn (a1 == 1)
 (lf a0.u_c.dD)
 (cn (a1 == 2)
 (lf ((gD a0.bJ.aA a0.aS).aK.bX.length:Int))
 (cn (a1 == 3)
 (lf ((gD a0.bJ.aA a0.aS).aK.bB.length:Int))
 (cn (a1 == 4)
 (lf (a0.u_c.aP.length:Int))
 (cn (a1 == 5)
 (lf ((gD a0.bJ.aA a0.aS).aK.aG.length:Int))
 (cn (a1 == 6)
 (lf ((gD a0.bJ.aA a0.aS).aK.aL.length:Int))
 (cn (a1 == 7)
 (lf ((gD a0.bJ.aA a0.aS).aK.bN.length:Int))
 (cn (a1 == 8)
 (lf ((gD a0.bJ.aA a0.aS).aK.bH.length:Int))
 (cn (a1 == 9)
 (lf (a0.bJ.aA.length:Int))
 (cn (a1 == 10)
 (gi a2 a0.bJ.aA
 (lf ((gD a0.bJ.aA a2).aD.length:Int)))
 (cn (a1 == 11)
 (lf ((gD a0.bJ.aA a0.aS).aK.bG.length:Int))
 (cn (a1 == 12)
 (lf ((gD a0.bJ.aA a0.aS).aK.bP.length:Int))
 (cn (a1 == 13)
 (lf ((gD a0.bJ.aA a0.aS).aK.bF.length:Int))
 (lf 1)))))))))))))))
def Hc(a0:Av)(a1:Int)(a2:Int):Option Int:=Zp L a0 a1 a2
def By7:F3:=E3 I 162 S2 (cI .i64) (cI .i64) (Hc L) λa0 a1 a2 r h=>hF Tryz.func162 (oS []) L (λkk=>eE (Zp L a0 a1 a2)) h
def Abj [An A Bool](a0:Av)(a1:Int)(a2:Int)(a3:Int):A:=
 (jb (.cn (decide (a2>=0))
 (.bd (Hc L (⟨(⟨a0.bJ.aF,a0.bJ.aA,a0.bJ.aH⟩:Ac),a0.aS,a0.u_c⟩:Av) a1 a3) λr2=>
 (.lf (decide (a2<r2))))
 (.lf false)) (λb1=>
 (lf b1)))
def Cy(a0:Av)(a1:Int)(a2:Int)(a3:Int):Option Bool:=Abj L a0 a1 a2 a3
def Byz:F3:=E4 B 124 S2 (cI .i64) (cI .i64) (cI .i64) (Cy L) λa0 a1 a2 a3 r h=>hF Tryz.func124 (oS [By7 L]) L (λkk=>eE (Abj L a0 a1 a2 a3)) h
def B5z:=CC Tryz.f163
def B5s:=CC Tryz.f125
def Bjm(L:Nat):Bc:=oL []
def Bvk(p1_0:List Dr)(p1_1:Ac)(p1_2:Int)(p1_3:Int)(v:Jc):St:=⟨[(0,lv (.t127 p1_0)),(1,B4e),(4,I v.1),(7,I (p1_0.length:Int)),(8,I v.2)],[(3,(Cm p1_1)),(4,[I p1_2]),(5,[I p1_3])],1006⟩
def Ado [An A C3](L:Nat)(p1_0:List Dr)(p1_1:Ac)(p1_2:Int)(p1_3:Int)(rec:Int->Int->A)(Ag:Int)(Af:Int):A:=
 (lw Af p1_0
 (jp (.cn ((gD p1_0 Af).aV == p1_2)
 (.lf ((gD p1_0 Af).To == p1_3))
 (.lf false)) (λb1=>
 (cn b1
 (lf (0,Af,Af))
 (rec Ag (Bu (Af+1))))))
 (lf (1,Ag,Af)))
def P0(L:Nat)(p1_0:List Dr)(p1_1:Ac)(p1_2:Int)(p1_3:Int):Nat->Int->Int->Option C3
 |0,_,_=>none
 |n+1,Ag,Af=>Ado L p1_0 p1_1 p1_2 p1_3 (P0 L p1_0 p1_1 p1_2 p1_3 n) Ag Af
theorem Btx(p1_0:List Dr)(p1_1:Ac)(p1_2:Int)(p1_3:Int):LP (EV (Bjm L) L 8 B5z.u.l.u.l.l) [0,1,4,7,8] [3,4,5] (Bvk p1_0 p1_1 p1_2 p1_3) [.ret,.exit 0] (λn v=>P0 L p1_0 p1_1 p1_2 p1_3 n v.1 v.2) K:=lE (λ_=>rfl) λn v ih=>eE (Ado L p1_0 p1_1 p1_2 p1_3 (λAg Af=>re (ih (Ag,Af))) v.1 v.2)
def Bp5(p1_0:List Dr)(p1_1:Ac)(p1_2:Int)(p1_3:Int)(k:Dj):Int->Prop:=λo=>k (I o) [(3,(Cm p1_1)),(4,[I p1_2]),(5,[I p1_3])]
def Ak2 [An A Int](L:Nat)(o2:Nat×Jc):A:=
 (sl o2.1 [(lf o2.2.1),
 (lf (-1))])
def Asy [An A Int](p1_0:List Dr)(p1_1:Ac)(p1_2:Int)(p1_3:Int):A:=(bd (P0 L p1_0 p1_1 p1_2 p1_3 L 0 0) λo2=>Ak2 L o2)
def Adb(p1_0:List Dr)(p1_1:Ac)(p1_2:Int)(p1_3:Int):Option Int:=Asy L p1_0 p1_1 p1_2 p1_3
theorem Bsz(p1_0:List Dr)(p1_1:Ac)(p1_2:Int)(p1_3:Int):YO (Bjm L) L 9 163 [lv (.t127 p1_0),B4e] [(3,(Cm p1_1)),(4,[I p1_2]),(5,[I p1_3])] k=ob (Adb L p1_0 p1_1 p1_2 p1_3) (Bp5 p1_0 p1_1 p1_2 p1_3 k):=(C4 _ _ _ jn4 _ _ _ _ _ _ _).trans (eE ((hq (Btx L (KA (Bjm L) L 8 B5z (rl [2,1,2,1]) (KJ Tryz.f163 k)) p1_0 p1_1 p1_2 p1_3 L (0,0)) λo2=>Ak2 L o2)))
def Ad1 [An A (Int×Bool)](L:Nat)(a0:Ac)(o3:Int):A:=
 (cn (decide (o3<0))
 (lf (0,false))
 (gi o3 a0.aH
 (lf ((gD a0.aH o3).bR,true))))
def A26 [An A (Int×Bool)](a0:Ac)(a1:Int)(a2:Int):A:=(bd (Adb L a0.aH a0 a1 a2) λo3=>Ad1 L a0 o3)
def Ahc(a0:Ac)(a1:Int)(a2:Int):Option (Int×Bool):=A26 L a0 a1 a2
def B86:F3:=E3 (λ(x:Int×Bool)=>.bY [I x.1,B x.2]) 125 B7 (cI .i64) (cI .i64) (Ahc L) λa0 a1 a2 r h=>hF Tryz.func125 (C:=Bjm L) (oS _) L (λkk=>eE ((hq (Bsz L (Md (Bjm L) L 9 1 4 B5s.u.l ⟨[(11,B4e),(10,lv (.t127 a0.aH)),(9,.loc 3 2),Th,Be9,Bhj,(6,I 0),(7,B false)],[(3,(Cm a0)),(4,[I a1]),(5,[I a2])],0⟩ (some 12) (kN (KA (Bjm L) L 9 B5s (rl [2,1]) (KE Tryz.f125 kk)))) a0.aH a0 a1 a2) λo3=>Ad1 L a0 o3))) h
def Yr [An A (List Ab)](a0:Aq):A:=
 (bd (Zl L a0.Op) λr1=>
 (cn (!r1)
 (lf [])
 (gi a0.Op gl0
 (cn ((gD gl0 a0.Op).fH)
 (gq ((0+ [(Ab.cp a0.E)].length)*56<=140737488355328)
 (gq (0+ [(Ab.cp a0.E)].length<=maxLen)
 (cn ((gD gl0 a0.Op).fM)
 (gq (([(Ab.cp a0.E)].length+ [(Ab.cp a0.F)].length)*56<=140737488355328)
 (gq ([(Ab.cp a0.E)].length+ [(Ab.cp a0.F)].length<=maxLen)
 (cn ((gD gl0 a0.Op).dF)
 (gq ((([(Ab.cp a0.E)]++ [(Ab.cp a0.F)]).length+a0.aM.length)*56<=140737488355328)
 (gq (([(Ab.cp a0.E)]++ [(Ab.cp a0.F)]).length+a0.aM.length<=maxLen)
 (lf (([(Ab.cp a0.E)]++ [(Ab.cp a0.F)])++a0.aM))))
 (lf ([(Ab.cp a0.E)]++ [(Ab.cp a0.F)])))))
 (cn ((gD gl0 a0.Op).dF)
 (gq (([(Ab.cp a0.E)].length+a0.aM.length)*56<=140737488355328)
 (gq ([(Ab.cp a0.E)].length+a0.aM.length<=maxLen)
 (lf ([(Ab.cp a0.E)]++a0.aM))))
 (lf [(Ab.cp a0.E)])))))
 (cn ((gD gl0 a0.Op).fM)
 (gq ((0+ [(Ab.cp a0.F)].length)*56<=140737488355328)
 (gq (0+ [(Ab.cp a0.F)].length<=maxLen)
 (cn ((gD gl0 a0.Op).dF)
 (gq (([(Ab.cp a0.F)].length+a0.aM.length)*56<=140737488355328)
 (gq ([(Ab.cp a0.F)].length+a0.aM.length<=maxLen)
 (lf ([(Ab.cp a0.F)]++a0.aM))))
 (lf [(Ab.cp a0.F)]))))
 (cn ((gD gl0 a0.Op).dF)
 (gq ((0+a0.aM.length)*56<=140737488355328)
 (gq (0+a0.aM.length<=maxLen)
 (lf a0.aM)))
 (lf [])))))))
def Eo(a0:Aq):Option (List Ab):=Yr L a0
def B87:F3:=E1 (λ(x:List Ab)=>lv (.dU x)) 126 Oc (Eo L) λa0 r h=>hF Tryz.func126 (oS [B4r L]) L (λkk=>eE (Yr L a0)) h
def Abk [An A Int](a0:Ab):A:=
 (bd (N5 L (⟨true⟩:Bl) (Ab.cp a0)) λr1=>
 (lf r1))
def Iv(a0:Ab):Option Int:=Abk L a0
def B88:F3:=E1 I 127 Bi (Iv L) λa0 r h=>hF Tryz.func127 (oS [B4w L]) L (λkk=>eE (Abk L a0)) h
end
end Go.Proofs.YthjhkpgonleelaaGreatDoor.Ev
