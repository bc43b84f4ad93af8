import Derived.Test.YthjhkpgonleelaaGreatDoorLG1
import Derived.Test.YthjhkpgonleelaaGreatDoorLG2
set_option maxRecDepth 100000
set_option maxHeartbeats 4000000
set_option linter.unusedVariables false
set_option linter.unusedSimpArgs false
set_option linter.unnecessarySimpa false
namespace Go.Proofs.YthjhkpgonleelaaGreatDoor.Ev
open Go An
noncomputable section
variable {A:Type} (L n:Nat) (kk:K5) (K:Ef) (k:Dj)
def Bl0:=CC Tryz.f153
def Bq6:=CC Tryz.f154
def B5x:=CC Tryz.f155
def B5q:=CC Tryz.f118
def Apl:Bc:=oL [X35 L,B9m L,By6 L]
def Blk(p10_0:Yb)(p10_1:Aa)(p10_2:List Yb)(p10_3:List Bool)(p10_4:Bh)(p10_5:Bh)(k:Dj):Df->Prop:=λo=>k (I o.1) [(1,(Ae p10_1)),Ald,(4,[.aO false false (.t9 o.2.1) (.t4 o.2.2)]),(1013,(Dt p10_4)),(2017,(Dt p10_5))]
def Alu [An A Df](p10_0:Yb)(p10_1:Aa)(p10_2:List Yb)(p10_3:List Bool)(p10_4:Bh)(p10_5:Bh):A:=
 (bd (Cu L p10_0) λr1=>
 (cn (r1 != 0)
 (lf (r1,p10_2,p10_3))
 (fq (p10_2.findIdx? λb=>p10_0 == b) (λi2=>
 (cn (p10_3.getD i2 default)
 (lf (4,p10_2,p10_3))
 (fq (p10_2.findIdx? λb=>p10_0 == b) (λi3=>
 (lf (0,p10_2,(p10_3.set i3 true))))
 (lf (0,(p10_2++ [p10_0]),(p10_3++ [true]))))))
 (fq (p10_2.findIdx? λb=>p10_0 == b) (λi4=>
 (lf (0,p10_2,(p10_3.set i4 true))))
 (lf (0,(p10_2++ [p10_0]),(p10_3++ [true])))))))
def Abx(p10_0:Yb)(p10_1:Aa)(p10_2:List Yb)(p10_3:List Bool)(p10_4:Bh)(p10_5:Bh):Option Df:=Alu L p10_0 p10_1 p10_2 p10_3 p10_4 p10_5
theorem Bm7(p10_0:Yb)(p10_1:Aa)(p10_2:List Yb)(p10_3:List Bool)(p10_4:Bh)(p10_5:Bh):YO (Apl L) L 7 59 [.mp 4,S p10_0] [(1,(Ae p10_1)),Ald,(4,[.aO false false (.t9 p10_2) (.t4 p10_3)]),(1013,(Dt p10_4)),(2017,(Dt p10_5))] k=ob (Abx L p10_0 p10_1 p10_2 p10_3 p10_4 p10_5) (Blk p10_0 p10_1 p10_2 p10_3 p10_4 p10_5 k):=(C4 _ _ _ jn4 _ _ _ _ _ _ _).trans (eE (Alu L p10_0 p10_1 p10_2 p10_3 p10_4 p10_5))
def Bvi(p11_0:List Bd)(p11_1:Aa)(p11_2:List Yb)(p11_3:List Bool)(p11_4:Bh)(p11_5:Bh)(v:Jc):St:=⟨[(0,.any),(1,.any),(2,.bI 156 0 A1w),(6,I v.1),(14,lv (.t203 p11_0)),(15,I (p11_0.length:Int)),(16,I v.2)],[(1,(Ae p11_1)),Ald,(4,[.aO false false (.t9 p11_2) (.t4 p11_3)]),(1013,(Dt p11_4)),(2017,(Dt p11_5))],3018⟩
def Xk [An A C3](p11_0:List Bd)(p11_1:Aa)(p11_2:List Yb)(p11_3:List Bool)(p11_4:Bh)(p11_5:Bh)(rec:Int->Int->A)(Bz:Int)(Bp:Int):A:=
 (lw Bp p11_0
 (bd (Vb L p11_1 (gD p11_0 Bp)) λr6=>
 (cn (r6 != 0)
 (lf (0,r6,Bp))
 (rec Bz (Bu (Bp+1)))))
 (lf (1,Bz,Bp)))
def Kf(L:Nat)(p11_0:List Bd)(p11_1:Aa)(p11_2:List Yb)(p11_3:List Bool)(p11_4:Bh)(p11_5:Bh):Nat->Int->Int->Option C3
 |0,_,_=>none
 |n+1,Bz,Bp=>Xk L p11_0 p11_1 p11_2 p11_3 p11_4 p11_5 (Kf L p11_0 p11_1 p11_2 p11_3 p11_4 p11_5 n) Bz Bp
theorem Btv(p11_0:List Bd)(p11_1:Aa)(p11_2:List Yb)(p11_3:List Bool)(p11_4:Bh)(p11_5:Bh):LP (EV (Apl L) L 6 B5x.w.l.u.l.l) [0,1,2,6,14,15,16] [1,3,4,1013,2017] (Bvi p11_0 p11_1 p11_2 p11_3 p11_4 p11_5) [.ret,.exit 0] (λn v=>Kf L p11_0 p11_1 p11_2 p11_3 p11_4 p11_5 n v.1 v.2) K:=lE (λ_=>rfl) λn v ih=>eE (Xk L p11_0 p11_1 p11_2 p11_3 p11_4 p11_5 (λBz Bp=>re (ih (Bz,Bp))) v.1 v.2)
def Bll(p11_0:List Bd)(p11_1:Aa)(p11_2:List Yb)(p11_3:List Bool)(p11_4:Bh)(p11_5:Bh)(k:Dj):Int->Prop:=λo=>k (I o) [(1,(Ae p11_1)),Ald,(4,[.aO false false (.t9 p11_2) (.t4 p11_3)]),(1013,(Dt p11_4)),(2017,(Dt p11_5))]
def Aml [An A Int](L:Nat)(o7:Nat×Jc):A:=
 (sl o7.1 [(lf o7.2.1),
 (lf 0)])
def Am2 [An A Int](L:Nat)(p11_0:List Bd)(p11_1:Aa)(p11_2:List Yb)(p11_3:List Bool)(p11_4:Bh)(p11_5:Bh)(nx17:A):A:=
 (cn (decide ((p11_0.length:Int)>8))
 (lf 6)
 nx17)
def Axn [An A Int](p11_0:List Bd)(p11_1:Aa)(p11_2:List Yb)(p11_3:List Bool)(p11_4:Bh)(p11_5:Bh):A:=Am2 L p11_0 p11_1 p11_2 p11_3 p11_4 p11_5 (bd (Kf L p11_0 p11_1 p11_2 p11_3 p11_4 p11_5 L 0 0) λo7=>Aml L o7)
def Aby(p11_0:List Bd)(p11_1:Aa)(p11_2:List Yb)(p11_3:List Bool)(p11_4:Bh)(p11_5:Bh):Option Int:=Axn L p11_0 p11_1 p11_2 p11_3 p11_4 p11_5
theorem Bm8(p11_0:List Bd)(p11_1:Aa)(p11_2:List Yb)(p11_3:List Bool)(p11_4:Bh)(p11_5:Bh):YO (Apl L) L 7 155 [lv (.t203 p11_0),I 8,.bI 156 0 A1w] [(1,(Ae p11_1)),Ald,(4,[.aO false false (.t9 p11_2) (.t4 p11_3)]),(1013,(Dt p11_4)),(2017,(Dt p11_5))] k=ob (Aby L p11_0 p11_1 p11_2 p11_3 p11_4 p11_5) (Bll p11_0 p11_1 p11_2 p11_3 p11_4 p11_5 k):=(C4 _ _ _ jn4 _ _ _ _ _ _ _).trans (eE (Am2 L p11_0 p11_1 p11_2 p11_3 p11_4 p11_5 (hq (Btv L (KA (Apl L) L 6 B5x (rl [4,1,2,1]) (KJ Tryz.f155 k)) p11_0 p11_1 p11_2 p11_3 p11_4 p11_5 L (0,0)) λo7=>Aml L o7)))
def Bp3(p7_0:Bh)(p7_1:Aa)(p7_2:List Yb)(p7_3:List Bool)(p7_4:Bh)(k:Dj):Df->Prop:=λo=>k (I o.1) [(1,(Ae p7_1)),Ald,(4,[.aO false false (.t9 o.2.1) (.t4 o.2.2)]),(1013,(Dt p7_4)),(2017,(Dt p7_0))]
def Acl [An A Df](o5:Df)(p7_0:Bh)(o8:Int):A:=
 (cn (o8 != 0)
 (lf (o8,o5.2.1,o5.2.2))
 (bd (Ahd L p7_0.Total) λr9=>
 (cn (!r9)
 (lf (2,o5.2.1,o5.2.2))
 (lf (0,o5.2.1,o5.2.2)))))
def Acx [An A Df](L:Nat)(p7_0:Bh)(p7_1:Aa)(p7_4:Bh)(o5:Df)(nx18:Df->A):A:=
 (cn (o5.1 != 0)
 (lf (o5.1,o5.2.1,o5.2.2))
 (cn ((p7_0.bS.length:Int) == 0)
 (lf (7,o5.2.1,o5.2.2))
 (nx18 o5)))
def Amk [An A Df](p7_0:Bh)(p7_1:Aa)(p7_4:Bh)(o5:Df):A:=Acx L p7_0 p7_1 p7_4 o5 (λo5=>bd (Aby L p7_0.bS p7_1 o5.2.1 o5.2.2 p7_4 p7_0) λo8=>Acl L o5 p7_0 o8)
def Ao8 [An A Df](p7_0:Bh)(p7_1:Aa)(p7_2:List Yb)(p7_3:List Bool)(p7_4:Bh):A:=(bd (Abx L p7_0.aF p7_1 p7_2 p7_3 p7_4 p7_0) λo5=>Amk L p7_0 p7_1 p7_4 o5)
def Nr(p7_0:Bh)(p7_1:Aa)(p7_2:List Yb)(p7_3:List Bool)(p7_4:Bh):Option Df:=Ao8 L p7_0 p7_1 p7_2 p7_3 p7_4
theorem Bsx(p7_0:Bh)(p7_1:Aa)(p7_2:List Yb)(p7_3:List Bool)(p7_4:Bh):YO (Apl L) L 8 154 [.agg (Dt p7_0),.loc 3 0,.loc 1 0] [(1,(Ae p7_1)),Ald,(4,[.aO false false (.t9 p7_2) (.t4 p7_3)]),(1013,(Dt p7_4))] k=ob (Nr L p7_0 p7_1 p7_2 p7_3 p7_4) (Bp3 p7_0 p7_1 p7_2 p7_3 p7_4 k):=(C4 _ _ _ jn4 _ _ _ _ _ _ _).trans (eE ((hq (Bm7 L (Md (Apl L) L 7 1 4 Bq6.u.l.l ⟨[(9,S p7_0.aF),(8,Bbu),(7,.mp 4),Aw0,(2,.loc 1 0),(3,Bbu),(4,I 0)],[(1,(Ae p7_1)),Ald,(4,[.aO false false (.t9 p7_2) (.t4 p7_3)]),(1013,(Dt p7_4)),(2017,(Dt p7_0))],2014⟩ (some 10) (kN (KA (Apl L) L 7 Bq6 (rl [2,2]) (KJ Tryz.f154 k)))) p7_0.aF p7_1 p7_2 p7_3 p7_4 p7_0) λo5=>Acx L p7_0 p7_1 p7_4 o5 (λo5=>hq (Bm8 L (Md (Apl L) L 7 1 4 Bq6.w.u.l.l ⟨[(20,.bI 156 0 A1w),(19,lv (.t203 p7_0.bS)),(18,.loc 2017 1),(2,.loc 1 0),(3,Bbu),(4,I 0)],[(1,(Ae p7_1)),Ald,(4,[.aO false false (.t9 o5.2.1) (.t4 o5.2.2)]),(1013,(Dt p7_4)),(2017,(Dt p7_0))],2014⟩ (some 21) (kN (KA (Apl L) L 7 Bq6 (rl [6,2]) (KJ Tryz.f154 k)))) p7_0.bS p7_1 o5.2.1 o5.2.2 p7_4 p7_0) λo8=>Acl L o5 p7_0 o8))))
def Bvh(p1_0:List Bh)(p1_1:Aa)(v:Tu4):St:=⟨[(0,.any),(1,.any),(2,.bI 154 0 Auq),(6,I v.1),(14,lv (.t154 p1_0)),(15,I (p1_0.length:Int)),(16,I v.2.1)],[(1,(Ae p1_1)),Ald,(4,[.aO false false (.t9 v.2.2.1) (.t4 v.2.2.2)])],1005⟩
def Vx [An A Po](L:Nat)(Af:Int)(Ah:Int)(rec:Int->Int->List Yb->List Bool->A)(o10:Df):A:=
 (cn (o10.1 != 0)
 (lf (0,o10.1,Af,o10.2.1,o10.2.2))
 (rec Ah (Bu (Af+1)) o10.2.1 o10.2.2))
def Wf [An A Po](L:Nat)(p1_0:List Bh)(p1_1:Aa)(rec:Int->Int->List Yb->List Bool->A)(Ah:Int)(Af:Int)(C1:List Yb)(C2:List Bool)(nx19:Int->(List Yb)->(List Bool)->Int->A):A:=
 (lw Af p1_0
 (nx19 Af C1 C2 Ah)
 (lf (1,Ah,Af,C1,C2)))
def Afh [An A Po](p1_0:List Bh)(p1_1:Aa)(rec:Int->Int->List Yb->List Bool->A)(Ah:Int)(Af:Int)(C1:List Yb)(C2:List Bool):A:=Wf L p1_0 p1_1 rec Ah Af C1 C2 (λAf C1 C2 Ah=>bd (Nr L (gD p1_0 Af) p1_1 C1 C2 (gD p1_0 Af)) λo10=>Vx L Af Ah rec o10)
def Ke(L:Nat)(p1_0:List Bh)(p1_1:Aa):Nat->Int->Int->List Yb->List Bool->Option Po
 |0,_,_,_,_=>none
 |n+1,Ah,Af,C1,C2=>Afh L p1_0 p1_1 (Ke L p1_0 p1_1 n) Ah Af C1 C2
theorem Btu(p1_0:List Bh)(p1_1:Aa):LP (EV (Apl L) L 8 Bl0.w.l.u.l.l) [0,1,2,6,14,15,16] [1,3,4] (Bvh p1_0 p1_1) [.ret,.exit 0] (λn v=>Ke L p1_0 p1_1 n v.1 v.2.1 v.2.2.1 v.2.2.2) K:=lE (λ_=>rfl) λn v ih=>eE (Wf L p1_0 p1_1 (λAh Af C1 C2=>re (ih (Ah,Af,C1,C2))) v.1 v.2.1 v.2.2.1 v.2.2.2 (λAf C1 C2 Ah=>hq (Bsx L (Md (Apl L) L 8 1 3 Bl0.w.l.u.l.l.w.l.l.u.l ⟨[(21,.agg (Dt (gD p1_0 Af))),(20,.bI 154 0 Auq),(2,.bI 154 0 Auq),(6,I Ah),(8,.loc 1013 0),(14,lv (.t154 p1_0)),(15,I (p1_0.length:Int)),(16,I Af),(17,B (decide (Af<(p1_0.length:Int)))),(18,.ref (Dt (gD p1_0 Af))),(19,.agg (Dt (gD p1_0 Af)))],[(1,(Ae p1_1)),Ald,(4,[.aO false false (.t9 C1) (.t4 C2)]),(1013,(Dt (gD p1_0 Af)))],1005⟩ (some 22) (kN (KA (Apl L) L 8 Bl0.w.l.u.l.l (rl [4,2,2,1]) (Hf (Io (EV (Apl L) L 8 Bl0.w.l.u.l.l) [0,1,2,6,14,15,16] [1,3,4] n) [0,1,2,6,14,15,16] [1,3,4] K)))) (gD p1_0 Af) p1_1 C1 C2 (gD p1_0 Af)) λo10=>Vx L Af Ah (λAh Af C1 C2=>re (ih (Ah,Af,C1,C2))) o10))
def Bp2(p1_0:List Bh)(p1_1:Aa)(k:Dj):Df->Prop:=λo=>k (I o.1) [(1,(Ae p1_1)),Ald,(4,[.aO false false (.t9 o.2.1) (.t4 o.2.2)])]
def Amm [An A Df](L:Nat)(o11:Nat×Tu4):A:=
 (sl o11.1 [(lf (o11.2.1,o11.2.2.2.1,o11.2.2.2.2)),
 (lf (0,o11.2.2.2.1,o11.2.2.2.2))])
def Am3 [An A Df](L:Nat)(p1_0:List Bh)(p1_1:Aa)(nx20:A):A:=
 (cn (decide ((p1_0.length:Int)>32))
 (lf (6,[],[]))
 nx20)
def A00 [An A Df](p1_0:List Bh)(p1_1:Aa):A:=Am3 L p1_0 p1_1 (bd (Ke L p1_0 p1_1 L 0 0 [] []) λo11=>Amm L o11)
def Aff(p1_0:List Bh)(p1_1:Aa):Option Df:=A00 L p1_0 p1_1
theorem Bsw(p1_0:List Bh)(p1_1:Aa):YO (Apl L) L 9 153 [lv (.t154 p1_0),I 32,.bI 154 0 Auq] [(1,(Ae p1_1)),Ald,(4,zq8)] k=ob (Aff L p1_0 p1_1) (Bp2 p1_0 p1_1 k):=(C4 _ _ _ jn4 _ _ _ _ _ _ _).trans (eE (Am3 L p1_0 p1_1 (hq (Btu L (KA (Apl L) L 8 Bl0 (rl [4,1,2,1]) (KJ Tryz.f153 k)) p1_0 p1_1 L (0,0,[],[])) λo11=>Amm L o11)))
def Vy [An A Int](L:Nat)(o12:Df):A:=
 (lf o12.1)
def Au2 [An A Int](a0:Aa):A:=(bd (Aff L a0.Laws a0) λo12=>Vy L o12)
def Agg(a0:Aa):Option Int:=Au2 L a0
def B83:F3:=E1 I 118 C7 (Agg L) λa0 r h=>hF Tryz.func118 (C:=Apl L) (oS _) L (λkk=>eE ((hq (Bsw L (Md (Apl L) L 9 1 4 B5q.w.l ⟨[(7,.bI 154 0 Auq),(6,lv (.t154 a0.Laws)),(5,.loc 1 12),zq7,(2,I 0),Th],[(1,(Ae a0)),Ald,(4,zq8)],0⟩ (some 8) (kN (KA (Apl L) L 9 B5q (rl [4,1]) (KE Tryz.f118 kk)))) a0.Laws a0) λo12=>Vy L o12))) h
end
end Go.Proofs.YthjhkpgonleelaaGreatDoor.Ev
