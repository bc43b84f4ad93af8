import Derived.Test.YthjhkpgonleelaaGreatDoorDG1
import Derived.Test.YthjhkpgonleelaaGreatDoorDG2
import Derived.Test.YthjhkpgonleelaaGreatDoorDG3
set_option maxRecDepth 100000
set_option maxHeartbeats 4000000
set_option linter.unusedVariables false
set_option linter.unusedSimpArgs false
set_option linter.unnecessarySimpa false
namespace Go.Proofs.YthjhkpgonleelaaGreatDoor.Ev
open Go An
noncomputable section
variable {A:Type} (L n:Nat) (kk:Lr) (K:Ei) (k:Dj)
def c56:=CC Tryz.f56
def c86:=CC Tryz.f86
def c87:=CC Tryz.f87
def c88:=CC Tryz.f88
def c89:=CC Tryz.f89
def c90:=CC Tryz.f90
def c91:=CC Tryz.f91
def c92:=CC Tryz.f92
def c93:=CC Tryz.f93
def c94:=CC Tryz.f94
def c98:=CC Tryz.f98
def c99:=CC Tryz.f99
def B7e:=CC Tryz.f100
def B7f:=CC Tryz.f101
def Bns:=CC Tryz.f102
def B7g:=CC Tryz.f103
def B7h:=CC Tryz.f104
def B7i:=CC Tryz.f105
def B7j:=CC Tryz.f106
def B7k:=CC Tryz.f107
def B7l:=CC Tryz.f108
def B7m:=CC Tryz.f109
def Bnt:=CC Tryz.f110
def B7n:=CC Tryz.f111
def B7o:=CC Tryz.f113
def B7p:=CC Tryz.f114
def c60:=CC Tryz.f60
def F1:Bc:=oL [X35 L,X95 L,X96 L,X97 L,Ca3 L,Ca4 L,Ca5 L,B02 L,B03 L]
def Bhw:Ei:=(Gn 0 (Rn (EV (F1 L) (L+24) 8 c90.u.r) (KJ Tryz.f90 k)))
def Br7(p47_0:Yb)(p47_1:Aa)(p47_2:List Yb)(p47_3:List Bool)(p47_4:Aw)(p47_5:Aw)(k:Dj):Df->Prop:=λo=>k (I o.1) [(1,(Ae p47_1)),Qu,Qt,(5,[.aQ false false (.t9 o.2.1) (.t4 o.2.2)]),(1014,(Ck p47_4)),(2018,(Ck p47_5))]
def Am6 [An A Df](p47_0:Yb)(p47_1:Aa)(p47_2:List Yb)(p47_3:List Bool)(p47_4:Aw)(p47_5:Aw):A:=
 (bd (Cw L p47_0) λr1=>
 (cn (r1 != 0)
 (lf (r1,p47_2,p47_3))
 (fq (p47_2.findIdx? λb=>p47_0 == b) (λi2=>
 (cn (p47_3.getD i2 default)
 (lf (4,p47_2,p47_3))
 (fq (p47_2.findIdx? λb=>p47_0 == b) (λi3=>
 (lf (0,p47_2,(p47_3.set i3 true))))
 (lf (0,(p47_2++ [p47_0]),(p47_3++ [true]))))))
 (fq (p47_2.findIdx? λb=>p47_0 == b) (λi4=>
 (lf (0,p47_2,(p47_3.set i4 true))))
 (lf (0,(p47_2++ [p47_0]),(p47_3++ [true])))))))
def Adf(p47_0:Yb)(p47_1:Aa)(p47_2:List Yb)(p47_3:List Bool)(p47_4:Aw)(p47_5:Aw):Option Df:=Am6 L p47_0 p47_1 p47_2 p47_3 p47_4 p47_5
theorem Bu0(p47_0:Yb)(p47_1:Aa)(p47_2:List Yb)(p47_3:List Bool)(p47_4:Aw)(p47_5:Aw):YO (F1 L) (L+24) 4 59 [.mp 5,S p47_0] [(1,(Ae p47_1)),Qu,Qt,(5,[.aQ false false (.t9 p47_2) (.t4 p47_3)]),(1014,(Ck p47_4)),(2018,(Ck p47_5))] k=ob (Adf L p47_0 p47_1 p47_2 p47_3 p47_4 p47_5) (Br7 p47_0 p47_1 p47_2 p47_3 p47_4 p47_5 k):=(C4 _ _ _ jn4 _ _ _ _ _ _ _).trans (eE (Am6 L p47_0 p47_1 p47_2 p47_3 p47_4 p47_5))
def Br6(p45_0:Aw)(p45_1:Aa)(p45_2:List Yb)(p45_3:List Bool)(p45_4:Aw)(k:Dj):Df->Prop:=λo=>k (I o.1) [(1,(Ae p45_1)),Qu,Qt,(5,[.aQ false false (.t9 o.2.1) (.t4 o.2.2)]),(1014,(Ck p45_4)),(2018,(Ck p45_0))]
def Adz [An A Df](p45_0:Aw)(o5:Df):A:=
 (cn (o5.1 != 0)
 (lf (o5.1,o5.2.1,o5.2.2))
 (bd (Ju L p45_0.bO) λr6=>
 (cn (!r6)
 (lf (1,o5.2.1,o5.2.2))
 (bd (Sl L p45_0.bO p45_0.N) λr7=>
 (cn (!r7)
 (lf (2,o5.2.1,o5.2.2))
 (lf (0,o5.2.1,o5.2.2)))))))
def Am5 [An A Df](p45_0:Aw)(p45_1:Aa)(p45_2:List Yb)(p45_3:List Bool)(p45_4:Aw):A:=(bd (Adf L p45_0.aF p45_1 p45_2 p45_3 p45_4 p45_0) λo5=>Adz L p45_0 o5)
def Mm(p45_0:Aw)(p45_1:Aa)(p45_2:List Yb)(p45_3:List Bool)(p45_4:Aw):Option Df:=Am5 L p45_0 p45_1 p45_2 p45_3 p45_4
theorem Buz(p45_0:Aw)(p45_1:Aa)(p45_2:List Yb)(p45_3:List Bool)(p45_4:Aw):YO (F1 L) (L+24) 5 87 [.mp 5,.agg (Ck p45_0)] [(1,(Ae p45_1)),Qu,Qt,(5,[.aQ false false (.t9 p45_2) (.t4 p45_3)]),(1014,(Ck p45_4))] k=ob (Mm L p45_0 p45_1 p45_2 p45_3 p45_4) (Br6 p45_0 p45_1 p45_2 p45_3 p45_4 k):=(C4 _ _ _ jn4 _ _ _ _ _ _ _).trans (eE ((hq (Bu0 L (Mx (F1 L) (L+24) 4 1 4 c87.u.l.l ⟨[(8,S p45_0.aF),(7,.loc 2018 0),(6,.mp 5),(0,.mp 5),(3,.loc 2018 0),(4,I 0)],[(1,(Ae p45_1)),Qu,Qt,(5,[.aQ false false (.t9 p45_2) (.t4 p45_3)]),(1014,(Ck p45_4)),(2018,(Ck p45_0))],2015⟩ (some 9) (kN (KA (F1 L) (L+24) 4 c87 (rl [2,2]) (KJ Tryz.f87 k)))) p45_0.aF p45_1 p45_2 p45_3 p45_4 p45_0) λo5=>Adz L p45_0 o5)))
def B5p(p41_0:List Aw)(p41_1:Aa)(v:Tu4):St:=⟨[(0,.any),(1,.any),(2,Bq4),(6,I v.1),(14,lv (.dO p41_0)),(15,I (p41_0.length:Int)),(16,I v.2.1)],[(1,(Ae p41_1)),Qu,Qt,(5,[.aQ false false (.t9 v.2.2.1) (.t4 v.2.2.2)])],1006⟩
def Wz [An A P8](L:Nat)(Af:Int)(Ai:Int)(rec:Int->Int->List Yb->List Bool->A)(o8:Df):A:=
 (cn (o8.1 != 0)
 (lf (0,o8.1,Af,o8.2.1,o8.2.2))
 (rec Ai (Bs (Af+1)) o8.2.1 o8.2.2))
def Xg [An A P8](L:Nat)(p41_0:List Aw)(p41_1:Aa)(rec:Int->Int->List Yb->List Bool->A)(Ai:Int)(Af:Int)(Cp:List Yb)(Cq:List Bool)(nx64:Int->(List Yb)->(List Bool)->Int->A):A:=
 (lw Af p41_0
 (nx64 Af Cp Cq Ai)
 (lf (1,Ai,Af,Cp,Cq)))
def Agu [An A P8](p41_0:List Aw)(p41_1:Aa)(rec:Int->Int->List Yb->List Bool->A)(Ai:Int)(Af:Int)(Cp:List Yb)(Cq:List Bool):A:=Xg L p41_0 p41_1 rec Ai Af Cp Cq (λAf Cp Cq Ai=>bd (Mm L (gD p41_0 Af) p41_1 Cp Cq (gD p41_0 Af)) λo8=>Wz L Af Ai rec o8)
def Ky(L:Nat)(p41_0:List Aw)(p41_1:Aa):Nat->Int->Int->List Yb->List Bool->Option P8
 |0,_,_,_,_=>none
 |n+1,Ai,Af,Cp,Cq=>Agu L p41_0 p41_1 (Ky L p41_0 p41_1 n) Ai Af Cp Cq
theorem B3o(p41_0:List Aw)(p41_1:Aa):LP (EV (F1 L) (L+24) 5 c86.w.l.u.l.l) [0,1,2,6,14,15,16] [1,3,4,5] (B5p p41_0 p41_1) [.ret,.exit 0] (λn v=>Ky L p41_0 p41_1 n v.1 v.2.1 v.2.2.1 v.2.2.2) K:=lE (λ_=>rfl) λn v ih=>eE (Xg L p41_0 p41_1 (λAi Af Cp Cq=>re (ih (Ai,Af,Cp,Cq))) v.1 v.2.1 v.2.2.1 v.2.2.2 (λAf Cp Cq Ai=>hq (Buz L (Mx (F1 L) (L+24) 5 1 3 c86.w.l.u.l.l.w.l.l.u.l ⟨[(21,.agg (Ck (gD p41_0 Af))),(20,Bq4),(2,Bq4),(6,I Ai),Bq8,(14,lv (.dO p41_0)),(15,I (p41_0.length:Int)),(16,I Af),(17,B (decide (Af<(p41_0.length:Int)))),(18,.ref (Ck (gD p41_0 Af))),(19,.agg (Ck (gD p41_0 Af)))],[(1,(Ae p41_1)),Qu,Qt,(5,[.aQ false false (.t9 Cp) (.t4 Cq)]),(1014,(Ck (gD p41_0 Af)))],1006⟩ (some 22) (kN (KA (F1 L) (L+24) 5 c86.w.l.u.l.l (rl [4,2,2,1]) (Hm (I2 (EV (F1 L) (L+24) 5 c86.w.l.u.l.l) [0,1,2,6,14,15,16] [1,3,4,5] n) [0,1,2,6,14,15,16] [1,3,4,5] K)))) (gD p41_0 Af) p41_1 Cp Cq (gD p41_0 Af)) λo8=>Wz L Af Ai (λAi Af Cp Cq=>re (ih (Ai,Af,Cp,Cq))) o8))
def Br5(p41_0:List Aw)(p41_1:Aa)(k:Dj):Df->Prop:=λo=>k (I o.1) [(1,(Ae p41_1)),Qu,Qt,(5,[.aQ false false (.t9 o.2.1) (.t4 o.2.2)])]
def Anp [An A Df](L:Nat)(o9:Nat×Tu4):A:=
 (sl o9.1 [(lf (o9.2.1,o9.2.2.2.1,o9.2.2.2.2)),
 (lf (0,o9.2.2.2.1,o9.2.2.2.2))])
def An6 [An A Df](L:Nat)(p41_0:List Aw)(p41_1:Aa)(nx65:A):A:=
 (cn (decide ((p41_0.length:Int)>32))
 (lf (6,[],[]))
 nx65)
def Ay0 [An A Df](p41_0:List Aw)(p41_1:Aa):A:=An6 L p41_0 p41_1 (bd (Ky L p41_0 p41_1 (L+24) 0 0 [] []) λo9=>Anp L o9)
def Ade(p41_0:List Aw)(p41_1:Aa):Option Df:=Ay0 L p41_0 p41_1
theorem Buy(p41_0:List Aw)(p41_1:Aa):YO (F1 L) (L+24) 6 86 [lv (.dO p41_0),I 32,Bq4] [(1,(Ae p41_1)),Qu,Qt,(5,zq8)] k=ob (Ade L p41_0 p41_1) (Br5 p41_0 p41_1 k):=(C4 _ _ _ jn4 _ _ _ _ _ _ _).trans (eE (An6 L p41_0 p41_1 (hq (B3o L (KA (F1 L) (L+24) 5 c86 (rl [4,1,2,1]) (KJ Tryz.f86 k)) p41_0 p41_1 (L+24) (0,0,[],[])) λo9=>Anp L o9)))
def Bsa(p54_0:Yb)(p54_1:Aa)(p54_2:List Yb)(p54_3:List Bool)(p54_4:Ak)(p54_5:Ak)(k:Dj):Df->Prop:=λo=>k (I o.1) [(1,(Ae p54_1)),Qu,Qt,(5,[.aQ false false (.t9 o.2.1) (.t4 o.2.2)]),(1014,(B3 p54_4)),(2018,(B3 p54_5))]
def Am8 [An A Df](p54_0:Yb)(p54_1:Aa)(p54_2:List Yb)(p54_3:List Bool)(p54_4:Ak)(p54_5:Ak):A:=
 (bd (Cw L p54_0) λr11=>
 (cn (r11 != 0)
 (lf (r11,p54_2,p54_3))
 (fq (p54_2.findIdx? λb=>p54_0 == b) (λi12=>
 (cn (p54_3.getD i12 default)
 (lf (4,p54_2,p54_3))
 (fq (p54_2.findIdx? λb=>p54_0 == b) (λi13=>
 (lf (0,p54_2,(p54_3.set i13 true))))
 (lf (0,(p54_2++ [p54_0]),(p54_3++ [true]))))))
 (fq (p54_2.findIdx? λb=>p54_0 == b) (λi14=>
 (lf (0,p54_2,(p54_3.set i14 true))))
 (lf (0,(p54_2++ [p54_0]),(p54_3++ [true])))))))
def Adh(p54_0:Yb)(p54_1:Aa)(p54_2:List Yb)(p54_3:List Bool)(p54_4:Ak)(p54_5:Ak):Option Df:=Am8 L p54_0 p54_1 p54_2 p54_3 p54_4 p54_5
theorem Bu3(p54_0:Yb)(p54_1:Aa)(p54_2:List Yb)(p54_3:List Bool)(p54_4:Ak)(p54_5:Ak):YO (F1 L) (L+24) 5 59 [.mp 5,S p54_0] [(1,(Ae p54_1)),Qu,Qt,(5,[.aQ false false (.t9 p54_2) (.t4 p54_3)]),(1014,(B3 p54_4)),(2018,(B3 p54_5))] k=ob (Adh L p54_0 p54_1 p54_2 p54_3 p54_4 p54_5) (Bsa p54_0 p54_1 p54_2 p54_3 p54_4 p54_5 k):=(C4 _ _ _ jn4 _ _ _ _ _ _ _).trans (eE (Am8 L p54_0 p54_1 p54_2 p54_3 p54_4 p54_5))
def Br9(p52_0:Ak)(p52_1:Aa)(p52_2:List Yb)(p52_3:List Bool)(p52_4:Ak)(k:Dj):Df->Prop:=λo=>k (I o.1) [(1,(Ae p52_1)),Qu,Qt,(5,[.aQ false false (.t9 o.2.1) (.t4 o.2.2)]),(1014,(B3 p52_4)),(2018,(B3 p52_0))]
def Ad0 [An A Df](p52_0:Ak)(p52_1:Aa)(o15:Df):A:=
 (cn (o15.1 != 0)
 (lf (o15.1,o15.2.1,o15.2.2))
 (bd (Be L p52_0.Units 0 1000) λr16=>
 (cn (!r16)
 (lf (2,o15.2.1,o15.2.2))
 (bd (V2 L p52_0) λr17=>
 (cn (r17 != 0)
 (lf (r17,o15.2.1,o15.2.2))
 (bd (V1 L p52_1 p52_0.bS) λr18=>
 (lf (r18,o15.2.1,o15.2.2))))))))
def Am7 [An A Df](p52_0:Ak)(p52_1:Aa)(p52_2:List Yb)(p52_3:List Bool)(p52_4:Ak):A:=(bd (Adh L p52_0.aF p52_1 p52_2 p52_3 p52_4 p52_0) λo15=>Ad0 L p52_0 p52_1 o15)
def Mn(p52_0:Ak)(p52_1:Aa)(p52_2:List Yb)(p52_3:List Bool)(p52_4:Ak):Option Df:=Am7 L p52_0 p52_1 p52_2 p52_3 p52_4
theorem Bu2(p52_0:Ak)(p52_1:Aa)(p52_2:List Yb)(p52_3:List Bool)(p52_4:Ak):YO (F1 L) (L+24) 6 94 [.agg (B3 p52_0),.loc 3 0,.loc 1 0] [(1,(Ae p52_1)),Qu,Qt,(5,[.aQ false false (.t9 p52_2) (.t4 p52_3)]),(1014,(B3 p52_4))] k=ob (Mn L p52_0 p52_1 p52_2 p52_3 p52_4) (Br9 p52_0 p52_1 p52_2 p52_3 p52_4 k):=(C4 _ _ _ jn4 _ _ _ _ _ _ _).trans (eE ((hq (Bu3 L (Mx (F1 L) (L+24) 5 1 4 c94.u.l.l ⟨[(9,S p52_0.aF),(8,.loc 2018 0),(7,.mp 5),Aye,(2,.loc 1 0),(3,.loc 2018 0),(4,I 0)],[(1,(Ae p52_1)),Qu,Qt,(5,[.aQ false false (.t9 p52_2) (.t4 p52_3)]),(1014,(B3 p52_4)),(2018,(B3 p52_0))],2015⟩ (some 10) (kN (KA (F1 L) (L+24) 5 c94 (rl [2,2]) (KJ Tryz.f94 k)))) p52_0.aF p52_1 p52_2 p52_3 p52_4 p52_0) λo15=>Ad0 L p52_0 p52_1 o15)))
def B5q(p48_0:List Ak)(p48_1:Aa)(v:Tu4):St:=⟨[(0,.any),(1,.any),(2,.bK 94 0 Avx),(6,I v.1),(14,lv (.t86 p48_0)),(15,I (p48_0.length:Int)),(16,I v.2.1)],[(1,(Ae p48_1)),Qu,Qt,(5,[.aQ false false (.t9 v.2.2.1) (.t4 v.2.2.2)])],1006⟩
def W0 [An A P8](L:Nat)(Bq:Int)(Bz:Int)(rec:Int->Int->List Yb->List Bool->A)(o19:Df):A:=
 (cn (o19.1 != 0)
 (lf (0,o19.1,Bq,o19.2.1,o19.2.2))
 (rec Bz (Bs (Bq+1)) o19.2.1 o19.2.2))
def Xh [An A P8](L:Nat)(p48_0:List Ak)(p48_1:Aa)(rec:Int->Int->List Yb->List Bool->A)(Bz:Int)(Bq:Int)(Rv:List Yb)(Rw:List Bool)(nx73:Int->(List Yb)->(List Bool)->Int->A):A:=
 (lw Bq p48_0
 (nx73 Bq Rv Rw Bz)
 (lf (1,Bz,Bq,Rv,Rw)))
def Agv [An A P8](p48_0:List Ak)(p48_1:Aa)(rec:Int->Int->List Yb->List Bool->A)(Bz:Int)(Bq:Int)(Rv:List Yb)(Rw:List Bool):A:=Xh L p48_0 p48_1 rec Bz Bq Rv Rw (λBq Rv Rw Bz=>bd (Mn L (gD p48_0 Bq) p48_1 Rv Rw (gD p48_0 Bq)) λo19=>W0 L Bq Bz rec o19)
def Kz(L:Nat)(p48_0:List Ak)(p48_1:Aa):Nat->Int->Int->List Yb->List Bool->Option P8
 |0,_,_,_,_=>none
 |n+1,Bz,Bq,Rv,Rw=>Agv L p48_0 p48_1 (Kz L p48_0 p48_1 n) Bz Bq Rv Rw
theorem B3p(p48_0:List Ak)(p48_1:Aa):LP (EV (F1 L) (L+24) 6 c93.w.l.u.l.l) [0,1,2,6,14,15,16] [1,3,4,5] (B5q p48_0 p48_1) [.ret,.exit 0] (λn v=>Kz L p48_0 p48_1 n v.1 v.2.1 v.2.2.1 v.2.2.2) K:=lE (λ_=>rfl) λn v ih=>eE (Xh L p48_0 p48_1 (λBz Bq Rv Rw=>re (ih (Bz,Bq,Rv,Rw))) v.1 v.2.1 v.2.2.1 v.2.2.2 (λBq Rv Rw Bz=>hq (Bu2 L (Mx (F1 L) (L+24) 6 1 3 c93.w.l.u.l.l.w.l.l.u.l ⟨[(21,.agg (B3 (gD p48_0 Bq))),(20,.bK 94 0 Avx),(2,.bK 94 0 Avx),(6,I Bz),Bq8,(14,lv (.t86 p48_0)),(15,I (p48_0.length:Int)),(16,I Bq),(17,B (decide (Bq<(p48_0.length:Int)))),(18,.ref (B3 (gD p48_0 Bq))),(19,.agg (B3 (gD p48_0 Bq)))],[(1,(Ae p48_1)),Qu,Qt,(5,[.aQ false false (.t9 Rv) (.t4 Rw)]),(1014,(B3 (gD p48_0 Bq)))],1006⟩ (some 22) (kN (KA (F1 L) (L+24) 6 c93.w.l.u.l.l (rl [4,2,2,1]) (Hm (I2 (EV (F1 L) (L+24) 6 c93.w.l.u.l.l) [0,1,2,6,14,15,16] [1,3,4,5] n) [0,1,2,6,14,15,16] [1,3,4,5] K)))) (gD p48_0 Bq) p48_1 Rv Rw (gD p48_0 Bq)) λo19=>W0 L Bq Bz (λBz Bq Rv Rw=>re (ih (Bz,Bq,Rv,Rw))) o19))
def Br8(p48_0:List Ak)(p48_1:Aa)(p48_2:List Yb)(p48_3:List Bool)(k:Dj):Df->Prop:=λo=>k (I o.1) [(1,(Ae p48_1)),Qu,Qt,(5,[.aQ false false (.t9 o.2.1) (.t4 o.2.2)])]
def Anr [An A Df](L:Nat)(o20:Nat×Tu4):A:=
 (sl o20.1 [(lf (o20.2.1,o20.2.2.2.1,o20.2.2.2.2)),
 (lf (0,o20.2.2.2.1,o20.2.2.2.2))])
def An7 [An A Df](L:Nat)(p48_0:List Ak)(p48_1:Aa)(p48_2:List Yb)(p48_3:List Bool)(nx74:A):A:=
 (cn (decide ((p48_0.length:Int)>32))
 (lf (6,p48_2,p48_3))
 nx74)
def Ay1 [An A Df](p48_0:List Ak)(p48_1:Aa)(p48_2:List Yb)(p48_3:List Bool):A:=An7 L p48_0 p48_1 p48_2 p48_3 (bd (Kz L p48_0 p48_1 (L+24) 0 0 p48_2 p48_3) λo20=>Anr L o20)
def Adg(p48_0:List Ak)(p48_1:Aa)(p48_2:List Yb)(p48_3:List Bool):Option Df:=Ay1 L p48_0 p48_1 p48_2 p48_3
theorem Bu1(p48_0:List Ak)(p48_1:Aa)(p48_2:List Yb)(p48_3:List Bool):YO (F1 L) (L+24) 7 93 [lv (.t86 p48_0),I 32,.bK 94 0 Avx] [(1,(Ae p48_1)),Qu,Qt,(5,[.aQ false false (.t9 p48_2) (.t4 p48_3)])] k=ob (Adg L p48_0 p48_1 p48_2 p48_3) (Br8 p48_0 p48_1 p48_2 p48_3 k):=(C4 _ _ _ jn4 _ _ _ _ _ _ _).trans (eE (An7 L p48_0 p48_1 p48_2 p48_3 (hq (B3p L (KA (F1 L) (L+24) 6 c93 (rl [4,1,2,1]) (KJ Tryz.f93 k)) p48_0 p48_1 (L+24) (0,0,p48_2,p48_3)) λo20=>Anr L o20)))
def Bsc(p61_0:Yb)(p61_1:Aa)(p61_2:List Yb)(p61_3:List Bool)(p61_4:Au)(p61_5:Au)(k:Dj):Df->Prop:=λo=>k (I o.1) [(1,(Ae p61_1)),Qu,Qt,(5,[.aQ false false (.t9 o.2.1) (.t4 o.2.2)]),(1014,(C2 p61_4)),(2017,(C2 p61_5))]
def Ana [An A Df](p61_0:Yb)(p61_1:Aa)(p61_2:List Yb)(p61_3:List Bool)(p61_4:Au)(p61_5:Au):A:=
 (bd (Cw L p61_0) λr22=>
 (cn (r22 != 0)
 (lf (r22,p61_2,p61_3))
 (fq (p61_2.findIdx? λb=>p61_0 == b) (λi23=>
 (cn (p61_3.getD i23 default)
 (lf (4,p61_2,p61_3))
 (fq (p61_2.findIdx? λb=>p61_0 == b) (λi24=>
 (lf (0,p61_2,(p61_3.set i24 true))))
 (lf (0,(p61_2++ [p61_0]),(p61_3++ [true]))))))
 (fq (p61_2.findIdx? λb=>p61_0 == b) (λi25=>
 (lf (0,p61_2,(p61_3.set i25 true))))
 (lf (0,(p61_2++ [p61_0]),(p61_3++ [true])))))))
def Adj(p61_0:Yb)(p61_1:Aa)(p61_2:List Yb)(p61_3:List Bool)(p61_4:Au)(p61_5:Au):Option Df:=Ana L p61_0 p61_1 p61_2 p61_3 p61_4 p61_5
theorem Bu6(p61_0:Yb)(p61_1:Aa)(p61_2:List Yb)(p61_3:List Bool)(p61_4:Au)(p61_5:Au):YO (F1 L) (L+24) 5 59 [.mp 5,S p61_0] [(1,(Ae p61_1)),Qu,Qt,(5,[.aQ false false (.t9 p61_2) (.t4 p61_3)]),(1014,(C2 p61_4)),(2017,(C2 p61_5))] k=ob (Adj L p61_0 p61_1 p61_2 p61_3 p61_4 p61_5) (Bsc p61_0 p61_1 p61_2 p61_3 p61_4 p61_5 k):=(C4 _ _ _ jn4 _ _ _ _ _ _ _).trans (eE (Ana L p61_0 p61_1 p61_2 p61_3 p61_4 p61_5))
def Bsb(p59_0:Au)(p59_1:Aa)(p59_2:List Yb)(p59_3:List Bool)(p59_4:Au)(k:Dj):Df->Prop:=λo=>k (I o.1) [(1,(Ae p59_1)),Qu,Qt,(5,[.aQ false false (.t9 o.2.1) (.t4 o.2.2)]),(1014,(C2 p59_4)),(2017,(C2 p59_0))]
def Ad1 [An A Df](p59_0:Au)(o26:Df):A:=
 (cn (o26.1 != 0)
 (lf (o26.1,o26.2.1,o26.2.2))
 (bd (Be L p59_0.Room 1 1000) λr27=>
 (cn (!r27)
 (lf (2,o26.2.1,o26.2.2))
 (jp (.cn (decide (p59_0.dM<1))
 (.lf true)
 (.lf (decide (p59_0.dM>3)))) (λb28=>
 (cn b28
 (lf (1,o26.2.1,o26.2.2))
 (lf (0,o26.2.1,o26.2.2))))))))
def Am9 [An A Df](p59_0:Au)(p59_1:Aa)(p59_2:List Yb)(p59_3:List Bool)(p59_4:Au):A:=(bd (Adj L p59_0.aF p59_1 p59_2 p59_3 p59_4 p59_0) λo26=>Ad1 L p59_0 o26)
def Mo(p59_0:Au)(p59_1:Aa)(p59_2:List Yb)(p59_3:List Bool)(p59_4:Au):Option Df:=Am9 L p59_0 p59_1 p59_2 p59_3 p59_4
theorem Bu5(p59_0:Au)(p59_1:Aa)(p59_2:List Yb)(p59_3:List Bool)(p59_4:Au):YO (F1 L) (L+24) 6 100 [.agg (C2 p59_0),.loc 3 0] [(1,(Ae p59_1)),Qu,Qt,(5,[.aQ false false (.t9 p59_2) (.t4 p59_3)]),(1014,(C2 p59_4))] k=ob (Mo L p59_0 p59_1 p59_2 p59_3 p59_4) (Bsb p59_0 p59_1 p59_2 p59_3 p59_4 k):=(C4 _ _ _ jn4 _ _ _ _ _ _ _).trans (eE ((hq (Bu6 L (Mx (F1 L) (L+24) 5 1 4 B7e.u.l.l ⟨[(7,S p59_0.aF),(6,Bdd),(5,.mp 5),Aye,(2,Bdd),(3,I 0)],[(1,(Ae p59_1)),Qu,Qt,(5,[.aQ false false (.t9 p59_2) (.t4 p59_3)]),(1014,(C2 p59_4)),(2017,(C2 p59_0))],2015⟩ (some 8) (kN (KA (F1 L) (L+24) 5 B7e (rl [2,2]) (KJ Tryz.f100 k)))) p59_0.aF p59_1 p59_2 p59_3 p59_4 p59_0) λo26=>Ad1 L p59_0 o26)))
def B5r(p55_0:List Au)(p55_1:Aa)(v:Tu4):St:=⟨[(0,.any),(1,.any),(2,.bK 100 0 Agj),(6,I v.1),(14,lv (.t89 p55_0)),(15,I (p55_0.length:Int)),(16,I v.2.1)],[(1,(Ae p55_1)),Qu,Qt,(5,[.aQ false false (.t9 v.2.2.1) (.t4 v.2.2.2)])],1006⟩
def W1 [An A P8](L:Nat)(Tl:Int)(D9:Int)(rec:Int->Int->List Yb->List Bool->A)(o29:Df):A:=
 (cn (o29.1 != 0)
 (lf (0,o29.1,Tl,o29.2.1,o29.2.2))
 (rec D9 (Bs (Tl+1)) o29.2.1 o29.2.2))
def Xi [An A P8](L:Nat)(p55_0:List Au)(p55_1:Aa)(rec:Int->Int->List Yb->List Bool->A)(D9:Int)(Tl:Int)(Fs:List Yb)(Rx:List Bool)(nx82:Int->(List Yb)->(List Bool)->Int->A):A:=
 (lw Tl p55_0
 (nx82 Tl Fs Rx D9)
 (lf (1,D9,Tl,Fs,Rx)))
def Agw [An A P8](p55_0:List Au)(p55_1:Aa)(rec:Int->Int->List Yb->List Bool->A)(D9:Int)(Tl:Int)(Fs:List Yb)(Rx:List Bool):A:=Xi L p55_0 p55_1 rec D9 Tl Fs Rx (λTl Fs Rx D9=>bd (Mo L (gD p55_0 Tl) p55_1 Fs Rx (gD p55_0 Tl)) λo29=>W1 L Tl D9 rec o29)
def K0(L:Nat)(p55_0:List Au)(p55_1:Aa):Nat->Int->Int->List Yb->List Bool->Option P8
 |0,_,_,_,_=>none
 |n+1,D9,Tl,Fs,Rx=>Agw L p55_0 p55_1 (K0 L p55_0 p55_1 n) D9 Tl Fs Rx
theorem B3q(p55_0:List Au)(p55_1:Aa):LP (EV (F1 L) (L+24) 6 c99.w.l.u.l.l) [0,1,2,6,14,15,16] [1,3,4,5] (B5r p55_0 p55_1) [.ret,.exit 0] (λn v=>K0 L p55_0 p55_1 n v.1 v.2.1 v.2.2.1 v.2.2.2) K:=lE (λ_=>rfl) λn v ih=>eE (Xi L p55_0 p55_1 (λD9 Tl Fs Rx=>re (ih (D9,Tl,Fs,Rx))) v.1 v.2.1 v.2.2.1 v.2.2.2 (λTl Fs Rx D9=>hq (Bu5 L (Mx (F1 L) (L+24) 6 1 3 c99.w.l.u.l.l.w.l.l.u.l ⟨[(21,.agg (C2 (gD p55_0 Tl))),(20,.bK 100 0 Agj),(2,.bK 100 0 Agj),(6,I D9),Bq8,(14,lv (.t89 p55_0)),(15,I (p55_0.length:Int)),(16,I Tl),(17,B (decide (Tl<(p55_0.length:Int)))),(18,.ref (C2 (gD p55_0 Tl))),(19,.agg (C2 (gD p55_0 Tl)))],[(1,(Ae p55_1)),Qu,Qt,(5,[.aQ false false (.t9 Fs) (.t4 Rx)]),(1014,(C2 (gD p55_0 Tl)))],1006⟩ (some 22) (kN (KA (F1 L) (L+24) 6 c99.w.l.u.l.l (rl [4,2,2,1]) (Hm (I2 (EV (F1 L) (L+24) 6 c99.w.l.u.l.l) [0,1,2,6,14,15,16] [1,3,4,5] n) [0,1,2,6,14,15,16] [1,3,4,5] K)))) (gD p55_0 Tl) p55_1 Fs Rx (gD p55_0 Tl)) λo29=>W1 L Tl D9 (λD9 Tl Fs Rx=>re (ih (D9,Tl,Fs,Rx))) o29))
def Bjd(p55_0:List Au)(p55_1:Aa)(p55_2:List Yb)(p55_3:List Bool)(k:Dj):Df->Prop:=λo=>k (I o.1) [(1,(Ae p55_1)),Qu,Qt,(5,[.aQ false false (.t9 o.2.1) (.t4 o.2.2)])]
def Ant [An A Df](L:Nat)(o30:Nat×Tu4):A:=
 (sl o30.1 [(lf (o30.2.1,o30.2.2.2.1,o30.2.2.2.2)),
 (lf (0,o30.2.2.2.1,o30.2.2.2.2))])
def An8 [An A Df](L:Nat)(p55_0:List Au)(p55_1:Aa)(p55_2:List Yb)(p55_3:List Bool)(nx83:A):A:=
 (cn (decide ((p55_0.length:Int)>32))
 (lf (6,p55_2,p55_3))
 nx83)
def Ay2 [An A Df](p55_0:List Au)(p55_1:Aa)(p55_2:List Yb)(p55_3:List Bool):A:=An8 L p55_0 p55_1 p55_2 p55_3 (bd (K0 L p55_0 p55_1 (L+24) 0 0 p55_2 p55_3) λo30=>Ant L o30)
def Adi(p55_0:List Au)(p55_1:Aa)(p55_2:List Yb)(p55_3:List Bool):Option Df:=Ay2 L p55_0 p55_1 p55_2 p55_3
theorem Bu4(p55_0:List Au)(p55_1:Aa)(p55_2:List Yb)(p55_3:List Bool):YO (F1 L) (L+24) 7 99 [lv (.t89 p55_0),I 32,.bK 100 0 Agj] [(1,(Ae p55_1)),Qu,Qt,(5,[.aQ false false (.t9 p55_2) (.t4 p55_3)])] k=ob (Adi L p55_0 p55_1 p55_2 p55_3) (Bjd p55_0 p55_1 p55_2 p55_3 k):=(C4 _ _ _ jn4 _ _ _ _ _ _ _).trans (eE (An8 L p55_0 p55_1 p55_2 p55_3 (hq (B3q L (KA (F1 L) (L+24) 6 c99 (rl [4,1,2,1]) (KJ Tryz.f99 k)) p55_0 p55_1 (L+24) (0,0,p55_2,p55_3)) λo30=>Ant L o30)))
def Bsf(p68_0:Yb)(p68_1:Aa)(p68_2:List Yb)(p68_3:List Bool)(p68_4:Bg)(p68_5:Bg)(k:Dj):Df->Prop:=λo=>k (I o.1) [(1,(Ae p68_1)),Qu,Qt,(5,[.aQ false false (.t9 o.2.1) (.t4 o.2.2)]),(1014,(Db p68_4)),(2017,(Db p68_5))]
def Anc [An A Df](p68_0:Yb)(p68_1:Aa)(p68_2:List Yb)(p68_3:List Bool)(p68_4:Bg)(p68_5:Bg):A:=
 (bd (Cw L p68_0) λr32=>
 (cn (r32 != 0)
 (lf (r32,p68_2,p68_3))
 (fq (p68_2.findIdx? λb=>p68_0 == b) (λi33=>
 (cn (p68_3.getD i33 default)
 (lf (4,p68_2,p68_3))
 (fq (p68_2.findIdx? λb=>p68_0 == b) (λi34=>
 (lf (0,p68_2,(p68_3.set i34 true))))
 (lf (0,(p68_2++ [p68_0]),(p68_3++ [true]))))))
 (fq (p68_2.findIdx? λb=>p68_0 == b) (λi35=>
 (lf (0,p68_2,(p68_3.set i35 true))))
 (lf (0,(p68_2++ [p68_0]),(p68_3++ [true])))))))
def Adl(p68_0:Yb)(p68_1:Aa)(p68_2:List Yb)(p68_3:List Bool)(p68_4:Bg)(p68_5:Bg):Option Df:=Anc L p68_0 p68_1 p68_2 p68_3 p68_4 p68_5
theorem Bu9(p68_0:Yb)(p68_1:Aa)(p68_2:List Yb)(p68_3:List Bool)(p68_4:Bg)(p68_5:Bg):YO (F1 L) (L+24) 5 59 [.mp 5,S p68_0] [(1,(Ae p68_1)),Qu,Qt,(5,[.aQ false false (.t9 p68_2) (.t4 p68_3)]),(1014,(Db p68_4)),(2017,(Db p68_5))] k=ob (Adl L p68_0 p68_1 p68_2 p68_3 p68_4 p68_5) (Bsf p68_0 p68_1 p68_2 p68_3 p68_4 p68_5 k):=(C4 _ _ _ jn4 _ _ _ _ _ _ _).trans (eE (Anc L p68_0 p68_1 p68_2 p68_3 p68_4 p68_5))
def Bse(p66_0:Bg)(p66_1:Aa)(p66_2:List Yb)(p66_3:List Bool)(p66_4:Bg)(k:Dj):Df->Prop:=λo=>k (I o.1) [(1,(Ae p66_1)),Qu,Qt,(5,[.aQ false false (.t9 o.2.1) (.t4 o.2.2)]),(1014,(Db p66_4)),(2017,(Db p66_0))]
def Ad3 [An A Df](p66_0:Bg)(o36:Df):A:=
 (cn (o36.1 != 0)
 (lf (o36.1,o36.2.1,o36.2.2))
 (bd (Be L p66_0.Length 1 1000) λr37=>
 (jb (.cn (!r37)
 (.lf true)
 (.bd (Be L p66_0.Step 1 1000) λr39=>
 (.lf (!r39)))) (λb38=>
 (cn b38
 (lf (2,o36.2.1,o36.2.2))
 (lf (0,o36.2.1,o36.2.2)))))))
def Anb [An A Df](p66_0:Bg)(p66_1:Aa)(p66_2:List Yb)(p66_3:List Bool)(p66_4:Bg):A:=(bd (Adl L p66_0.aF p66_1 p66_2 p66_3 p66_4 p66_0) λo36=>Ad3 L p66_0 o36)
def Mp(p66_0:Bg)(p66_1:Aa)(p66_2:List Yb)(p66_3:List Bool)(p66_4:Bg):Option Df:=Anb L p66_0 p66_1 p66_2 p66_3 p66_4
theorem Bu8(p66_0:Bg)(p66_1:Aa)(p66_2:List Yb)(p66_3:List Bool)(p66_4:Bg):YO (F1 L) (L+24) 6 103 [.agg (Db p66_0),.loc 3 0] [(1,(Ae p66_1)),Qu,Qt,(5,[.aQ false false (.t9 p66_2) (.t4 p66_3)]),(1014,(Db p66_4))] k=ob (Mp L p66_0 p66_1 p66_2 p66_3 p66_4) (Bse p66_0 p66_1 p66_2 p66_3 p66_4 k):=(C4 _ _ _ jn4 _ _ _ _ _ _ _).trans (eE ((hq (Bu9 L (Mx (F1 L) (L+24) 5 1 4 B7g.u.l.l ⟨[(7,S p66_0.aF),(6,Bdd),(5,.mp 5),Aye,(2,Bdd),(3,I 0)],[(1,(Ae p66_1)),Qu,Qt,(5,[.aQ false false (.t9 p66_2) (.t4 p66_3)]),(1014,(Db p66_4)),(2017,(Db p66_0))],2015⟩ (some 8) (kN (KA (F1 L) (L+24) 5 B7g (rl [2,2]) (KJ Tryz.f103 k)))) p66_0.aF p66_1 p66_2 p66_3 p66_4 p66_0) λo36=>Ad3 L p66_0 o36)))
def B5s(p62_0:List Bg)(p62_1:Aa)(v:Tu4):St:=⟨[(0,.any),(1,.any),(2,.bK 103 0 Agj),(6,I v.1),(14,lv (.eH p62_0)),(15,I (p62_0.length:Int)),(16,I v.2.1)],[(1,(Ae p62_1)),Qu,Qt,(5,[.aQ false false (.t9 v.2.2.1) (.t4 v.2.2.2)])],1006⟩
def W2 [An A P8](L:Nat)(S7:Int)(Mu:Int)(rec:Int->Int->List Yb->List Bool->A)(o40:Df):A:=
 (cn (o40.1 != 0)
 (lf (0,o40.1,S7,o40.2.1,o40.2.2))
 (rec Mu (Bs (S7+1)) o40.2.1 o40.2.2))
def Xj [An A P8](L:Nat)(p62_0:List Bg)(p62_1:Aa)(rec:Int->Int->List Yb->List Bool->A)(Mu:Int)(S7:Int)(Ry:List Yb)(F0:List Bool)(nx91:Int->(List Yb)->(List Bool)->Int->A):A:=
 (lw S7 p62_0
 (nx91 S7 Ry F0 Mu)
 (lf (1,Mu,S7,Ry,F0)))
def Agx [An A P8](p62_0:List Bg)(p62_1:Aa)(rec:Int->Int->List Yb->List Bool->A)(Mu:Int)(S7:Int)(Ry:List Yb)(F0:List Bool):A:=Xj L p62_0 p62_1 rec Mu S7 Ry F0 (λS7 Ry F0 Mu=>bd (Mp L (gD p62_0 S7) p62_1 Ry F0 (gD p62_0 S7)) λo40=>W2 L S7 Mu rec o40)
def K1(L:Nat)(p62_0:List Bg)(p62_1:Aa):Nat->Int->Int->List Yb->List Bool->Option P8
 |0,_,_,_,_=>none
 |n+1,Mu,S7,Ry,F0=>Agx L p62_0 p62_1 (K1 L p62_0 p62_1 n) Mu S7 Ry F0
theorem B3r(p62_0:List Bg)(p62_1:Aa):LP (EV (F1 L) (L+24) 6 Bns.w.l.u.l.l) [0,1,2,6,14,15,16] [1,3,4,5] (B5s p62_0 p62_1) [.ret,.exit 0] (λn v=>K1 L p62_0 p62_1 n v.1 v.2.1 v.2.2.1 v.2.2.2) K:=lE (λ_=>rfl) λn v ih=>eE (Xj L p62_0 p62_1 (λMu S7 Ry F0=>re (ih (Mu,S7,Ry,F0))) v.1 v.2.1 v.2.2.1 v.2.2.2 (λS7 Ry F0 Mu=>hq (Bu8 L (Mx (F1 L) (L+24) 6 1 3 Bns.w.l.u.l.l.w.l.l.u.l ⟨[(21,.agg (Db (gD p62_0 S7))),(20,.bK 103 0 Agj),(2,.bK 103 0 Agj),(6,I Mu),Bq8,(14,lv (.eH p62_0)),(15,I (p62_0.length:Int)),(16,I S7),(17,B (decide (S7<(p62_0.length:Int)))),(18,.ref (Db (gD p62_0 S7))),(19,.agg (Db (gD p62_0 S7)))],[(1,(Ae p62_1)),Qu,Qt,(5,[.aQ false false (.t9 Ry) (.t4 F0)]),(1014,(Db (gD p62_0 S7)))],1006⟩ (some 22) (kN (KA (F1 L) (L+24) 6 Bns.w.l.u.l.l (rl [4,2,2,1]) (Hm (I2 (EV (F1 L) (L+24) 6 Bns.w.l.u.l.l) [0,1,2,6,14,15,16] [1,3,4,5] n) [0,1,2,6,14,15,16] [1,3,4,5] K)))) (gD p62_0 S7) p62_1 Ry F0 (gD p62_0 S7)) λo40=>W2 L S7 Mu (λMu S7 Ry F0=>re (ih (Mu,S7,Ry,F0))) o40))
def Bsd(p62_0:List Bg)(p62_1:Aa)(p62_2:List Yb)(p62_3:List Bool)(k:Dj):Df->Prop:=λo=>k (I o.1) [(1,(Ae p62_1)),Qu,Qt,(5,[.aQ false false (.t9 o.2.1) (.t4 o.2.2)])]
def Anu [An A Df](L:Nat)(o41:Nat×Tu4):A:=
 (sl o41.1 [(lf (o41.2.1,o41.2.2.2.1,o41.2.2.2.2)),
 (lf (0,o41.2.2.2.1,o41.2.2.2.2))])
def An9 [An A Df](L:Nat)(p62_0:List Bg)(p62_1:Aa)(p62_2:List Yb)(p62_3:List Bool)(nx92:A):A:=
 (cn (decide ((p62_0.length:Int)>32))
 (lf (6,p62_2,p62_3))
 nx92)
def Ay3 [An A Df](p62_0:List Bg)(p62_1:Aa)(p62_2:List Yb)(p62_3:List Bool):A:=An9 L p62_0 p62_1 p62_2 p62_3 (bd (K1 L p62_0 p62_1 (L+24) 0 0 p62_2 p62_3) λo41=>Anu L o41)
def Adk(p62_0:List Bg)(p62_1:Aa)(p62_2:List Yb)(p62_3:List Bool):Option Df:=Ay3 L p62_0 p62_1 p62_2 p62_3
theorem Bu7(p62_0:List Bg)(p62_1:Aa)(p62_2:List Yb)(p62_3:List Bool):YO (F1 L) (L+24) 7 102 [lv (.eH p62_0),I 32,.bK 103 0 Agj] [(1,(Ae p62_1)),Qu,Qt,(5,[.aQ false false (.t9 p62_2) (.t4 p62_3)])] k=ob (Adk L p62_0 p62_1 p62_2 p62_3) (Bsd p62_0 p62_1 p62_2 p62_3 k):=(C4 _ _ _ jn4 _ _ _ _ _ _ _).trans (eE (An9 L p62_0 p62_1 p62_2 p62_3 (hq (B3r L (KA (F1 L) (L+24) 6 Bns (rl [4,1,2,1]) (KJ Tryz.f102 k)) p62_0 p62_1 (L+24) (0,0,p62_2,p62_3)) λo41=>Anu L o41)))
def Bsg(p71_0:Yb)(p71_1:Aa)(p71_2:List Yb)(p71_3:List Bool)(k:Dj):Df->Prop:=λo=>k (I o.1) [(1,(Ae p71_1)),Qu,Qt,(5,[.aQ false false (.t9 o.2.1) (.t4 o.2.2)])]
def Ane [An A Df](p71_0:Yb)(p71_1:Aa)(p71_2:List Yb)(p71_3:List Bool):A:=
 (bd (Cw L p71_0) λr43=>
 (cn (r43 != 0)
 (lf (r43,p71_2,p71_3))
 (fq (p71_2.findIdx? λb=>p71_0 == b) (λi44=>
 (cn (p71_3.getD i44 default)
 (lf (4,p71_2,p71_3))
 (fq (p71_2.findIdx? λb=>p71_0 == b) (λi45=>
 (lf (0,p71_2,(p71_3.set i45 true))))
 (lf (0,(p71_2++ [p71_0]),(p71_3++ [true]))))))
 (fq (p71_2.findIdx? λb=>p71_0 == b) (λi46=>
 (lf (0,p71_2,(p71_3.set i46 true))))
 (lf (0,(p71_2++ [p71_0]),(p71_3++ [true])))))))
def Mq(p71_0:Yb)(p71_1:Aa)(p71_2:List Yb)(p71_3:List Bool):Option Df:=Ane L p71_0 p71_1 p71_2 p71_3
theorem Bva(p71_0:Yb)(p71_1:Aa)(p71_2:List Yb)(p71_3:List Bool):YO (F1 L) (L+24) 5 59 [.mp 5,S p71_0] [(1,(Ae p71_1)),Qu,Qt,(5,[.aQ false false (.t9 p71_2) (.t4 p71_3)])] k=ob (Mq L p71_0 p71_1 p71_2 p71_3) (Bsg p71_0 p71_1 p71_2 p71_3 k):=(C4 _ _ _ jn4 _ _ _ _ _ _ _).trans (eE (Ane L p71_0 p71_1 p71_2 p71_3))
def B5t(p69_0:List Yb)(p69_1:Aa)(v:Tu4):St:=⟨[(0,.any),(1,.any),(2,Bda),(6,I v.1),(14,lv (.t9 p69_0)),(15,I (p69_0.length:Int)),(16,I v.2.1)],[(1,(Ae p69_1)),Qu,Qt,(5,[.aQ false false (.t9 v.2.2.1) (.t4 v.2.2.2)])],1006⟩
def W3 [An A P8](L:Nat)(Agg:Int)(Abr:Int)(rec:Int->Int->List Yb->List Bool->A)(o47:Df):A:=
 (cn (o47.1 != 0)
 (lf (0,o47.1,Agg,o47.2.1,o47.2.2))
 (rec Abr (Bs (Agg+1)) o47.2.1 o47.2.2))
def Xk [An A P8](L:Nat)(p69_0:List Yb)(p69_1:Aa)(rec:Int->Int->List Yb->List Bool->A)(Abr:Int)(Agg:Int)(Rz:List Yb)(R2:List Bool)(nx96:Int->(List Yb)->(List Bool)->Int->A):A:=
 (lw Agg p69_0
 (nx96 Agg Rz R2 Abr)
 (lf (1,Abr,Agg,Rz,R2)))
def Agy [An A P8](p69_0:List Yb)(p69_1:Aa)(rec:Int->Int->List Yb->List Bool->A)(Abr:Int)(Agg:Int)(Rz:List Yb)(R2:List Bool):A:=Xk L p69_0 p69_1 rec Abr Agg Rz R2 (λAgg Rz R2 Abr=>bd (Mq L (gD p69_0 Agg) p69_1 Rz R2) λo47=>W3 L Agg Abr rec o47)
def K2(L:Nat)(p69_0:List Yb)(p69_1:Aa):Nat->Int->Int->List Yb->List Bool->Option P8
 |0,_,_,_,_=>none
 |n+1,Abr,Agg,Rz,R2=>Agy L p69_0 p69_1 (K2 L p69_0 p69_1 n) Abr Agg Rz R2
theorem B3s(p69_0:List Yb)(p69_1:Aa):LP (EV (F1 L) (L+24) 5 c89.w.l.u.l.l) [0,1,2,6,14,15,16] [1,3,4,5] (B5t p69_0 p69_1) [.ret,.exit 0] (λn v=>K2 L p69_0 p69_1 n v.1 v.2.1 v.2.2.1 v.2.2.2) K:=lE (λ_=>rfl) λn v ih=>eE (Xk L p69_0 p69_1 (λAbr Agg Rz R2=>re (ih (Abr,Agg,Rz,R2))) v.1 v.2.1 v.2.2.1 v.2.2.2 (λAgg Rz R2 Abr=>hq (Bva L (Mx (F1 L) (L+24) 5 1 3 c89.w.l.u.l.l.w.l.l.u.l ⟨[(21,S (gD p69_0 Agg)),(20,Bda),(2,Bda),(6,I Abr),(8,S (gD p69_0 Agg)),(14,lv (.t9 p69_0)),(15,I (p69_0.length:Int)),(16,I Agg),(17,B (decide (Agg<(p69_0.length:Int)))),(18,.ref [S (gD p69_0 Agg)]),(19,S (gD p69_0 Agg))],[(1,(Ae p69_1)),Qu,Qt,(5,[.aQ false false (.t9 Rz) (.t4 R2)])],1006⟩ (some 22) (kN (KA (F1 L) (L+24) 5 c89.w.l.u.l.l (rl [4,2,2,1]) (Hm (I2 (EV (F1 L) (L+24) 5 c89.w.l.u.l.l) [0,1,2,6,14,15,16] [1,3,4,5] n) [0,1,2,6,14,15,16] [1,3,4,5] K)))) (gD p69_0 Agg) p69_1 Rz R2) λo47=>W3 L Agg Abr (λAbr Agg Rz R2=>re (ih (Abr,Agg,Rz,R2))) o47))
def Bak(p69_0:List Yb)(p69_1:Aa)(p69_2:List Yb)(p69_3:List Bool)(k:Dj):Df->Prop:=λo=>k (I o.1) [(1,(Ae p69_1)),Qu,Qt,(5,[.aQ false false (.t9 o.2.1) (.t4 o.2.2)])]
def Anw [An A Df](L:Nat)(o48:Nat×Tu4):A:=
 (sl o48.1 [(lf (o48.2.1,o48.2.2.2.1,o48.2.2.2.2)),
 (lf (0,o48.2.2.2.1,o48.2.2.2.2))])
def Aoa [An A Df](L:Nat)(p69_0:List Yb)(p69_1:Aa)(p69_2:List Yb)(p69_3:List Bool)(nx97:A):A:=
 (cn (decide ((p69_0.length:Int)>32))
 (lf (6,p69_2,p69_3))
 nx97)
def Ay4 [An A Df](p69_0:List Yb)(p69_1:Aa)(p69_2:List Yb)(p69_3:List Bool):A:=Aoa L p69_0 p69_1 p69_2 p69_3 (bd (K2 L p69_0 p69_1 (L+24) 0 0 p69_2 p69_3) λo48=>Anw L o48)
def Ja(p69_0:List Yb)(p69_1:Aa)(p69_2:List Yb)(p69_3:List Bool):Option Df:=Ay4 L p69_0 p69_1 p69_2 p69_3
theorem Awy(p69_0:List Yb)(p69_1:Aa)(p69_2:List Yb)(p69_3:List Bool):YO (F1 L) (L+24) 6 89 [lv (.t9 p69_0),I 32,Bda] [(1,(Ae p69_1)),Qu,Qt,(5,[.aQ false false (.t9 p69_2) (.t4 p69_3)])] k=ob (Ja L p69_0 p69_1 p69_2 p69_3) (Bak p69_0 p69_1 p69_2 p69_3 k):=(C4 _ _ _ jn4 _ _ _ _ _ _ _).trans (eE (Aoa L p69_0 p69_1 p69_2 p69_3 (hq (B3s L (KA (F1 L) (L+24) 5 c89 (rl [4,1,2,1]) (KJ Tryz.f89 k)) p69_0 p69_1 (L+24) (0,0,p69_2,p69_3)) λo48=>Anw L o48)))
def Bsj(p78_0:Yb)(p78_1:Aa)(p78_2:List Yb)(p78_3:List Bool)(p78_4:Am)(p78_5:Am)(k:Dj):Df->Prop:=λo=>k (I o.1) [(1,(Ae p78_1)),Qu,Qt,(5,[.aQ false false (.t9 o.2.1) (.t4 o.2.2)]),(1014,(Cs p78_4)),(2017,(Cs p78_5))]
def Ang [An A Df](p78_0:Yb)(p78_1:Aa)(p78_2:List Yb)(p78_3:List Bool)(p78_4:Am)(p78_5:Am):A:=
 (bd (Cw L p78_0) λr54=>
 (cn (r54 != 0)
 (lf (r54,p78_2,p78_3))
 (fq (p78_2.findIdx? λb=>p78_0 == b) (λi55=>
 (cn (p78_3.getD i55 default)
 (lf (4,p78_2,p78_3))
 (fq (p78_2.findIdx? λb=>p78_0 == b) (λi56=>
 (lf (0,p78_2,(p78_3.set i56 true))))
 (lf (0,(p78_2++ [p78_0]),(p78_3++ [true]))))))
 (fq (p78_2.findIdx? λb=>p78_0 == b) (λi57=>
 (lf (0,p78_2,(p78_3.set i57 true))))
 (lf (0,(p78_2++ [p78_0]),(p78_3++ [true])))))))
def Adn(p78_0:Yb)(p78_1:Aa)(p78_2:List Yb)(p78_3:List Bool)(p78_4:Am)(p78_5:Am):Option Df:=Ang L p78_0 p78_1 p78_2 p78_3 p78_4 p78_5
theorem Bvd(p78_0:Yb)(p78_1:Aa)(p78_2:List Yb)(p78_3:List Bool)(p78_4:Am)(p78_5:Am):YO (F1 L) (L+24) 5 59 [.mp 5,S p78_0] [(1,(Ae p78_1)),Qu,Qt,(5,[.aQ false false (.t9 p78_2) (.t4 p78_3)]),(1014,(Cs p78_4)),(2017,(Cs p78_5))] k=ob (Adn L p78_0 p78_1 p78_2 p78_3 p78_4 p78_5) (Bsj p78_0 p78_1 p78_2 p78_3 p78_4 p78_5 k):=(C4 _ _ _ jn4 _ _ _ _ _ _ _).trans (eE (Ang L p78_0 p78_1 p78_2 p78_3 p78_4 p78_5))
def Bsi(p76_0:Am)(p76_1:Aa)(p76_2:List Yb)(p76_3:List Bool)(p76_4:Am)(k:Dj):Df->Prop:=λo=>k (I o.1) [(1,(Ae p76_1)),Qu,Qt,(5,[.aQ false false (.t9 o.2.1) (.t4 o.2.2)]),(1014,(Cs p76_4)),(2017,(Cs p76_0))]
def Abk [An A Df](p76_0:Am)(o58:Df):A:=
 (cn (o58.1 != 0)
 (lf (o58.1,o58.2.1,o58.2.2))
 (bd (Yd L p76_0) λr59=>
 (lf (r59,o58.2.1,o58.2.2))))
def Anf [An A Df](p76_0:Am)(p76_1:Aa)(p76_2:List Yb)(p76_3:List Bool)(p76_4:Am):A:=(bd (Adn L p76_0.aF p76_1 p76_2 p76_3 p76_4 p76_0) λo58=>Abk L p76_0 o58)
def Mr(p76_0:Am)(p76_1:Aa)(p76_2:List Yb)(p76_3:List Bool)(p76_4:Am):Option Df:=Anf L p76_0 p76_1 p76_2 p76_3 p76_4
theorem Bvc(p76_0:Am)(p76_1:Aa)(p76_2:List Yb)(p76_3:List Bool)(p76_4:Am):YO (F1 L) (L+24) 6 111 [.agg (Cs p76_0),.loc 3 0] [(1,(Ae p76_1)),Qu,Qt,(5,[.aQ false false (.t9 p76_2) (.t4 p76_3)]),(1014,(Cs p76_4))] k=ob (Mr L p76_0 p76_1 p76_2 p76_3 p76_4) (Bsi p76_0 p76_1 p76_2 p76_3 p76_4 k):=(C4 _ _ _ jn4 _ _ _ _ _ _ _).trans (eE ((hq (Bvd L (Mx (F1 L) (L+24) 5 1 4 B7n.u.l.l ⟨[(7,S p76_0.aF),(6,Bdd),(5,.mp 5),Aye,(2,Bdd),(3,I 0)],[(1,(Ae p76_1)),Qu,Qt,(5,[.aQ false false (.t9 p76_2) (.t4 p76_3)]),(1014,(Cs p76_4)),(2017,(Cs p76_0))],2015⟩ (some 8) (kN (KA (F1 L) (L+24) 5 B7n (rl [2,2]) (KJ Tryz.f111 k)))) p76_0.aF p76_1 p76_2 p76_3 p76_4 p76_0) λo58=>Abk L p76_0 o58)))
def B5u(p72_0:List Am)(p72_1:Aa)(v:Tu4):St:=⟨[(0,.any),(1,.any),(2,.bK 111 0 Agj),(6,I v.1),(14,lv (.t93 p72_0)),(15,I (p72_0.length:Int)),(16,I v.2.1)],[(1,(Ae p72_1)),Qu,Qt,(5,[.aQ false false (.t9 v.2.2.1) (.t4 v.2.2.2)])],1006⟩
def Uz [An A P8](L:Nat)(Acl:Int)(Abs:Int)(rec:Int->Int->List Yb->List Bool->A)(o60:Df):A:=
 (cn (o60.1 != 0)
 (lf (0,o60.1,Acl,o60.2.1,o60.2.2))
 (rec Abs (Bs (Acl+1)) o60.2.1 o60.2.2))
def U8 [An A P8](L:Nat)(p72_0:List Am)(p72_1:Aa)(rec:Int->Int->List Yb->List Bool->A)(Abs:Int)(Acl:Int)(R3:List Yb)(R4:List Bool)(nx109:Int->(List Yb)->(List Bool)->Int->A):A:=
 (lw Acl p72_0
 (nx109 Acl R3 R4 Abs)
 (lf (1,Abs,Acl,R3,R4)))
def Agz [An A P8](p72_0:List Am)(p72_1:Aa)(rec:Int->Int->List Yb->List Bool->A)(Abs:Int)(Acl:Int)(R3:List Yb)(R4:List Bool):A:=U8 L p72_0 p72_1 rec Abs Acl R3 R4 (λAcl R3 R4 Abs=>bd (Mr L (gD p72_0 Acl) p72_1 R3 R4 (gD p72_0 Acl)) λo60=>Uz L Acl Abs rec o60)
def K3(L:Nat)(p72_0:List Am)(p72_1:Aa):Nat->Int->Int->List Yb->List Bool->Option P8
 |0,_,_,_,_=>none
 |n+1,Abs,Acl,R3,R4=>Agz L p72_0 p72_1 (K3 L p72_0 p72_1 n) Abs Acl R3 R4
theorem B3t(p72_0:List Am)(p72_1:Aa):LP (EV (F1 L) (L+24) 6 Bnt.w.l.u.l.l) [0,1,2,6,14,15,16] [1,3,4,5] (B5u p72_0 p72_1) [.ret,.exit 0] (λn v=>K3 L p72_0 p72_1 n v.1 v.2.1 v.2.2.1 v.2.2.2) K:=lE (λ_=>rfl) λn v ih=>eE (U8 L p72_0 p72_1 (λAbs Acl R3 R4=>re (ih (Abs,Acl,R3,R4))) v.1 v.2.1 v.2.2.1 v.2.2.2 (λAcl R3 R4 Abs=>hq (Bvc L (Mx (F1 L) (L+24) 6 1 3 Bnt.w.l.u.l.l.w.l.l.u.l ⟨[(21,.agg (Cs (gD p72_0 Acl))),(20,.bK 111 0 Agj),(2,.bK 111 0 Agj),(6,I Abs),Bq8,(14,lv (.t93 p72_0)),(15,I (p72_0.length:Int)),(16,I Acl),(17,B (decide (Acl<(p72_0.length:Int)))),(18,.ref (Cs (gD p72_0 Acl))),(19,.agg (Cs (gD p72_0 Acl)))],[(1,(Ae p72_1)),Qu,Qt,(5,[.aQ false false (.t9 R3) (.t4 R4)]),(1014,(Cs (gD p72_0 Acl)))],1006⟩ (some 22) (kN (KA (F1 L) (L+24) 6 Bnt.w.l.u.l.l (rl [4,2,2,1]) (Hm (I2 (EV (F1 L) (L+24) 6 Bnt.w.l.u.l.l) [0,1,2,6,14,15,16] [1,3,4,5] n) [0,1,2,6,14,15,16] [1,3,4,5] K)))) (gD p72_0 Acl) p72_1 R3 R4 (gD p72_0 Acl)) λo60=>Uz L Acl Abs (λAbs Acl R3 R4=>re (ih (Abs,Acl,R3,R4))) o60))
def Bsh(p72_0:List Am)(p72_1:Aa)(p72_2:List Yb)(p72_3:List Bool)(k:Dj):Df->Prop:=λo=>k (I o.1) [(1,(Ae p72_1)),Qu,Qt,(5,[.aQ false false (.t9 o.2.1) (.t4 o.2.2)])]
def Ak5 [An A Df](L:Nat)(o61:Nat×Tu4):A:=
 (sl o61.1 [(lf (o61.2.1,o61.2.2.2.1,o61.2.2.2.2)),
 (lf (0,o61.2.2.2.1,o61.2.2.2.2))])
def Ala [An A Df](L:Nat)(p72_0:List Am)(p72_1:Aa)(p72_2:List Yb)(p72_3:List Bool)(nx110:A):A:=
 (cn (decide ((p72_0.length:Int)>16))
 (lf (6,p72_2,p72_3))
 nx110)
def Ay5 [An A Df](p72_0:List Am)(p72_1:Aa)(p72_2:List Yb)(p72_3:List Bool):A:=Ala L p72_0 p72_1 p72_2 p72_3 (bd (K3 L p72_0 p72_1 (L+24) 0 0 p72_2 p72_3) λo61=>Ak5 L o61)
def Adm(p72_0:List Am)(p72_1:Aa)(p72_2:List Yb)(p72_3:List Bool):Option Df:=Ay5 L p72_0 p72_1 p72_2 p72_3
theorem Bvb(p72_0:List Am)(p72_1:Aa)(p72_2:List Yb)(p72_3:List Bool):YO (F1 L) (L+24) 7 110 [lv (.t93 p72_0),I 16,.bK 111 0 Agj] [(1,(Ae p72_1)),Qu,Qt,(5,[.aQ false false (.t9 p72_2) (.t4 p72_3)])] k=ob (Adm L p72_0 p72_1 p72_2 p72_3) (Bsh p72_0 p72_1 p72_2 p72_3 k):=(C4 _ _ _ jn4 _ _ _ _ _ _ _).trans (eE (Ala L p72_0 p72_1 p72_2 p72_3 (hq (B3t L (KA (F1 L) (L+24) 6 Bnt (rl [4,1,2,1]) (KJ Tryz.f110 k)) p72_0 p72_1 (L+24) (0,0,p72_2,p72_3)) λo61=>Ak5 L o61)))
def B5v(p79_0:List Bv)(p79_1:Aa)(p79_2:List Yb)(p79_3:List Bool)(v:Js):St:=⟨[(0,.any),(1,.any),(2,.bK 115 0 A25),(6,I v.1),(14,lv (.eT p79_0)),(15,I (p79_0.length:Int)),(16,I v.2)],[(1,(Ae p79_1)),Qu,Qt,(5,[.aQ false false (.t9 p79_2) (.t4 p79_3)])],1006⟩
def Yq [An A C3](p79_0:List Bv)(p79_1:Aa)(p79_2:List Yb)(p79_3:List Bool)(rec:Int->Int->A)(Aqs:Int)(Bc5:Int):A:=
 (lw Bc5 p79_0
 (bd (Tr L p79_1 (gD p79_0 Bc5)) λr63=>
 (cn (r63 != 0)
 (lf (0,r63,Bc5))
 (rec Aqs (Bs (Bc5+1)))))
 (lf (1,Aqs,Bc5)))
def K4(L:Nat)(p79_0:List Bv)(p79_1:Aa)(p79_2:List Yb)(p79_3:List Bool):Nat->Int->Int->Option C3
 |0,_,_=>none
 |n+1,Aqs,Bc5=>Yq L p79_0 p79_1 p79_2 p79_3 (K4 L p79_0 p79_1 p79_2 p79_3 n) Aqs Bc5
theorem B3u(p79_0:List Bv)(p79_1:Aa)(p79_2:List Yb)(p79_3:List Bool):LP (EV (F1 L) (L+24) 6 B7p.w.l.u.l.l) [0,1,2,6,14,15,16] [1,3,4,5] (B5v p79_0 p79_1 p79_2 p79_3) [.ret,.exit 0] (λn v=>K4 L p79_0 p79_1 p79_2 p79_3 n v.1 v.2) K:=lE (λ_=>rfl) λn v ih=>eE (Yq L p79_0 p79_1 p79_2 p79_3 (λAqs Bc5=>re (ih (Aqs,Bc5))) v.1 v.2)
def Bsk(p79_0:List Bv)(p79_1:Aa)(p79_2:List Yb)(p79_3:List Bool)(k:Dj):Int->Prop:=λo=>k (I o) [(1,(Ae p79_1)),Qu,Qt,(5,[.aQ false false (.t9 p79_2) (.t4 p79_3)])]
def Ak7 [An A Int](L:Nat)(o64:Nat×Js):A:=
 (sl o64.1 [(lf o64.2.1),
 (lf 0)])
def Alb [An A Int](L:Nat)(p79_0:List Bv)(p79_1:Aa)(p79_2:List Yb)(p79_3:List Bool)(nx113:A):A:=
 (cn (decide ((p79_0.length:Int)>32))
 (lf 6)
 nx113)
def Ay6 [An A Int](p79_0:List Bv)(p79_1:Aa)(p79_2:List Yb)(p79_3:List Bool):A:=Alb L p79_0 p79_1 p79_2 p79_3 (bd (K4 L p79_0 p79_1 p79_2 p79_3 (L+24) 0 0) λo64=>Ak7 L o64)
def Ado(p79_0:List Bv)(p79_1:Aa)(p79_2:List Yb)(p79_3:List Bool):Option Int:=Ay6 L p79_0 p79_1 p79_2 p79_3
theorem Bve(p79_0:List Bv)(p79_1:Aa)(p79_2:List Yb)(p79_3:List Bool):YO (F1 L) (L+24) 7 114 [lv (.eT p79_0),I 32,.bK 115 0 A25] [(1,(Ae p79_1)),Qu,Qt,(5,[.aQ false false (.t9 p79_2) (.t4 p79_3)])] k=ob (Ado L p79_0 p79_1 p79_2 p79_3) (Bsk p79_0 p79_1 p79_2 p79_3 k):=(C4 _ _ _ jn4 _ _ _ _ _ _ _).trans (eE (Alb L p79_0 p79_1 p79_2 p79_3 (hq (B3u L (KA (F1 L) (L+24) 6 B7p (rl [4,1,2,1]) (KJ Tryz.f114 k)) p79_0 p79_1 p79_2 p79_3 (L+24) (0,0)) λo64=>Ak7 L o64)))
def Baj(p1_0:Aa)(k:Dj):Df->Prop:=λo=>k (I o.1) [(1,(Ae p1_0)),Qu,Qt,(5,[.aQ false false (.t9 o.2.1) (.t4 o.2.2)])]
def Abl [An A Df](o62:Df)(p1_0:Aa)(o65:Int):A:=
 (cn (o65 != 0)
 (lf (o65,o62.2.1,o62.2.2))
 (gq ((0:Int)<=11)
 (gq (11<((12:Nat):Int))
 (bd (Ahs L p1_0) λr66=>
 (cn (r66 != 0)
 (lf (r66,o62.2.1,o62.2.2))
 (lf (0,o62.2.1,o62.2.2)))))))
def Aci [An A Df](L:Nat)(p1_0:Aa)(o62:Df)(nx114:Df->A):A:=
 (cn (o62.1 != 0)
 (lf (o62.1,o62.2.1,o62.2.2))
 (gq ((0:Int)<=10)
 (gq (10<((12:Nat):Int))
 (nx114 o62))))
def Ak6 [An A Df](p1_0:Aa)(o62:Df):A:=Aci L p1_0 o62 (λo62=>bd (Ado L p1_0.bZ p1_0 o62.2.1 o62.2.2) λo65=>Abl L o62 p1_0 o65)
def Ach [An A Df](L:Nat)(p1_0:Aa)(o53:Df)(nx111:Df->A):A:=
 (cn (o53.1 != 0)
 (lf (o53.1,o53.2.1,o53.2.2))
 (gq ((0:Int)<=9)
 (gq (9<((12:Nat):Int))
 (nx111 o53))))
def Abj [An A Df](p1_0:Aa)(o53:Df):A:=Ach L p1_0 o53 (λo53=>bd (Adm L p1_0.aD p1_0 o53.2.1 o53.2.2) λo62=>Ak6 L p1_0 o62)
def Bep(p1_0:Aa)(o52:Df):Dj:=(Mx (F1 L) (L+24) 6 1 4 c88.u.l ⟨[(6,Bda),(5,.mp 5),(4,lv (.t9 p1_0.bD)),(0,lv (.t9 p1_0.bD)),Aye,(3,I 0)],[(1,(Ae p1_0)),Qu,Qt,(5,[.aQ false false (.t9 o52.2.1) (.t4 o52.2.2)])],1006⟩ (some 7) (kN (KA (F1 L) (L+24) 6 c88 (rl [2,1]) (KJ Tryz.f88 (Mx (F1 L) (L+24) 7 1 4 B7l.u.l ⟨[(5,lv (.t9 p1_0.bD)),(4,.loc 1 9),(3,.bK 88 0 Agj),(0,.loc 4 0),zq7,(2,I 0)],[(1,(Ae p1_0)),Qu,Qt,(5,[.aQ false false (.t9 o52.2.1) (.t4 o52.2.2)])],1006⟩ (some 6) (kN (KA (F1 L) (L+24) 7 B7l (rl [2,1]) (KJ Tryz.f108 (Mx (F1 L) (L+24) 8 1 2 c90.u.l.u.l.l.w.l.l.u.l ⟨[(12,.bK 108 0 zq9),(2,I 0),(4,.bK 108 0 zq9),(6,.sl false 170 1 zq1),(7,I 12),(8,I 8),A69,(10,.ref [.bK 108 0 zq9]),(11,.bK 108 0 zq9)],[(1,(Ae p1_0)),Qu,Qt,(5,[.aQ false false (.t9 o52.2.1) (.t4 o52.2.2)])],1006⟩ (some 13) (kN (Rn (EV (F1 L) (L+24) 8 c90.u.l.u.l.l.w.l.l.u.r) (Gn 1 (Rn (EV (F1 L) (L+24) 8 c90.u.l.u.l.l.w.r) (Hm (I2 (EV (F1 L) (L+24) 8 c90.u.l.u.l.l) [0,2,6,7,8] [1,3,4,5] (L+15)) [0,2,6,7,8] [1,3,4,5] (Bhw L k)))))))))))))))
theorem Bw2(p1_0:Aa)(o52:Df)(o53:Df):Bak p1_0.bD p1_0 o52.2.1 o52.2.2 (Bep L k p1_0 o52) o53=ob (Abj L p1_0 o53) (Baj p1_0 k):=eE (Ach L p1_0 o53 (λo53=>hq (Bvb L (Mx (F1 L) (L+24) 7 1 4 B7m.u.l ⟨[(5,.bK 111 0 Agj),(4,lv (.t93 p1_0.aD)),(3,.loc 1 10),(0,.loc 1 0),Aye,(2,I 0)],[(1,(Ae p1_0)),Qu,Qt,(5,[.aQ false false (.t9 o53.2.1) (.t4 o53.2.2)])],1006⟩ (some 6) (kN (KA (F1 L) (L+24) 7 B7m (rl [2,1]) (KJ Tryz.f109 (Mx (F1 L) (L+24) 8 1 2 c90.u.l.u.l.l.w.l.l.u.l ⟨[(12,.bK 109 0 Ahh),(2,I 0),(4,.bK 109 0 Ahh),(6,.sl false 170 1 zq1),(7,I 12),(8,I 9),A69,(10,.ref [.bK 109 0 Ahh]),(11,.bK 109 0 Ahh)],[(1,(Ae p1_0)),Qu,Qt,(5,[.aQ false false (.t9 o53.2.1) (.t4 o53.2.2)])],1006⟩ (some 13) (kN (Rn (EV (F1 L) (L+24) 8 c90.u.l.u.l.l.w.l.l.u.r) (Gn 1 (Rn (EV (F1 L) (L+24) 8 c90.u.l.u.l.l.w.r) (Hm (I2 (EV (F1 L) (L+24) 8 c90.u.l.u.l.l) [0,2,6,7,8] [1,3,4,5] (L+14)) [0,2,6,7,8] [1,3,4,5] (Gn 0 (Rn (EV (F1 L) (L+24) 8 c90.u.r) (KJ Tryz.f90 k))))))))))))) p1_0.aD p1_0 o53.2.1 o53.2.2) λo62=>Aci L p1_0 o62 (λo62=>hq (Bve L (Mx (F1 L) (L+24) 7 1 4 B7o.u.l ⟨[(4,.bK 115 0 A25),(3,lv (.eT p1_0.bZ)),(2,.loc 1 11),(0,.loc 1 0),(1,I 0)],[(1,(Ae p1_0)),Qu,Qt,(5,[.aQ false false (.t9 o62.2.1) (.t4 o62.2.2)])],1006⟩ (some 5) (kN (KA (F1 L) (L+24) 7 B7o (rl [2,1]) (KJ Tryz.f113 (Mx (F1 L) (L+24) 8 1 2 c90.u.l.u.l.l.w.l.l.u.l ⟨[(12,.bK 113 0 A25),(2,I 0),(4,.bK 113 0 A25),(6,.sl false 170 1 zq1),(7,I 12),(8,I 10),A69,(10,.ref [.bK 113 0 A25]),(11,.bK 113 0 A25)],[(1,(Ae p1_0)),Qu,Qt,(5,[.aQ false false (.t9 o62.2.1) (.t4 o62.2.2)])],1006⟩ (some 13) (kN (Rn (EV (F1 L) (L+24) 8 c90.u.l.u.l.l.w.l.l.u.r) (Gn 1 (Rn (EV (F1 L) (L+24) 8 c90.u.l.u.l.l.w.r) (Hm (I2 (EV (F1 L) (L+24) 8 c90.u.l.u.l.l) [0,2,6,7,8] [1,3,4,5] (L+13)) [0,2,6,7,8] [1,3,4,5] (Gn 0 (Rn (EV (F1 L) (L+24) 8 c90.u.r) (KJ Tryz.f90 k))))))))))))) p1_0.bZ p1_0 o62.2.1 o62.2.2) λo65=>Abl L o62 p1_0 o65)))
def Acg [An A Df](L:Nat)(p1_0:Aa)(o52:Df)(nx102:Df->A):A:=
 (cn (o52.1 != 0)
 (lf (o52.1,o52.2.1,o52.2.2))
 (gq ((0:Int)<=8)
 (gq (8<((12:Nat):Int))
 (nx102 o52))))
def Ak4 [An A Df](p1_0:Aa)(o52:Df):A:=Acg L p1_0 o52 (λo52=>bd (Ja L p1_0.bD p1_0 o52.2.1 o52.2.2) λo53=>Abj L p1_0 o53)
def Acf [An A Df](L:Nat)(p1_0:Aa)(o51:Df)(nx101:Df->A):A:=
 (cn (o51.1 != 0)
 (lf (o51.1,o51.2.1,o51.2.2))
 (gq ((0:Int)<=7)
 (gq (7<((12:Nat):Int))
 (nx101 o51))))
def Ak3 [An A Df](p1_0:Aa)(o51:Df):A:=Acf L p1_0 o51 (λo51=>bd (Ja L p1_0.bP p1_0 o51.2.1 o51.2.2) λo52=>Ak4 L p1_0 o52)
def Ace [An A Df](L:Nat)(p1_0:Aa)(o50:Df)(nx100:Df->A):A:=
 (cn (o50.1 != 0)
 (lf (o50.1,o50.2.1,o50.2.2))
 (gq ((0:Int)<=6)
 (gq (6<((12:Nat):Int))
 (nx100 o50))))
def Ad4 [An A Df](p1_0:Aa)(o50:Df):A:=Ace L p1_0 o50 (λo50=>bd (Ja L p1_0.bH p1_0 o50.2.1 o50.2.2) λo51=>Ak3 L p1_0 o51)
def Bkc(p1_0:Aa)(o49:Df):Dj:=(Mx (F1 L) (L+24) 6 1 4 c88.u.l ⟨[(6,Bda),(5,.mp 5),(4,lv (.t9 p1_0.aZ)),(0,lv (.t9 p1_0.aZ)),Aye,(3,I 0)],[(1,(Ae p1_0)),Qu,Qt,(5,[.aQ false false (.t9 o49.2.1) (.t4 o49.2.2)])],1006⟩ (some 7) (kN (KA (F1 L) (L+24) 6 c88 (rl [2,1]) (KJ Tryz.f88 (Mx (F1 L) (L+24) 7 1 4 B7i.u.l ⟨[(5,lv (.t9 p1_0.aZ)),(4,.loc 1 6),(3,.bK 88 0 Agj),(0,.loc 4 0),zq7,(2,I 0)],[(1,(Ae p1_0)),Qu,Qt,(5,[.aQ false false (.t9 o49.2.1) (.t4 o49.2.2)])],1006⟩ (some 6) (kN (KA (F1 L) (L+24) 7 B7i (rl [2,1]) (KJ Tryz.f105 (Mx (F1 L) (L+24) 8 1 2 c90.u.l.u.l.l.w.l.l.u.l ⟨[(12,.bK 105 0 zq9),(2,I 0),(4,.bK 105 0 zq9),(6,.sl false 170 1 zq1),(7,I 12),(8,I 5),A69,(10,.ref [.bK 105 0 zq9]),(11,.bK 105 0 zq9)],[(1,(Ae p1_0)),Qu,Qt,(5,[.aQ false false (.t9 o49.2.1) (.t4 o49.2.2)])],1006⟩ (some 13) (kN (Rn (EV (F1 L) (L+24) 8 c90.u.l.u.l.l.w.l.l.u.r) (Gn 1 (Rn (EV (F1 L) (L+24) 8 c90.u.l.u.l.l.w.r) (Hm (I2 (EV (F1 L) (L+24) 8 c90.u.l.u.l.l) [0,2,6,7,8] [1,3,4,5] (L+18)) [0,2,6,7,8] [1,3,4,5] (Bhw L k)))))))))))))))
theorem B4e(p1_0:Aa)(o49:Df)(o50:Df):Bak p1_0.aZ p1_0 o49.2.1 o49.2.2 (Bkc L k p1_0 o49) o50=ob (Ad4 L p1_0 o50) (Baj p1_0 k):=eE (Ace L p1_0 o50 (λo50=>hq (Awy L (Mx (F1 L) (L+24) 6 1 4 c88.u.l ⟨[(6,Bda),(5,.mp 5),(4,lv (.t9 p1_0.bH)),(0,lv (.t9 p1_0.bH)),Aye,(3,I 0)],[(1,(Ae p1_0)),Qu,Qt,(5,[.aQ false false (.t9 o50.2.1) (.t4 o50.2.2)])],1006⟩ (some 7) (kN (KA (F1 L) (L+24) 6 c88 (rl [2,1]) (KJ Tryz.f88 (Mx (F1 L) (L+24) 7 1 4 B7j.u.l ⟨[(5,lv (.t9 p1_0.bH)),(4,.loc 1 7),(3,.bK 88 0 Agj),(0,.loc 4 0),zq7,(2,I 0)],[(1,(Ae p1_0)),Qu,Qt,(5,[.aQ false false (.t9 o50.2.1) (.t4 o50.2.2)])],1006⟩ (some 6) (kN (KA (F1 L) (L+24) 7 B7j (rl [2,1]) (KJ Tryz.f106 (Mx (F1 L) (L+24) 8 1 2 c90.u.l.u.l.l.w.l.l.u.l ⟨[(12,.bK 106 0 zq9),(2,I 0),(4,.bK 106 0 zq9),(6,.sl false 170 1 zq1),(7,I 12),(8,I 6),A69,(10,.ref [.bK 106 0 zq9]),(11,.bK 106 0 zq9)],[(1,(Ae p1_0)),Qu,Qt,(5,[.aQ false false (.t9 o50.2.1) (.t4 o50.2.2)])],1006⟩ (some 13) (kN (Rn (EV (F1 L) (L+24) 8 c90.u.l.u.l.l.w.l.l.u.r) (Gn 1 (Rn (EV (F1 L) (L+24) 8 c90.u.l.u.l.l.w.r) (Hm (I2 (EV (F1 L) (L+24) 8 c90.u.l.u.l.l) [0,2,6,7,8] [1,3,4,5] (L+17)) [0,2,6,7,8] [1,3,4,5] (Gn 0 (Rn (EV (F1 L) (L+24) 8 c90.u.r) (KJ Tryz.f90 k))))))))))))))))) p1_0.bH p1_0 o50.2.1 o50.2.2) λo51=>Acf L p1_0 o51 (λo51=>hq (Awy L (Mx (F1 L) (L+24) 6 1 4 c88.u.l ⟨[(6,Bda),(5,.mp 5),(4,lv (.t9 p1_0.bP)),(0,lv (.t9 p1_0.bP)),Aye,(3,I 0)],[(1,(Ae p1_0)),Qu,Qt,(5,[.aQ false false (.t9 o51.2.1) (.t4 o51.2.2)])],1006⟩ (some 7) (kN (KA (F1 L) (L+24) 6 c88 (rl [2,1]) (KJ Tryz.f88 (Mx (F1 L) (L+24) 7 1 4 B7k.u.l ⟨[(5,lv (.t9 p1_0.bP)),(4,.loc 1 8),(3,.bK 88 0 Agj),(0,.loc 4 0),zq7,(2,I 0)],[(1,(Ae p1_0)),Qu,Qt,(5,[.aQ false false (.t9 o51.2.1) (.t4 o51.2.2)])],1006⟩ (some 6) (kN (KA (F1 L) (L+24) 7 B7k (rl [2,1]) (KJ Tryz.f107 (Mx (F1 L) (L+24) 8 1 2 c90.u.l.u.l.l.w.l.l.u.l ⟨[(12,.bK 107 0 zq9),(2,I 0),(4,.bK 107 0 zq9),(6,.sl false 170 1 zq1),(7,I 12),(8,I 7),A69,(10,.ref [.bK 107 0 zq9]),(11,.bK 107 0 zq9)],[(1,(Ae p1_0)),Qu,Qt,(5,[.aQ false false (.t9 o51.2.1) (.t4 o51.2.2)])],1006⟩ (some 13) (kN (Rn (EV (F1 L) (L+24) 8 c90.u.l.u.l.l.w.l.l.u.r) (Gn 1 (Rn (EV (F1 L) (L+24) 8 c90.u.l.u.l.l.w.r) (Hm (I2 (EV (F1 L) (L+24) 8 c90.u.l.u.l.l) [0,2,6,7,8] [1,3,4,5] (L+16)) [0,2,6,7,8] [1,3,4,5] (Gn 0 (Rn (EV (F1 L) (L+24) 8 c90.u.r) (KJ Tryz.f90 k))))))))))))))))) p1_0.bP p1_0 o51.2.1 o51.2.2) λo52=>Acg L p1_0 o52 (λo52=>ho (Awy L (Bep L k p1_0 o52) p1_0.bD p1_0 o52.2.1 o52.2.2) λo53=>Bw2 L k p1_0 o52 o53))))
def Aef [An A Df](L:Nat)(p1_0:Aa)(o49:Df)(nx99:Df->A):A:=
 (cn (o49.1 != 0)
 (lf (o49.1,o49.2.1,o49.2.2))
 (gq ((0:Int)<=5)
 (gq (5<((12:Nat):Int))
 (nx99 o49))))
def Anx [An A Df](p1_0:Aa)(o49:Df):A:=Aef L p1_0 o49 (λo49=>bd (Ja L p1_0.aZ p1_0 o49.2.1 o49.2.2) λo50=>Ad4 L p1_0 o50)
def Aee [An A Df](L:Nat)(p1_0:Aa)(o42:Df)(nx98:Df->A):A:=
 (cn (o42.1 != 0)
 (lf (o42.1,o42.2.1,o42.2.2))
 (gq ((0:Int)<=4)
 (gq (4<((12:Nat):Int))
 (nx98 o42))))
def Anv [An A Df](p1_0:Aa)(o42:Df):A:=Aee L p1_0 o42 (λo42=>bd (Ja L p1_0.bJ p1_0 o42.2.1 o42.2.2) λo49=>Anx L p1_0 o49)
def Aed [An A Df](L:Nat)(p1_0:Aa)(o31:Df)(nx93:Df->A):A:=
 (cn (o31.1 != 0)
 (lf (o31.1,o31.2.1,o31.2.2))
 (gq ((0:Int)<=3)
 (gq (3<((12:Nat):Int))
 (nx93 o31))))
def Ad2 [An A Df](p1_0:Aa)(o31:Df):A:=Aed L p1_0 o31 (λo31=>bd (Adk L p1_0.bL p1_0 o31.2.1 o31.2.2) λo42=>Anv L p1_0 o42)
def Bkb(p1_0:Aa)(o21:Df):Dj:=(Mx (F1 L) (L+24) 7 1 4 c98.u.l ⟨[(5,.bK 100 0 Agj),(4,lv (.t89 p1_0.aM)),(3,.loc 1 3),(0,.loc 1 0),Aye,(2,I 0)],[(1,(Ae p1_0)),Qu,Qt,(5,[.aQ false false (.t9 o21.2.1) (.t4 o21.2.2)])],1006⟩ (some 6) (kN (KA (F1 L) (L+24) 7 c98 (rl [2,1]) (KJ Tryz.f98 (Mx (F1 L) (L+24) 8 1 2 c90.u.l.u.l.l.w.l.l.u.l ⟨[(12,.bK 98 0 Ahh),(2,I 0),(4,.bK 98 0 Ahh),(6,.sl false 170 1 zq1),(7,I 12),(8,I 2),A69,(10,.ref [.bK 98 0 Ahh]),(11,.bK 98 0 Ahh)],[(1,(Ae p1_0)),Qu,Qt,(5,[.aQ false false (.t9 o21.2.1) (.t4 o21.2.2)])],1006⟩ (some 13) (kN (Rn (EV (F1 L) (L+24) 8 c90.u.l.u.l.l.w.l.l.u.r) (Gn 1 (Rn (EV (F1 L) (L+24) 8 c90.u.l.u.l.l.w.r) (Hm (I2 (EV (F1 L) (L+24) 8 c90.u.l.u.l.l) [0,2,6,7,8] [1,3,4,5] (L+21)) [0,2,6,7,8] [1,3,4,5] (Bhw L k)))))))))))
theorem B4d(p1_0:Aa)(o21:Df)(o31:Df):Bjd p1_0.aM p1_0 o21.2.1 o21.2.2 (Bkb L k p1_0 o21) o31=ob (Ad2 L p1_0 o31) (Baj p1_0 k):=eE (Aed L p1_0 o31 (λo31=>hq (Bu7 L (Mx (F1 L) (L+24) 7 1 4 B7f.u.l ⟨[(5,.bK 103 0 Agj),(4,lv (.eH p1_0.bL)),(3,.loc 1 4),(0,.loc 1 0),Aye,(2,I 0)],[(1,(Ae p1_0)),Qu,Qt,(5,[.aQ false false (.t9 o31.2.1) (.t4 o31.2.2)])],1006⟩ (some 6) (kN (KA (F1 L) (L+24) 7 B7f (rl [2,1]) (KJ Tryz.f101 (Mx (F1 L) (L+24) 8 1 2 c90.u.l.u.l.l.w.l.l.u.l ⟨[(12,.bK 101 0 Ahh),(2,I 0),(4,.bK 101 0 Ahh),(6,.sl false 170 1 zq1),(7,I 12),(8,I 3),A69,(10,.ref [.bK 101 0 Ahh]),(11,.bK 101 0 Ahh)],[(1,(Ae p1_0)),Qu,Qt,(5,[.aQ false false (.t9 o31.2.1) (.t4 o31.2.2)])],1006⟩ (some 13) (kN (Rn (EV (F1 L) (L+24) 8 c90.u.l.u.l.l.w.l.l.u.r) (Gn 1 (Rn (EV (F1 L) (L+24) 8 c90.u.l.u.l.l.w.r) (Hm (I2 (EV (F1 L) (L+24) 8 c90.u.l.u.l.l) [0,2,6,7,8] [1,3,4,5] (L+20)) [0,2,6,7,8] [1,3,4,5] (Gn 0 (Rn (EV (F1 L) (L+24) 8 c90.u.r) (KJ Tryz.f90 k))))))))))))) p1_0.bL p1_0 o31.2.1 o31.2.2) λo42=>Aee L p1_0 o42 (λo42=>hq (Awy L (Mx (F1 L) (L+24) 6 1 4 c88.u.l ⟨[(6,Bda),(5,.mp 5),(4,lv (.t9 p1_0.bJ)),(0,lv (.t9 p1_0.bJ)),Aye,(3,I 0)],[(1,(Ae p1_0)),Qu,Qt,(5,[.aQ false false (.t9 o42.2.1) (.t4 o42.2.2)])],1006⟩ (some 7) (kN (KA (F1 L) (L+24) 6 c88 (rl [2,1]) (KJ Tryz.f88 (Mx (F1 L) (L+24) 7 1 4 B7h.u.l ⟨[(5,lv (.t9 p1_0.bJ)),(4,.loc 1 5),(3,.bK 88 0 Agj),(0,.loc 4 0),zq7,(2,I 0)],[(1,(Ae p1_0)),Qu,Qt,(5,[.aQ false false (.t9 o42.2.1) (.t4 o42.2.2)])],1006⟩ (some 6) (kN (KA (F1 L) (L+24) 7 B7h (rl [2,1]) (KJ Tryz.f104 (Mx (F1 L) (L+24) 8 1 2 c90.u.l.u.l.l.w.l.l.u.l ⟨[(12,.bK 104 0 zq9),(2,I 0),(4,.bK 104 0 zq9),(6,.sl false 170 1 zq1),(7,I 12),(8,I 4),A69,(10,.ref [.bK 104 0 zq9]),(11,.bK 104 0 zq9)],[(1,(Ae p1_0)),Qu,Qt,(5,[.aQ false false (.t9 o42.2.1) (.t4 o42.2.2)])],1006⟩ (some 13) (kN (Rn (EV (F1 L) (L+24) 8 c90.u.l.u.l.l.w.l.l.u.r) (Gn 1 (Rn (EV (F1 L) (L+24) 8 c90.u.l.u.l.l.w.r) (Hm (I2 (EV (F1 L) (L+24) 8 c90.u.l.u.l.l) [0,2,6,7,8] [1,3,4,5] (L+19)) [0,2,6,7,8] [1,3,4,5] (Gn 0 (Rn (EV (F1 L) (L+24) 8 c90.u.r) (KJ Tryz.f90 k))))))))))))))))) p1_0.bJ p1_0 o42.2.1 o42.2.2) λo49=>Aef L p1_0 o49 (λo49=>ho (Awy L (Bkc L k p1_0 o49) p1_0.aZ p1_0 o49.2.1 o49.2.2) λo50=>B4e L k p1_0 o49 o50))))
def Aec [An A Df](L:Nat)(p1_0:Aa)(o21:Df)(nx84:Df->A):A:=
 (cn (o21.1 != 0)
 (lf (o21.1,o21.2.1,o21.2.2))
 (gq ((0:Int)<=2)
 (gq (2<((12:Nat):Int))
 (nx84 o21))))
def Ans [An A Df](p1_0:Aa)(o21:Df):A:=Aec L p1_0 o21 (λo21=>bd (Adi L p1_0.aM p1_0 o21.2.1 o21.2.2) λo31=>Ad2 L p1_0 o31)
def Aeb [An A Df](L:Nat)(p1_0:Aa)(o10:Df)(nx75:Df->A):A:=
 (cn (o10.1 != 0)
 (lf (o10.1,o10.2.1,o10.2.2))
 (gq ((0:Int)<=1)
 (gq (1<((12:Nat):Int))
 (nx75 o10))))
def Anq [An A Df](p1_0:Aa)(o10:Df):A:=Aeb L p1_0 o10 (λo10=>bd (Adg L p1_0.aG p1_0 o10.2.1 o10.2.2) λo21=>Ans L p1_0 o21)
def Aea [An A Df](L:Nat)(p1_0:Aa)(nx66:A):A:=
 (gq ((0:Int)<=0)
 (gq (0<((12:Nat):Int))
 nx66))
def Aqa [An A Df](p1_0:Aa):A:=Aea L p1_0 (bd (Ade L p1_0.bX p1_0) λo10=>Anq L p1_0 o10)
def Yh(p1_0:Aa):Option Df:=Aqa L p1_0
theorem B18(p1_0:Aa):YO (F1 L) (L+24) 9 90 [.sl false 170 1 zq1] [(1,(Ae p1_0)),Qu,Qt,(5,zq8)] k=ob (Yh L p1_0) (Baj p1_0 k):=(C4 _ _ _ jn4 _ _ _ _ _ _ _).trans (eE (Aea L p1_0 (hq (Buy L (Mx (F1 L) (L+24) 6 1 4 c56.u.l ⟨[(7,Bq4),(6,.mp 5),(5,lv (.dO p1_0.bX)),(0,.mp 5),(1,lv (.dO p1_0.bX)),(4,I 0)],[(1,(Ae p1_0)),Qu,Qt,(5,zq8)],1006⟩ (some 8) (kN (KA (F1 L) (L+24) 6 c56 (rl [2,1]) (KJ Tryz.f56 (Mx (F1 L) (L+24) 7 1 4 c91.u.l ⟨[(5,lv (.dO p1_0.bX)),(4,.loc 1 1),(3,.mp 5),(0,.loc 3 0),zq7,(2,I 0)],[(1,(Ae p1_0)),Qu,Qt,(5,zq8)],1006⟩ (some 6) (kN (KA (F1 L) (L+24) 7 c91 (rl [2,1]) (KJ Tryz.f91 (Mx (F1 L) (L+24) 8 1 2 c90.u.l.u.l.l.w.l.l.u.l ⟨[(12,.bK 91 0 Avx),(2,I 0),(4,.bK 91 0 Avx),(6,.sl false 170 1 zq1),(7,I 12),(8,I 0),A69,(10,.ref [.bK 91 0 Avx]),(11,.bK 91 0 Avx)],[(1,(Ae p1_0)),Qu,Qt,(5,zq8)],1006⟩ (some 13) (kN (Rn (EV (F1 L) (L+24) 8 c90.u.l.u.l.l.w.l.l.u.r) (Gn 1 (Rn (EV (F1 L) (L+24) 8 c90.u.l.u.l.l.w.r) (Hm (I2 (EV (F1 L) (L+24) 8 c90.u.l.u.l.l) [0,2,6,7,8] [1,3,4,5] (L+23)) [0,2,6,7,8] [1,3,4,5] (Gn 0 (Rn (EV (F1 L) (L+24) 8 c90.u.r) (KJ Tryz.f90 k))))))))))))))))) p1_0.bX p1_0) λo10=>Aeb L p1_0 o10 (λo10=>hq (Bu1 L (Mx (F1 L) (L+24) 7 1 4 c92.u.l ⟨[(5,.bK 94 0 Avx),(4,lv (.t86 p1_0.aG)),(3,.loc 1 2),(0,.loc 1 0),Aye,(2,I 0)],[(1,(Ae p1_0)),Qu,Qt,(5,[.aQ false false (.t9 o10.2.1) (.t4 o10.2.2)])],1006⟩ (some 6) (kN (KA (F1 L) (L+24) 7 c92 (rl [2,1]) (KJ Tryz.f92 (Mx (F1 L) (L+24) 8 1 2 c90.u.l.u.l.l.w.l.l.u.l ⟨[(12,.bK 92 0 Ahh),(2,I 0),(4,.bK 92 0 Ahh),(6,.sl false 170 1 zq1),(7,I 12),(8,I 1),A69,(10,.ref [.bK 92 0 Ahh]),(11,.bK 92 0 Ahh)],[(1,(Ae p1_0)),Qu,Qt,(5,[.aQ false false (.t9 o10.2.1) (.t4 o10.2.2)])],1006⟩ (some 13) (kN (Rn (EV (F1 L) (L+24) 8 c90.u.l.u.l.l.w.l.l.u.r) (Gn 1 (Rn (EV (F1 L) (L+24) 8 c90.u.l.u.l.l.w.r) (Hm (I2 (EV (F1 L) (L+24) 8 c90.u.l.u.l.l) [0,2,6,7,8] [1,3,4,5] (L+22)) [0,2,6,7,8] [1,3,4,5] (Gn 0 (Rn (EV (F1 L) (L+24) 8 c90.u.r) (KJ Tryz.f90 k))))))))))))) p1_0.aG p1_0 o10.2.1 o10.2.2) λo21=>Aec L p1_0 o21 (λo21=>ho (Bu4 L (Bkb L k p1_0 o21) p1_0.aM p1_0 o21.2.1 o21.2.2) λo31=>B4d L k p1_0 o21 o31)))))
def U0 [An A Int](L:Nat)(o67:Df):A:=
 (lf o67.1)
def Awa [An A Int](a0:Aa):A:=(bd (Yh L a0) λo67=>U0 L o67)
def Aht(a0:Aa):Option Int:=Awa L a0
def X60:F6:=E1 I 60 C7 (Aht L) λa0 r h=>hF Tryz.func60 (C:=F1 L) (oS _) (L+24) (λkk=>eE ((hq (B18 L (Mx (F1 L) (L+24) 9 1 14 c60.w.u.l ⟨[(19,.sl true 170 1 zq1),(18,.bK 117 0 A25),(17,.bK 113 0 A25),(16,.bK 109 0 Ahh),(15,.bK 108 0 zq9),(14,.bK 107 0 zq9),(13,.bK 106 0 zq9),(12,.bK 105 0 zq9),(11,.bK 104 0 zq9),(10,.bK 101 0 Ahh),(9,.bK 98 0 Ahh),(8,.bK 92 0 Ahh),(7,.bK 91 0 Avx),zq7,(2,I 0),T4,Bgt],[(1,(Ae a0)),Qu,Qt,(5,zq8)],0⟩ (some 20) (kN (KA (F1 L) (L+24) 9 c60 (rl [6,1]) (KE Tryz.f60 kk)))) a0) λo67=>U0 L o67))) h
end
end Go.Proofs.YthjhkpgonleelaaGreatDoor.Ev
