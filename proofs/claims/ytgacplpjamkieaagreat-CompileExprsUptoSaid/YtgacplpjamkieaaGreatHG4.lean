import Derived.Test.YtgacplpjamkieaaGreatHG1
import Derived.Test.YtgacplpjamkieaaGreatHG2
import Derived.Test.YtgacplpjamkieaaGreatHG3
set_option maxRecDepth 100000
set_option maxHeartbeats 4000000
set_option linter.unusedVariables false
set_option linter.unusedSimpArgs false
set_option linter.unnecessarySimpa false
namespace Go.Proofs.YtgacplpjamkieaaGreat.Ev
open Go An
noncomputable section
variable {A:Type} (L n:Nat) (kk:Hf) (K:De) (k:C3)
def c76:=CC Tryz.f76
def As4:=CC Tryz.f125
def A91:=CC Tryz.f126
def As5:=CC Tryz.f127
def A5w:=CC Tryz.f128
def Hp:=CC Tryz.f129
def Bmr:=CC Tryz.f130
def Bms:=CC Tryz.f131
def A5x:=CC Tryz.f132
def Bmt:=CC Tryz.f133
def Bmv:=CC Tryz.f137
def A5y:=CC Tryz.f138
def Bmw:=CC Tryz.f139
def Bmx:=CC Tryz.f140
def A5z:=CC Tryz.f141
def Bmy:=CC Tryz.f142
def Bmz:=CC Tryz.f143
def Bm0:=CC Tryz.f144
def Bm1:=CC Tryz.f145
def Bm2:=CC Tryz.f146
def Bm3:=CC Tryz.f147
def Bm4:=CC Tryz.f148
def A50:=CC Tryz.f149
def Bm5:=CC Tryz.f150
def Bm6:=CC Tryz.f152
def Bm7:=CC Tryz.f153
def c80:=CC Tryz.f80
def Dx:Ba:=oL [X75 L,A3v L,Bql L,Bqm L,Bqn L,Bqo L,Bqp L,Bgp L,Bgq L]
def A01:De:=(C6 0 (I8 (EV (Dx L) (L+24) 8 Hp.u.r) (KJ Tryz.f129 k)))
def A86(p47_0:Yb)(p47_1:Ab)(p47_2:List Yb)(p47_3:List Bool)(p47_4:Ag)(p47_5:Ag)(k:C3):Ck->Prop:=λo=>k (I o.1) [(1,(Af p47_1)),Kk,Kj,(5,[.aL false false (.t9 o.2.1) (.t4 o.2.2)]),(1014,(Bz p47_4)),(2018,(Bz p47_5))]
def u5 [An A Ck](p47_0:Yb)(p47_1:Ab)(p47_2:List Yb)(p47_3:List Bool)(p47_4:Ag)(p47_5:Ag):A:=
 (bd (Cq L p47_0) λr1=>
 (cn (r1 != 0)
 (lf (r1,p47_2,p47_3))
 (fq (p47_2.findIdx? λb=>p47_0 == b) (λi2=>
 (cn (p47_3.getD i2 default)
 (lf (4,p47_2,p47_3))
 (fq (p47_2.findIdx? λb=>p47_0 == b) (λi3=>
 (lf (0,p47_2,(p47_3.set i3 true))))
 (lf (0,(p47_2++ [p47_0]),(p47_3++ [true]))))))
 (fq (p47_2.findIdx? λb=>p47_0 == b) (λi4=>
 (lf (0,p47_2,(p47_3.set i4 true))))
 (lf (0,(p47_2++ [p47_0]),(p47_3++ [true])))))))
def y9(p47_0:Yb)(p47_1:Ab)(p47_2:List Yb)(p47_3:List Bool)(p47_4:Ag)(p47_5:Ag):Option Ck:=u5 L p47_0 p47_1 p47_2 p47_3 p47_4 p47_5
theorem Bbm(p47_0:Yb)(p47_1:Ab)(p47_2:List Yb)(p47_3:List Bool)(p47_4:Ag)(p47_5:Ag):YO (Dx L) (L+24) 4 79 [.mp 5,S p47_0] [(1,(Af p47_1)),Kk,Kj,(5,[.aL false false (.t9 p47_2) (.t4 p47_3)]),(1014,(Bz p47_4)),(2018,(Bz p47_5))] k=ob (y9 L p47_0 p47_1 p47_2 p47_3 p47_4 p47_5) (A86 p47_0 p47_1 p47_2 p47_3 p47_4 p47_5 k):=(Cf _ _ _ Yr _ _ _ _ _ _ _).trans (eE (u5 L p47_0 p47_1 p47_2 p47_3 p47_4 p47_5))
def A85(p45_0:Ag)(p45_1:Ab)(p45_2:List Yb)(p45_3:List Bool)(p45_4:Ag)(k:C3):Ck->Prop:=λo=>k (I o.1) [(1,(Af p45_1)),Kk,Kj,(5,[.aL false false (.t9 o.2.1) (.t4 o.2.2)]),(1014,(Bz p45_4)),(2018,(Bz p45_0))]
def Aa5 [An A Ck](p45_0:Ag)(o5:Ck):A:=
 (cn (o5.1 != 0)
 (lf (o5.1,o5.2.1,o5.2.2))
 (bd (T9 L p45_0.bL) λr6=>
 (cn (!r6)
 (lf (1,o5.2.1,o5.2.2))
 (bd (Wm L p45_0.bL p45_0.N) λr7=>
 (cn (!r7)
 (lf (2,o5.2.1,o5.2.2))
 (lf (0,o5.2.1,o5.2.2)))))))
def Alx [An A Ck](p45_0:Ag)(p45_1:Ab)(p45_2:List Yb)(p45_3:List Bool)(p45_4:Ag):A:=(bd (y9 L p45_0.aD p45_1 p45_2 p45_3 p45_4 p45_0) λo5=>Aa5 L p45_0 o5)
def y8(p45_0:Ag)(p45_1:Ab)(p45_2:List Yb)(p45_3:List Bool)(p45_4:Ag):Option Ck:=Alx L p45_0 p45_1 p45_2 p45_3 p45_4
theorem Bbl(p45_0:Ag)(p45_1:Ab)(p45_2:List Yb)(p45_3:List Bool)(p45_4:Ag):YO (Dx L) (L+24) 5 126 [.mp 5,.agg (Bz p45_0)] [(1,(Af p45_1)),Kk,Kj,(5,[.aL false false (.t9 p45_2) (.t4 p45_3)]),(1014,(Bz p45_4))] k=ob (y8 L p45_0 p45_1 p45_2 p45_3 p45_4) (A85 p45_0 p45_1 p45_2 p45_3 p45_4 k):=(Cf _ _ _ Yr _ _ _ _ _ _ _).trans (eE ((hq (Bbm L (K1 (Dx L) (L+24) 4 1 4 A91.u.l.l ⟨[(8,S p45_0.aD),(7,.loc 2018 0),(6,.mp 5),(0,.mp 5),(3,.loc 2018 0),(4,I 0)],[(1,(Af p45_1)),Kk,Kj,(5,[.aL false false (.t9 p45_2) (.t4 p45_3)]),(1014,(Bz p45_4)),(2018,(Bz p45_0))],2015⟩ (some 9) (kN (KA (Dx L) (L+24) 4 A91 (rl [2,2]) (KJ Tryz.f126 k)))) p45_0.aD p45_1 p45_2 p45_3 p45_4 p45_0) λo5=>Aa5 L p45_0 o5)))
def Bkn(p41_0:List Ag)(p41_1:Ab)(v:Tu4):St:=⟨[(0,.any),(1,.any),(2,A8o),(6,I v.1),(14,lv (.t83 p41_0)),(15,I (p41_0.length:Int)),(16,I v.2.1)],[(1,(Af p41_1)),Kk,Kj,(5,[.aL false false (.t9 v.2.2.1) (.t4 v.2.2.2)])],1006⟩
def Aa6 [An A K3](L:Nat)(Aj:Int)(A9:Int)(rec:Int->Int->List Yb->List Bool->A)(o8:Ck):A:=
 (cn (o8.1 != 0)
 (lf (0,o8.1,Aj,o8.2.1,o8.2.2))
 (rec A9 (Cp (Aj+1)) o8.2.1 o8.2.2))
def Ab0 [An A K3](L:Nat)(p41_0:List Ag)(p41_1:Ab)(rec:Int->Int->List Yb->List Bool->A)(A9:Int)(Aj:Int)(Dc:List Yb)(Dd:List Bool)(nx64:Int->(List Yb)->(List Bool)->Int->A):A:=
 (lw Aj p41_0
 (nx64 Aj Dc Dd A9)
 (lf (1,A9,Aj,Dc,Dd)))
def Ao3 [An A K3](p41_0:List Ag)(p41_1:Ab)(rec:Int->Int->List Yb->List Bool->A)(A9:Int)(Aj:Int)(Dc:List Yb)(Dd:List Bool):A:=Ab0 L p41_0 p41_1 rec A9 Aj Dc Dd (λAj Dc Dd A9=>bd (y8 L (gD p41_0 Aj) p41_1 Dc Dd (gD p41_0 Aj)) λo8=>Aa6 L Aj A9 rec o8)
def Vn(L:Nat)(p41_0:List Ag)(p41_1:Ab):Nat->Int->Int->List Yb->List Bool->Option K3
 |0,_,_,_,_=>none
 |n+1,A9,Aj,Dc,Dd=>Ao3 L p41_0 p41_1 (Vn L p41_0 p41_1 n) A9 Aj Dc Dd
theorem Bi6(p41_0:List Ag)(p41_1:Ab):LP (EV (Dx L) (L+24) 5 As4.w.l.u.l.l) [0,1,2,6,14,15,16] [1,3,4,5] (Bkn p41_0 p41_1) [.ret,.exit 0] (λn v=>Vn L p41_0 p41_1 n v.1 v.2.1 v.2.2.1 v.2.2.2) K:=lE (λ_=>rfl) λn v ih=>eE (Ab0 L p41_0 p41_1 (λA9 Aj Dc Dd=>re (ih (A9,Aj,Dc,Dd))) v.1 v.2.1 v.2.2.1 v.2.2.2 (λAj Dc Dd A9=>hq (Bbl L (K1 (Dx L) (L+24) 5 1 3 As4.w.l.u.l.l.w.l.l.u.l ⟨[(21,.agg (Bz (gD p41_0 Aj))),(20,A8o),(2,A8o),(6,I A9),A8p,(14,lv (.t83 p41_0)),(15,I (p41_0.length:Int)),(16,I Aj),(17,B (decide (Aj<(p41_0.length:Int)))),(18,.ref (Bz (gD p41_0 Aj))),(19,.agg (Bz (gD p41_0 Aj)))],[(1,(Af p41_1)),Kk,Kj,(5,[.aL false false (.t9 Dc) (.t4 Dd)]),(1014,(Bz (gD p41_0 Aj)))],1006⟩ (some 22) (kN (KA (Dx L) (L+24) 5 As4.w.l.u.l.l (rl [4,2,2,1]) (Ic (Js (EV (Dx L) (L+24) 5 As4.w.l.u.l.l) [0,1,2,6,14,15,16] [1,3,4,5] n) [0,1,2,6,14,15,16] [1,3,4,5] K)))) (gD p41_0 Aj) p41_1 Dc Dd (gD p41_0 Aj)) λo8=>Aa6 L Aj A9 (λA9 Aj Dc Dd=>re (ih (A9,Aj,Dc,Dd))) o8))
def A84(p41_0:List Ag)(p41_1:Ab)(k:C3):Ck->Prop:=λo=>k (I o.1) [(1,(Af p41_1)),Kk,Kj,(5,[.aL false false (.t9 o.2.1) (.t4 o.2.2)])]
def Aa7 [An A Ck](L:Nat)(o9:Nat×Tu4):A:=
 (sl o9.1 [(lf (o9.2.1,o9.2.2.2.1,o9.2.2.2.2)),
 (lf (0,o9.2.2.2.1,o9.2.2.2.2))])
def Ab1 [An A Ck](L:Nat)(p41_0:List Ag)(p41_1:Ab)(nx65:A):A:=
 (cn (decide ((p41_0.length:Int)>32))
 (lf (6,[],[]))
 nx65)
def Alw [An A Ck](p41_0:List Ag)(p41_1:Ab):A:=Ab1 L p41_0 p41_1 (bd (Vn L p41_0 p41_1 (L+24) 0 0 [] []) λo9=>Aa7 L o9)
def y7(p41_0:List Ag)(p41_1:Ab):Option Ck:=Alw L p41_0 p41_1
theorem Bbk(p41_0:List Ag)(p41_1:Ab):YO (Dx L) (L+24) 6 125 [lv (.t83 p41_0),I 32,A8o] [(1,(Af p41_1)),Kk,Kj,(5,zq6)] k=ob (y7 L p41_0 p41_1) (A84 p41_0 p41_1 k):=(Cf _ _ _ Yr _ _ _ _ _ _ _).trans (eE (Ab1 L p41_0 p41_1 (hq (Bi6 L (KA (Dx L) (L+24) 5 As4 (rl [4,1,2,1]) (KJ Tryz.f125 k)) p41_0 p41_1 (L+24) (0,0,[],[])) λo9=>Aa7 L o9)))
def A89(p54_0:Yb)(p54_1:Ab)(p54_2:List Yb)(p54_3:List Bool)(p54_4:Ai)(p54_5:Ai)(k:C3):Ck->Prop:=λo=>k (I o.1) [(1,(Af p54_1)),Kk,Kj,(5,[.aL false false (.t9 o.2.1) (.t4 o.2.2)]),(1014,(Bt p54_4)),(2018,(Bt p54_5))]
def u6 [An A Ck](p54_0:Yb)(p54_1:Ab)(p54_2:List Yb)(p54_3:List Bool)(p54_4:Ai)(p54_5:Ai):A:=
 (bd (Cq L p54_0) λr11=>
 (cn (r11 != 0)
 (lf (r11,p54_2,p54_3))
 (fq (p54_2.findIdx? λb=>p54_0 == b) (λi12=>
 (cn (p54_3.getD i12 default)
 (lf (4,p54_2,p54_3))
 (fq (p54_2.findIdx? λb=>p54_0 == b) (λi13=>
 (lf (0,p54_2,(p54_3.set i13 true))))
 (lf (0,(p54_2++ [p54_0]),(p54_3++ [true]))))))
 (fq (p54_2.findIdx? λb=>p54_0 == b) (λi14=>
 (lf (0,p54_2,(p54_3.set i14 true))))
 (lf (0,(p54_2++ [p54_0]),(p54_3++ [true])))))))
def z8(p54_0:Yb)(p54_1:Ab)(p54_2:List Yb)(p54_3:List Bool)(p54_4:Ai)(p54_5:Ai):Option Ck:=u6 L p54_0 p54_1 p54_2 p54_3 p54_4 p54_5
theorem Bbp(p54_0:Yb)(p54_1:Ab)(p54_2:List Yb)(p54_3:List Bool)(p54_4:Ai)(p54_5:Ai):YO (Dx L) (L+24) 5 79 [.mp 5,S p54_0] [(1,(Af p54_1)),Kk,Kj,(5,[.aL false false (.t9 p54_2) (.t4 p54_3)]),(1014,(Bt p54_4)),(2018,(Bt p54_5))] k=ob (z8 L p54_0 p54_1 p54_2 p54_3 p54_4 p54_5) (A89 p54_0 p54_1 p54_2 p54_3 p54_4 p54_5 k):=(Cf _ _ _ Yr _ _ _ _ _ _ _).trans (eE (u6 L p54_0 p54_1 p54_2 p54_3 p54_4 p54_5))
def A88(p52_0:Ai)(p52_1:Ab)(p52_2:List Yb)(p52_3:List Bool)(p52_4:Ai)(k:C3):Ck->Prop:=λo=>k (I o.1) [(1,(Af p52_1)),Kk,Kj,(5,[.aL false false (.t9 o.2.1) (.t4 o.2.2)]),(1014,(Bt p52_4)),(2018,(Bt p52_0))]
def Aa8 [An A Ck](p52_0:Ai)(p52_1:Ab)(o15:Ck):A:=
 (cn (o15.1 != 0)
 (lf (o15.1,o15.2.1,o15.2.2))
 (bd (Bd L p52_0.Units 0 1000) λr16=>
 (cn (!r16)
 (lf (2,o15.2.1,o15.2.2))
 (bd (l9 L p52_0) λr17=>
 (cn (r17 != 0)
 (lf (r17,o15.2.1,o15.2.2))
 (bd (l8 L p52_1 p52_0.dA) λr18=>
 (lf (r18,o15.2.1,o15.2.2))))))))
def Alz [An A Ck](p52_0:Ai)(p52_1:Ab)(p52_2:List Yb)(p52_3:List Bool)(p52_4:Ai):A:=(bd (z8 L p52_0.aD p52_1 p52_2 p52_3 p52_4 p52_0) λo15=>Aa8 L p52_0 p52_1 o15)
def z7(p52_0:Ai)(p52_1:Ab)(p52_2:List Yb)(p52_3:List Bool)(p52_4:Ai):Option Ck:=Alz L p52_0 p52_1 p52_2 p52_3 p52_4
theorem Bbo(p52_0:Ai)(p52_1:Ab)(p52_2:List Yb)(p52_3:List Bool)(p52_4:Ai):YO (Dx L) (L+24) 6 133 [.agg (Bt p52_0),.loc 3 0,.loc 1 0] [(1,(Af p52_1)),Kk,Kj,(5,[.aL false false (.t9 p52_2) (.t4 p52_3)]),(1014,(Bt p52_4))] k=ob (z7 L p52_0 p52_1 p52_2 p52_3 p52_4) (A88 p52_0 p52_1 p52_2 p52_3 p52_4 k):=(Cf _ _ _ Yr _ _ _ _ _ _ _).trans (eE ((hq (Bbp L (K1 (Dx L) (L+24) 5 1 4 Bmt.u.l.l ⟨[(9,S p52_0.aD),(8,.loc 2018 0),(7,.mp 5),Alc,(2,.loc 1 0),(3,.loc 2018 0),(4,I 0)],[(1,(Af p52_1)),Kk,Kj,(5,[.aL false false (.t9 p52_2) (.t4 p52_3)]),(1014,(Bt p52_4)),(2018,(Bt p52_0))],2015⟩ (some 10) (kN (KA (Dx L) (L+24) 5 Bmt (rl [2,2]) (KJ Tryz.f133 k)))) p52_0.aD p52_1 p52_2 p52_3 p52_4 p52_0) λo15=>Aa8 L p52_0 p52_1 o15)))
def Bko(p48_0:List Ai)(p48_1:Ab)(v:Tu4):St:=⟨[(0,.any),(1,.any),(2,.bA 133 0 Ai8),(6,I v.1),(14,lv (.t206 p48_0)),(15,I (p48_0.length:Int)),(16,I v.2.1)],[(1,(Af p48_1)),Kk,Kj,(5,[.aL false false (.t9 v.2.2.1) (.t4 v.2.2.2)])],1006⟩
def Aa9 [An A K3](L:Nat)(C2:Int)(Gf:Int)(rec:Int->Int->List Yb->List Bool->A)(o19:Ck):A:=
 (cn (o19.1 != 0)
 (lf (0,o19.1,C2,o19.2.1,o19.2.2))
 (rec Gf (Cp (C2+1)) o19.2.1 o19.2.2))
def Ab3 [An A K3](L:Nat)(p48_0:List Ai)(p48_1:Ab)(rec:Int->Int->List Yb->List Bool->A)(Gf:Int)(C2:Int)(Yd:List Yb)(Ye:List Bool)(nx73:Int->(List Yb)->(List Bool)->Int->A):A:=
 (lw C2 p48_0
 (nx73 C2 Yd Ye Gf)
 (lf (1,Gf,C2,Yd,Ye)))
def Ao4 [An A K3](p48_0:List Ai)(p48_1:Ab)(rec:Int->Int->List Yb->List Bool->A)(Gf:Int)(C2:Int)(Yd:List Yb)(Ye:List Bool):A:=Ab3 L p48_0 p48_1 rec Gf C2 Yd Ye (λC2 Yd Ye Gf=>bd (z7 L (gD p48_0 C2) p48_1 Yd Ye (gD p48_0 C2)) λo19=>Aa9 L C2 Gf rec o19)
def Vo(L:Nat)(p48_0:List Ai)(p48_1:Ab):Nat->Int->Int->List Yb->List Bool->Option K3
 |0,_,_,_,_=>none
 |n+1,Gf,C2,Yd,Ye=>Ao4 L p48_0 p48_1 (Vo L p48_0 p48_1 n) Gf C2 Yd Ye
theorem Bi7(p48_0:List Ai)(p48_1:Ab):LP (EV (Dx L) (L+24) 6 A5x.w.l.u.l.l) [0,1,2,6,14,15,16] [1,3,4,5] (Bko p48_0 p48_1) [.ret,.exit 0] (λn v=>Vo L p48_0 p48_1 n v.1 v.2.1 v.2.2.1 v.2.2.2) K:=lE (λ_=>rfl) λn v ih=>eE (Ab3 L p48_0 p48_1 (λGf C2 Yd Ye=>re (ih (Gf,C2,Yd,Ye))) v.1 v.2.1 v.2.2.1 v.2.2.2 (λC2 Yd Ye Gf=>hq (Bbo L (K1 (Dx L) (L+24) 6 1 3 A5x.w.l.u.l.l.w.l.l.u.l ⟨[(21,.agg (Bt (gD p48_0 C2))),(20,.bA 133 0 Ai8),(2,.bA 133 0 Ai8),(6,I Gf),A8p,(14,lv (.t206 p48_0)),(15,I (p48_0.length:Int)),(16,I C2),(17,B (decide (C2<(p48_0.length:Int)))),(18,.ref (Bt (gD p48_0 C2))),(19,.agg (Bt (gD p48_0 C2)))],[(1,(Af p48_1)),Kk,Kj,(5,[.aL false false (.t9 Yd) (.t4 Ye)]),(1014,(Bt (gD p48_0 C2)))],1006⟩ (some 22) (kN (KA (Dx L) (L+24) 6 A5x.w.l.u.l.l (rl [4,2,2,1]) (Ic (Js (EV (Dx L) (L+24) 6 A5x.w.l.u.l.l) [0,1,2,6,14,15,16] [1,3,4,5] n) [0,1,2,6,14,15,16] [1,3,4,5] K)))) (gD p48_0 C2) p48_1 Yd Ye (gD p48_0 C2)) λo19=>Aa9 L C2 Gf (λGf C2 Yd Ye=>re (ih (Gf,C2,Yd,Ye))) o19))
def A87(p48_0:List Ai)(p48_1:Ab)(p48_2:List Yb)(p48_3:List Bool)(k:C3):Ck->Prop:=λo=>k (I o.1) [(1,(Af p48_1)),Kk,Kj,(5,[.aL false false (.t9 o.2.1) (.t4 o.2.2)])]
def Aba [An A Ck](L:Nat)(o20:Nat×Tu4):A:=
 (sl o20.1 [(lf (o20.2.1,o20.2.2.2.1,o20.2.2.2.2)),
 (lf (0,o20.2.2.2.1,o20.2.2.2.2))])
def Ab4 [An A Ck](L:Nat)(p48_0:List Ai)(p48_1:Ab)(p48_2:List Yb)(p48_3:List Bool)(nx74:A):A:=
 (cn (decide ((p48_0.length:Int)>32))
 (lf (6,p48_2,p48_3))
 nx74)
def Aly [An A Ck](p48_0:List Ai)(p48_1:Ab)(p48_2:List Yb)(p48_3:List Bool):A:=Ab4 L p48_0 p48_1 p48_2 p48_3 (bd (Vo L p48_0 p48_1 (L+24) 0 0 p48_2 p48_3) λo20=>Aba L o20)
def z6(p48_0:List Ai)(p48_1:Ab)(p48_2:List Yb)(p48_3:List Bool):Option Ck:=Aly L p48_0 p48_1 p48_2 p48_3
theorem Bbn(p48_0:List Ai)(p48_1:Ab)(p48_2:List Yb)(p48_3:List Bool):YO (Dx L) (L+24) 7 132 [lv (.t206 p48_0),I 32,.bA 133 0 Ai8] [(1,(Af p48_1)),Kk,Kj,(5,[.aL false false (.t9 p48_2) (.t4 p48_3)])] k=ob (z6 L p48_0 p48_1 p48_2 p48_3) (A87 p48_0 p48_1 p48_2 p48_3 k):=(Cf _ _ _ Yr _ _ _ _ _ _ _).trans (eE (Ab4 L p48_0 p48_1 p48_2 p48_3 (hq (Bi7 L (KA (Dx L) (L+24) 6 A5x (rl [4,1,2,1]) (KJ Tryz.f132 k)) p48_0 p48_1 (L+24) (0,0,p48_2,p48_3)) λo20=>Aba L o20)))
def A9b(p61_0:Yb)(p61_1:Ab)(p61_2:List Yb)(p61_3:List Bool)(p61_4:Ak)(p61_5:Ak)(k:C3):Ck->Prop:=λo=>k (I o.1) [(1,(Af p61_1)),Kk,Kj,(5,[.aL false false (.t9 o.2.1) (.t4 o.2.2)]),(1014,(Cc p61_4)),(2017,(Cc p61_5))]
def u7 [An A Ck](p61_0:Yb)(p61_1:Ab)(p61_2:List Yb)(p61_3:List Bool)(p61_4:Ak)(p61_5:Ak):A:=
 (bd (Cq L p61_0) λr22=>
 (cn (r22 != 0)
 (lf (r22,p61_2,p61_3))
 (fq (p61_2.findIdx? λb=>p61_0 == b) (λi23=>
 (cn (p61_3.getD i23 default)
 (lf (4,p61_2,p61_3))
 (fq (p61_2.findIdx? λb=>p61_0 == b) (λi24=>
 (lf (0,p61_2,(p61_3.set i24 true))))
 (lf (0,(p61_2++ [p61_0]),(p61_3++ [true]))))))
 (fq (p61_2.findIdx? λb=>p61_0 == b) (λi25=>
 (lf (0,p61_2,(p61_3.set i25 true))))
 (lf (0,(p61_2++ [p61_0]),(p61_3++ [true])))))))
def Aac(p61_0:Yb)(p61_1:Ab)(p61_2:List Yb)(p61_3:List Bool)(p61_4:Ak)(p61_5:Ak):Option Ck:=u7 L p61_0 p61_1 p61_2 p61_3 p61_4 p61_5
theorem Bbs(p61_0:Yb)(p61_1:Ab)(p61_2:List Yb)(p61_3:List Bool)(p61_4:Ak)(p61_5:Ak):YO (Dx L) (L+24) 5 79 [.mp 5,S p61_0] [(1,(Af p61_1)),Kk,Kj,(5,[.aL false false (.t9 p61_2) (.t4 p61_3)]),(1014,(Cc p61_4)),(2017,(Cc p61_5))] k=ob (Aac L p61_0 p61_1 p61_2 p61_3 p61_4 p61_5) (A9b p61_0 p61_1 p61_2 p61_3 p61_4 p61_5 k):=(Cf _ _ _ Yr _ _ _ _ _ _ _).trans (eE (u7 L p61_0 p61_1 p61_2 p61_3 p61_4 p61_5))
def A9a(p59_0:Ak)(p59_1:Ab)(p59_2:List Yb)(p59_3:List Bool)(p59_4:Ak)(k:C3):Ck->Prop:=λo=>k (I o.1) [(1,(Af p59_1)),Kk,Kj,(5,[.aL false false (.t9 o.2.1) (.t4 o.2.2)]),(1014,(Cc p59_4)),(2017,(Cc p59_0))]
def Abb [An A Ck](p59_0:Ak)(o26:Ck):A:=
 (cn (o26.1 != 0)
 (lf (o26.1,o26.2.1,o26.2.2))
 (bd (Bd L p59_0.Room 1 1000) λr27=>
 (cn (!r27)
 (lf (2,o26.2.1,o26.2.2))
 (jp (.cn (decide (p59_0.fE<1))
 (.lf true)
 (.lf (decide (p59_0.fE>3)))) (λb28=>
 (cn b28
 (lf (1,o26.2.1,o26.2.2))
 (lf (0,o26.2.1,o26.2.2))))))))
def Al1 [An A Ck](p59_0:Ak)(p59_1:Ab)(p59_2:List Yb)(p59_3:List Bool)(p59_4:Ak):A:=(bd (Aac L p59_0.aD p59_1 p59_2 p59_3 p59_4 p59_0) λo26=>Abb L p59_0 o26)
def Aab(p59_0:Ak)(p59_1:Ab)(p59_2:List Yb)(p59_3:List Bool)(p59_4:Ak):Option Ck:=Al1 L p59_0 p59_1 p59_2 p59_3 p59_4
theorem Bbr(p59_0:Ak)(p59_1:Ab)(p59_2:List Yb)(p59_3:List Bool)(p59_4:Ak):YO (Dx L) (L+24) 6 139 [.agg (Cc p59_0),.loc 3 0] [(1,(Af p59_1)),Kk,Kj,(5,[.aL false false (.t9 p59_2) (.t4 p59_3)]),(1014,(Cc p59_4))] k=ob (Aab L p59_0 p59_1 p59_2 p59_3 p59_4) (A9a p59_0 p59_1 p59_2 p59_3 p59_4 k):=(Cf _ _ _ Yr _ _ _ _ _ _ _).trans (eE ((hq (Bbs L (K1 (Dx L) (L+24) 5 1 4 Bmw.u.l.l ⟨[(7,S p59_0.aD),(6,Axi),(5,.mp 5),Alc,(2,Axi),(3,I 0)],[(1,(Af p59_1)),Kk,Kj,(5,[.aL false false (.t9 p59_2) (.t4 p59_3)]),(1014,(Cc p59_4)),(2017,(Cc p59_0))],2015⟩ (some 8) (kN (KA (Dx L) (L+24) 5 Bmw (rl [2,2]) (KJ Tryz.f139 k)))) p59_0.aD p59_1 p59_2 p59_3 p59_4 p59_0) λo26=>Abb L p59_0 o26)))
def Bkp(p55_0:List Ak)(p55_1:Ab)(v:Tu4):St:=⟨[(0,.any),(1,.any),(2,.bA 139 0 Kz),(6,I v.1),(14,lv (.t213 p55_0)),(15,I (p55_0.length:Int)),(16,I v.2.1)],[(1,(Af p55_1)),Kk,Kj,(5,[.aL false false (.t9 v.2.2.1) (.t4 v.2.2.2)])],1006⟩
def Abc [An A K3](L:Nat)(Iz:Int)(W0:Int)(rec:Int->Int->List Yb->List Bool->A)(o29:Ck):A:=
 (cn (o29.1 != 0)
 (lf (0,o29.1,Iz,o29.2.1,o29.2.2))
 (rec W0 (Cp (Iz+1)) o29.2.1 o29.2.2))
def Ab6 [An A K3](L:Nat)(p55_0:List Ak)(p55_1:Ab)(rec:Int->Int->List Yb->List Bool->A)(W0:Int)(Iz:Int)(Gd:List Yb)(Yf:List Bool)(nx82:Int->(List Yb)->(List Bool)->Int->A):A:=
 (lw Iz p55_0
 (nx82 Iz Gd Yf W0)
 (lf (1,W0,Iz,Gd,Yf)))
def Ao5 [An A K3](p55_0:List Ak)(p55_1:Ab)(rec:Int->Int->List Yb->List Bool->A)(W0:Int)(Iz:Int)(Gd:List Yb)(Yf:List Bool):A:=Ab6 L p55_0 p55_1 rec W0 Iz Gd Yf (λIz Gd Yf W0=>bd (Aab L (gD p55_0 Iz) p55_1 Gd Yf (gD p55_0 Iz)) λo29=>Abc L Iz W0 rec o29)
def Vp(L:Nat)(p55_0:List Ak)(p55_1:Ab):Nat->Int->Int->List Yb->List Bool->Option K3
 |0,_,_,_,_=>none
 |n+1,W0,Iz,Gd,Yf=>Ao5 L p55_0 p55_1 (Vp L p55_0 p55_1 n) W0 Iz Gd Yf
theorem Bi8(p55_0:List Ak)(p55_1:Ab):LP (EV (Dx L) (L+24) 6 A5y.w.l.u.l.l) [0,1,2,6,14,15,16] [1,3,4,5] (Bkp p55_0 p55_1) [.ret,.exit 0] (λn v=>Vp L p55_0 p55_1 n v.1 v.2.1 v.2.2.1 v.2.2.2) K:=lE (λ_=>rfl) λn v ih=>eE (Ab6 L p55_0 p55_1 (λW0 Iz Gd Yf=>re (ih (W0,Iz,Gd,Yf))) v.1 v.2.1 v.2.2.1 v.2.2.2 (λIz Gd Yf W0=>hq (Bbr L (K1 (Dx L) (L+24) 6 1 3 A5y.w.l.u.l.l.w.l.l.u.l ⟨[(21,.agg (Cc (gD p55_0 Iz))),(20,.bA 139 0 Kz),(2,.bA 139 0 Kz),(6,I W0),A8p,(14,lv (.t213 p55_0)),(15,I (p55_0.length:Int)),(16,I Iz),(17,B (decide (Iz<(p55_0.length:Int)))),(18,.ref (Cc (gD p55_0 Iz))),(19,.agg (Cc (gD p55_0 Iz)))],[(1,(Af p55_1)),Kk,Kj,(5,[.aL false false (.t9 Gd) (.t4 Yf)]),(1014,(Cc (gD p55_0 Iz)))],1006⟩ (some 22) (kN (KA (Dx L) (L+24) 6 A5y.w.l.u.l.l (rl [4,2,2,1]) (Ic (Js (EV (Dx L) (L+24) 6 A5y.w.l.u.l.l) [0,1,2,6,14,15,16] [1,3,4,5] n) [0,1,2,6,14,15,16] [1,3,4,5] K)))) (gD p55_0 Iz) p55_1 Gd Yf (gD p55_0 Iz)) λo29=>Abc L Iz W0 (λW0 Iz Gd Yf=>re (ih (W0,Iz,Gd,Yf))) o29))
def A2b(p55_0:List Ak)(p55_1:Ab)(p55_2:List Yb)(p55_3:List Bool)(k:C3):Ck->Prop:=λo=>k (I o.1) [(1,(Af p55_1)),Kk,Kj,(5,[.aL false false (.t9 o.2.1) (.t4 o.2.2)])]
def Abd [An A Ck](L:Nat)(o30:Nat×Tu4):A:=
 (sl o30.1 [(lf (o30.2.1,o30.2.2.2.1,o30.2.2.2.2)),
 (lf (0,o30.2.2.2.1,o30.2.2.2.2))])
def Ab7 [An A Ck](L:Nat)(p55_0:List Ak)(p55_1:Ab)(p55_2:List Yb)(p55_3:List Bool)(nx83:A):A:=
 (cn (decide ((p55_0.length:Int)>32))
 (lf (6,p55_2,p55_3))
 nx83)
def Al0 [An A Ck](p55_0:List Ak)(p55_1:Ab)(p55_2:List Yb)(p55_3:List Bool):A:=Ab7 L p55_0 p55_1 p55_2 p55_3 (bd (Vp L p55_0 p55_1 (L+24) 0 0 p55_2 p55_3) λo30=>Abd L o30)
def Aaa(p55_0:List Ak)(p55_1:Ab)(p55_2:List Yb)(p55_3:List Bool):Option Ck:=Al0 L p55_0 p55_1 p55_2 p55_3
theorem Bbq(p55_0:List Ak)(p55_1:Ab)(p55_2:List Yb)(p55_3:List Bool):YO (Dx L) (L+24) 7 138 [lv (.t213 p55_0),I 32,.bA 139 0 Kz] [(1,(Af p55_1)),Kk,Kj,(5,[.aL false false (.t9 p55_2) (.t4 p55_3)])] k=ob (Aaa L p55_0 p55_1 p55_2 p55_3) (A2b p55_0 p55_1 p55_2 p55_3 k):=(Cf _ _ _ Yr _ _ _ _ _ _ _).trans (eE (Ab7 L p55_0 p55_1 p55_2 p55_3 (hq (Bi8 L (KA (Dx L) (L+24) 6 A5y (rl [4,1,2,1]) (KJ Tryz.f138 k)) p55_0 p55_1 (L+24) (0,0,p55_2,p55_3)) λo30=>Abd L o30)))
def A9e(p68_0:Yb)(p68_1:Ab)(p68_2:List Yb)(p68_3:List Bool)(p68_4:Av)(p68_5:Av)(k:C3):Ck->Prop:=λo=>k (I o.1) [(1,(Af p68_1)),Kk,Kj,(5,[.aL false false (.t9 o.2.1) (.t4 o.2.2)]),(1014,(Cj p68_4)),(2017,(Cj p68_5))]
def u9 [An A Ck](p68_0:Yb)(p68_1:Ab)(p68_2:List Yb)(p68_3:List Bool)(p68_4:Av)(p68_5:Av):A:=
 (bd (Cq L p68_0) λr32=>
 (cn (r32 != 0)
 (lf (r32,p68_2,p68_3))
 (fq (p68_2.findIdx? λb=>p68_0 == b) (λi33=>
 (cn (p68_3.getD i33 default)
 (lf (4,p68_2,p68_3))
 (fq (p68_2.findIdx? λb=>p68_0 == b) (λi34=>
 (lf (0,p68_2,(p68_3.set i34 true))))
 (lf (0,(p68_2++ [p68_0]),(p68_3++ [true]))))))
 (fq (p68_2.findIdx? λb=>p68_0 == b) (λi35=>
 (lf (0,p68_2,(p68_3.set i35 true))))
 (lf (0,(p68_2++ [p68_0]),(p68_3++ [true])))))))
def Aaf(p68_0:Yb)(p68_1:Ab)(p68_2:List Yb)(p68_3:List Bool)(p68_4:Av)(p68_5:Av):Option Ck:=u9 L p68_0 p68_1 p68_2 p68_3 p68_4 p68_5
theorem Bbv(p68_0:Yb)(p68_1:Ab)(p68_2:List Yb)(p68_3:List Bool)(p68_4:Av)(p68_5:Av):YO (Dx L) (L+24) 5 79 [.mp 5,S p68_0] [(1,(Af p68_1)),Kk,Kj,(5,[.aL false false (.t9 p68_2) (.t4 p68_3)]),(1014,(Cj p68_4)),(2017,(Cj p68_5))] k=ob (Aaf L p68_0 p68_1 p68_2 p68_3 p68_4 p68_5) (A9e p68_0 p68_1 p68_2 p68_3 p68_4 p68_5 k):=(Cf _ _ _ Yr _ _ _ _ _ _ _).trans (eE (u9 L p68_0 p68_1 p68_2 p68_3 p68_4 p68_5))
def A9d(p66_0:Av)(p66_1:Ab)(p66_2:List Yb)(p66_3:List Bool)(p66_4:Av)(k:C3):Ck->Prop:=λo=>k (I o.1) [(1,(Af p66_1)),Kk,Kj,(5,[.aL false false (.t9 o.2.1) (.t4 o.2.2)]),(1014,(Cj p66_4)),(2017,(Cj p66_0))]
def Abf [An A Ck](p66_0:Av)(o36:Ck):A:=
 (cn (o36.1 != 0)
 (lf (o36.1,o36.2.1,o36.2.2))
 (bd (Bd L p66_0.Length 1 1000) λr37=>
 (jb (.cn (!r37)
 (.lf true)
 (.bd (Bd L p66_0.Step 1 1000) λr39=>
 (.lf (!r39)))) (λb38=>
 (cn b38
 (lf (2,o36.2.1,o36.2.2))
 (lf (0,o36.2.1,o36.2.2)))))))
def Al3 [An A Ck](p66_0:Av)(p66_1:Ab)(p66_2:List Yb)(p66_3:List Bool)(p66_4:Av):A:=(bd (Aaf L p66_0.aD p66_1 p66_2 p66_3 p66_4 p66_0) λo36=>Abf L p66_0 o36)
def Aae(p66_0:Av)(p66_1:Ab)(p66_2:List Yb)(p66_3:List Bool)(p66_4:Av):Option Ck:=Al3 L p66_0 p66_1 p66_2 p66_3 p66_4
theorem Bbu(p66_0:Av)(p66_1:Ab)(p66_2:List Yb)(p66_3:List Bool)(p66_4:Av):YO (Dx L) (L+24) 6 142 [.agg (Cj p66_0),.loc 3 0] [(1,(Af p66_1)),Kk,Kj,(5,[.aL false false (.t9 p66_2) (.t4 p66_3)]),(1014,(Cj p66_4))] k=ob (Aae L p66_0 p66_1 p66_2 p66_3 p66_4) (A9d p66_0 p66_1 p66_2 p66_3 p66_4 k):=(Cf _ _ _ Yr _ _ _ _ _ _ _).trans (eE ((hq (Bbv L (K1 (Dx L) (L+24) 5 1 4 Bmy.u.l.l ⟨[(7,S p66_0.aD),(6,Axi),(5,.mp 5),Alc,(2,Axi),(3,I 0)],[(1,(Af p66_1)),Kk,Kj,(5,[.aL false false (.t9 p66_2) (.t4 p66_3)]),(1014,(Cj p66_4)),(2017,(Cj p66_0))],2015⟩ (some 8) (kN (KA (Dx L) (L+24) 5 Bmy (rl [2,2]) (KJ Tryz.f142 k)))) p66_0.aD p66_1 p66_2 p66_3 p66_4 p66_0) λo36=>Abf L p66_0 o36)))
def Bkq(p62_0:List Av)(p62_1:Ab)(v:Tu4):St:=⟨[(0,.any),(1,.any),(2,.bA 142 0 Kz),(6,I v.1),(14,lv (.bR p62_0)),(15,I (p62_0.length:Int)),(16,I v.2.1)],[(1,(Af p62_1)),Kk,Kj,(5,[.aL false false (.t9 v.2.2.1) (.t4 v.2.2.2)])],1006⟩
def Abg [An A K3](L:Nat)(Ll:Int)(Agy:Int)(rec:Int->Int->List Yb->List Bool->A)(o40:Ck):A:=
 (cn (o40.1 != 0)
 (lf (0,o40.1,Ll,o40.2.1,o40.2.2))
 (rec Agy (Cp (Ll+1)) o40.2.1 o40.2.2))
def Ab9 [An A K3](L:Nat)(p62_0:List Av)(p62_1:Ab)(rec:Int->Int->List Yb->List Bool->A)(Agy:Int)(Ll:Int)(Yg:List Yb)(Ge:List Bool)(nx91:Int->(List Yb)->(List Bool)->Int->A):A:=
 (lw Ll p62_0
 (nx91 Ll Yg Ge Agy)
 (lf (1,Agy,Ll,Yg,Ge)))
def Ao6 [An A K3](p62_0:List Av)(p62_1:Ab)(rec:Int->Int->List Yb->List Bool->A)(Agy:Int)(Ll:Int)(Yg:List Yb)(Ge:List Bool):A:=Ab9 L p62_0 p62_1 rec Agy Ll Yg Ge (λLl Yg Ge Agy=>bd (Aae L (gD p62_0 Ll) p62_1 Yg Ge (gD p62_0 Ll)) λo40=>Abg L Ll Agy rec o40)
def Vq(L:Nat)(p62_0:List Av)(p62_1:Ab):Nat->Int->Int->List Yb->List Bool->Option K3
 |0,_,_,_,_=>none
 |n+1,Agy,Ll,Yg,Ge=>Ao6 L p62_0 p62_1 (Vq L p62_0 p62_1 n) Agy Ll Yg Ge
theorem Bi9(p62_0:List Av)(p62_1:Ab):LP (EV (Dx L) (L+24) 6 A5z.w.l.u.l.l) [0,1,2,6,14,15,16] [1,3,4,5] (Bkq p62_0 p62_1) [.ret,.exit 0] (λn v=>Vq L p62_0 p62_1 n v.1 v.2.1 v.2.2.1 v.2.2.2) K:=lE (λ_=>rfl) λn v ih=>eE (Ab9 L p62_0 p62_1 (λAgy Ll Yg Ge=>re (ih (Agy,Ll,Yg,Ge))) v.1 v.2.1 v.2.2.1 v.2.2.2 (λLl Yg Ge Agy=>hq (Bbu L (K1 (Dx L) (L+24) 6 1 3 A5z.w.l.u.l.l.w.l.l.u.l ⟨[(21,.agg (Cj (gD p62_0 Ll))),(20,.bA 142 0 Kz),(2,.bA 142 0 Kz),(6,I Agy),A8p,(14,lv (.bR p62_0)),(15,I (p62_0.length:Int)),(16,I Ll),(17,B (decide (Ll<(p62_0.length:Int)))),(18,.ref (Cj (gD p62_0 Ll))),(19,.agg (Cj (gD p62_0 Ll)))],[(1,(Af p62_1)),Kk,Kj,(5,[.aL false false (.t9 Yg) (.t4 Ge)]),(1014,(Cj (gD p62_0 Ll)))],1006⟩ (some 22) (kN (KA (Dx L) (L+24) 6 A5z.w.l.u.l.l (rl [4,2,2,1]) (Ic (Js (EV (Dx L) (L+24) 6 A5z.w.l.u.l.l) [0,1,2,6,14,15,16] [1,3,4,5] n) [0,1,2,6,14,15,16] [1,3,4,5] K)))) (gD p62_0 Ll) p62_1 Yg Ge (gD p62_0 Ll)) λo40=>Abg L Ll Agy (λAgy Ll Yg Ge=>re (ih (Agy,Ll,Yg,Ge))) o40))
def A9c(p62_0:List Av)(p62_1:Ab)(p62_2:List Yb)(p62_3:List Bool)(k:C3):Ck->Prop:=λo=>k (I o.1) [(1,(Af p62_1)),Kk,Kj,(5,[.aL false false (.t9 o.2.1) (.t4 o.2.2)])]
def Abh [An A Ck](L:Nat)(o41:Nat×Tu4):A:=
 (sl o41.1 [(lf (o41.2.1,o41.2.2.2.1,o41.2.2.2.2)),
 (lf (0,o41.2.2.2.1,o41.2.2.2.2))])
def Aca [An A Ck](L:Nat)(p62_0:List Av)(p62_1:Ab)(p62_2:List Yb)(p62_3:List Bool)(nx92:A):A:=
 (cn (decide ((p62_0.length:Int)>32))
 (lf (6,p62_2,p62_3))
 nx92)
def Al2 [An A Ck](p62_0:List Av)(p62_1:Ab)(p62_2:List Yb)(p62_3:List Bool):A:=Aca L p62_0 p62_1 p62_2 p62_3 (bd (Vq L p62_0 p62_1 (L+24) 0 0 p62_2 p62_3) λo41=>Abh L o41)
def Aad(p62_0:List Av)(p62_1:Ab)(p62_2:List Yb)(p62_3:List Bool):Option Ck:=Al2 L p62_0 p62_1 p62_2 p62_3
theorem Bbt(p62_0:List Av)(p62_1:Ab)(p62_2:List Yb)(p62_3:List Bool):YO (Dx L) (L+24) 7 141 [lv (.bR p62_0),I 32,.bA 142 0 Kz] [(1,(Af p62_1)),Kk,Kj,(5,[.aL false false (.t9 p62_2) (.t4 p62_3)])] k=ob (Aad L p62_0 p62_1 p62_2 p62_3) (A9c p62_0 p62_1 p62_2 p62_3 k):=(Cf _ _ _ Yr _ _ _ _ _ _ _).trans (eE (Aca L p62_0 p62_1 p62_2 p62_3 (hq (Bi9 L (KA (Dx L) (L+24) 6 A5z (rl [4,1,2,1]) (KJ Tryz.f141 k)) p62_0 p62_1 (L+24) (0,0,p62_2,p62_3)) λo41=>Abh L o41)))
def A9f(p71_0:Yb)(p71_1:Ab)(p71_2:List Yb)(p71_3:List Bool)(k:C3):Ck->Prop:=λo=>k (I o.1) [(1,(Af p71_1)),Kk,Kj,(5,[.aL false false (.t9 o.2.1) (.t4 o.2.2)])]
def v6 [An A Ck](p71_0:Yb)(p71_1:Ab)(p71_2:List Yb)(p71_3:List Bool):A:=
 (bd (Cq L p71_0) λr43=>
 (cn (r43 != 0)
 (lf (r43,p71_2,p71_3))
 (fq (p71_2.findIdx? λb=>p71_0 == b) (λi44=>
 (cn (p71_3.getD i44 default)
 (lf (4,p71_2,p71_3))
 (fq (p71_2.findIdx? λb=>p71_0 == b) (λi45=>
 (lf (0,p71_2,(p71_3.set i45 true))))
 (lf (0,(p71_2++ [p71_0]),(p71_3++ [true]))))))
 (fq (p71_2.findIdx? λb=>p71_0 == b) (λi46=>
 (lf (0,p71_2,(p71_3.set i46 true))))
 (lf (0,(p71_2++ [p71_0]),(p71_3++ [true])))))))
def Aag(p71_0:Yb)(p71_1:Ab)(p71_2:List Yb)(p71_3:List Bool):Option Ck:=v6 L p71_0 p71_1 p71_2 p71_3
theorem Bbw(p71_0:Yb)(p71_1:Ab)(p71_2:List Yb)(p71_3:List Bool):YO (Dx L) (L+24) 5 79 [.mp 5,S p71_0] [(1,(Af p71_1)),Kk,Kj,(5,[.aL false false (.t9 p71_2) (.t4 p71_3)])] k=ob (Aag L p71_0 p71_1 p71_2 p71_3) (A9f p71_0 p71_1 p71_2 p71_3 k):=(Cf _ _ _ Yr _ _ _ _ _ _ _).trans (eE (v6 L p71_0 p71_1 p71_2 p71_3))
def Bkr(p69_0:List Yb)(p69_1:Ab)(v:Tu4):St:=⟨[(0,.any),(1,.any),(2,Axg),(6,I v.1),(14,lv (.t9 p69_0)),(15,I (p69_0.length:Int)),(16,I v.2.1)],[(1,(Af p69_1)),Kk,Kj,(5,[.aL false false (.t9 v.2.2.1) (.t4 v.2.2.2)])],1006⟩
def Abi [An A K3](L:Nat)(U9:Int)(Agz:Int)(rec:Int->Int->List Yb->List Bool->A)(o47:Ck):A:=
 (cn (o47.1 != 0)
 (lf (0,o47.1,U9,o47.2.1,o47.2.2))
 (rec Agz (Cp (U9+1)) o47.2.1 o47.2.2))
def Acd [An A K3](L:Nat)(p69_0:List Yb)(p69_1:Ab)(rec:Int->Int->List Yb->List Bool->A)(Agz:Int)(U9:Int)(Yh:List Yb)(Yi:List Bool)(nx96:Int->(List Yb)->(List Bool)->Int->A):A:=
 (lw U9 p69_0
 (nx96 U9 Yh Yi Agz)
 (lf (1,Agz,U9,Yh,Yi)))
def Ao7 [An A K3](p69_0:List Yb)(p69_1:Ab)(rec:Int->Int->List Yb->List Bool->A)(Agz:Int)(U9:Int)(Yh:List Yb)(Yi:List Bool):A:=Acd L p69_0 p69_1 rec Agz U9 Yh Yi (λU9 Yh Yi Agz=>bd (Aag L (gD p69_0 U9) p69_1 Yh Yi) λo47=>Abi L U9 Agz rec o47)
def Vr(L:Nat)(p69_0:List Yb)(p69_1:Ab):Nat->Int->Int->List Yb->List Bool->Option K3
 |0,_,_,_,_=>none
 |n+1,Agz,U9,Yh,Yi=>Ao7 L p69_0 p69_1 (Vr L p69_0 p69_1 n) Agz U9 Yh Yi
theorem Bja(p69_0:List Yb)(p69_1:Ab):LP (EV (Dx L) (L+24) 5 A5w.w.l.u.l.l) [0,1,2,6,14,15,16] [1,3,4,5] (Bkr p69_0 p69_1) [.ret,.exit 0] (λn v=>Vr L p69_0 p69_1 n v.1 v.2.1 v.2.2.1 v.2.2.2) K:=lE (λ_=>rfl) λn v ih=>eE (Acd L p69_0 p69_1 (λAgz U9 Yh Yi=>re (ih (Agz,U9,Yh,Yi))) v.1 v.2.1 v.2.2.1 v.2.2.2 (λU9 Yh Yi Agz=>hq (Bbw L (K1 (Dx L) (L+24) 5 1 3 A5w.w.l.u.l.l.w.l.l.u.l ⟨[(21,S (gD p69_0 U9)),(20,Axg),(2,Axg),(6,I Agz),(8,S (gD p69_0 U9)),(14,lv (.t9 p69_0)),(15,I (p69_0.length:Int)),(16,I U9),(17,B (decide (U9<(p69_0.length:Int)))),(18,.ref [S (gD p69_0 U9)]),(19,S (gD p69_0 U9))],[(1,(Af p69_1)),Kk,Kj,(5,[.aL false false (.t9 Yh) (.t4 Yi)])],1006⟩ (some 22) (kN (KA (Dx L) (L+24) 5 A5w.w.l.u.l.l (rl [4,2,2,1]) (Ic (Js (EV (Dx L) (L+24) 5 A5w.w.l.u.l.l) [0,1,2,6,14,15,16] [1,3,4,5] n) [0,1,2,6,14,15,16] [1,3,4,5] K)))) (gD p69_0 U9) p69_1 Yh Yi) λo47=>Abi L U9 Agz (λAgz U9 Yh Yi=>re (ih (Agz,U9,Yh,Yi))) o47))
def Au3(p69_0:List Yb)(p69_1:Ab)(p69_2:List Yb)(p69_3:List Bool)(k:C3):Ck->Prop:=λo=>k (I o.1) [(1,(Af p69_1)),Kk,Kj,(5,[.aL false false (.t9 o.2.1) (.t4 o.2.2)])]
def Abj [An A Ck](L:Nat)(o48:Nat×Tu4):A:=
 (sl o48.1 [(lf (o48.2.1,o48.2.2.2.1,o48.2.2.2.2)),
 (lf (0,o48.2.2.2.1,o48.2.2.2.2))])
def Ace [An A Ck](L:Nat)(p69_0:List Yb)(p69_1:Ab)(p69_2:List Yb)(p69_3:List Bool)(nx97:A):A:=
 (cn (decide ((p69_0.length:Int)>32))
 (lf (6,p69_2,p69_3))
 nx97)
def Al4 [An A Ck](p69_0:List Yb)(p69_1:Ab)(p69_2:List Yb)(p69_3:List Bool):A:=Ace L p69_0 p69_1 p69_2 p69_3 (bd (Vr L p69_0 p69_1 (L+24) 0 0 p69_2 p69_3) λo48=>Abj L o48)
def I7(p69_0:List Yb)(p69_1:Ab)(p69_2:List Yb)(p69_3:List Bool):Option Ck:=Al4 L p69_0 p69_1 p69_2 p69_3
theorem Aj7(p69_0:List Yb)(p69_1:Ab)(p69_2:List Yb)(p69_3:List Bool):YO (Dx L) (L+24) 6 128 [lv (.t9 p69_0),I 32,Axg] [(1,(Af p69_1)),Kk,Kj,(5,[.aL false false (.t9 p69_2) (.t4 p69_3)])] k=ob (I7 L p69_0 p69_1 p69_2 p69_3) (Au3 p69_0 p69_1 p69_2 p69_3 k):=(Cf _ _ _ Yr _ _ _ _ _ _ _).trans (eE (Ace L p69_0 p69_1 p69_2 p69_3 (hq (Bja L (KA (Dx L) (L+24) 5 A5w (rl [4,1,2,1]) (KJ Tryz.f128 k)) p69_0 p69_1 (L+24) (0,0,p69_2,p69_3)) λo48=>Abj L o48)))
def A9i(p78_0:Yb)(p78_1:Ab)(p78_2:List Yb)(p78_3:List Bool)(p78_4:Am)(p78_5:Am)(k:C3):Ck->Prop:=λo=>k (I o.1) [(1,(Af p78_1)),Kk,Kj,(5,[.aL false false (.t9 o.2.1) (.t4 o.2.2)]),(1014,(B7 p78_4)),(2017,(B7 p78_5))]
def v7 [An A Ck](p78_0:Yb)(p78_1:Ab)(p78_2:List Yb)(p78_3:List Bool)(p78_4:Am)(p78_5:Am):A:=
 (bd (Cq L p78_0) λr54=>
 (cn (r54 != 0)
 (lf (r54,p78_2,p78_3))
 (fq (p78_2.findIdx? λb=>p78_0 == b) (λi55=>
 (cn (p78_3.getD i55 default)
 (lf (4,p78_2,p78_3))
 (fq (p78_2.findIdx? λb=>p78_0 == b) (λi56=>
 (lf (0,p78_2,(p78_3.set i56 true))))
 (lf (0,(p78_2++ [p78_0]),(p78_3++ [true]))))))
 (fq (p78_2.findIdx? λb=>p78_0 == b) (λi57=>
 (lf (0,p78_2,(p78_3.set i57 true))))
 (lf (0,(p78_2++ [p78_0]),(p78_3++ [true])))))))
def Aaj(p78_0:Yb)(p78_1:Ab)(p78_2:List Yb)(p78_3:List Bool)(p78_4:Am)(p78_5:Am):Option Ck:=v7 L p78_0 p78_1 p78_2 p78_3 p78_4 p78_5
theorem Bbz(p78_0:Yb)(p78_1:Ab)(p78_2:List Yb)(p78_3:List Bool)(p78_4:Am)(p78_5:Am):YO (Dx L) (L+24) 5 79 [.mp 5,S p78_0] [(1,(Af p78_1)),Kk,Kj,(5,[.aL false false (.t9 p78_2) (.t4 p78_3)]),(1014,(B7 p78_4)),(2017,(B7 p78_5))] k=ob (Aaj L p78_0 p78_1 p78_2 p78_3 p78_4 p78_5) (A9i p78_0 p78_1 p78_2 p78_3 p78_4 p78_5 k):=(Cf _ _ _ Yr _ _ _ _ _ _ _).trans (eE (v7 L p78_0 p78_1 p78_2 p78_3 p78_4 p78_5))
def A9h(p76_0:Am)(p76_1:Ab)(p76_2:List Yb)(p76_3:List Bool)(p76_4:Am)(k:C3):Ck->Prop:=λo=>k (I o.1) [(1,(Af p76_1)),Kk,Kj,(5,[.aL false false (.t9 o.2.1) (.t4 o.2.2)]),(1014,(B7 p76_4)),(2017,(B7 p76_0))]
def Zt [An A Ck](p76_0:Am)(o58:Ck):A:=
 (cn (o58.1 != 0)
 (lf (o58.1,o58.2.1,o58.2.2))
 (bd (Adr L p76_0) λr59=>
 (lf (r59,o58.2.1,o58.2.2))))
def Al6 [An A Ck](p76_0:Am)(p76_1:Ab)(p76_2:List Yb)(p76_3:List Bool)(p76_4:Am):A:=(bd (Aaj L p76_0.aD p76_1 p76_2 p76_3 p76_4 p76_0) λo58=>Zt L p76_0 o58)
def Aai(p76_0:Am)(p76_1:Ab)(p76_2:List Yb)(p76_3:List Bool)(p76_4:Am):Option Ck:=Al6 L p76_0 p76_1 p76_2 p76_3 p76_4
theorem Bby(p76_0:Am)(p76_1:Ab)(p76_2:List Yb)(p76_3:List Bool)(p76_4:Am):YO (Dx L) (L+24) 6 150 [.agg (B7 p76_0),.loc 3 0] [(1,(Af p76_1)),Kk,Kj,(5,[.aL false false (.t9 p76_2) (.t4 p76_3)]),(1014,(B7 p76_4))] k=ob (Aai L p76_0 p76_1 p76_2 p76_3 p76_4) (A9h p76_0 p76_1 p76_2 p76_3 p76_4 k):=(Cf _ _ _ Yr _ _ _ _ _ _ _).trans (eE ((hq (Bbz L (K1 (Dx L) (L+24) 5 1 4 Bm5.u.l.l ⟨[(7,S p76_0.aD),(6,Axi),(5,.mp 5),Alc,(2,Axi),(3,I 0)],[(1,(Af p76_1)),Kk,Kj,(5,[.aL false false (.t9 p76_2) (.t4 p76_3)]),(1014,(B7 p76_4)),(2017,(B7 p76_0))],2015⟩ (some 8) (kN (KA (Dx L) (L+24) 5 Bm5 (rl [2,2]) (KJ Tryz.f150 k)))) p76_0.aD p76_1 p76_2 p76_3 p76_4 p76_0) λo58=>Zt L p76_0 o58)))
def Bks(p72_0:List Am)(p72_1:Ab)(v:Tu4):St:=⟨[(0,.any),(1,.any),(2,.bA 150 0 Kz),(6,I v.1),(14,lv (.t47 p72_0)),(15,I (p72_0.length:Int)),(16,I v.2.1)],[(1,(Af p72_1)),Kk,Kj,(5,[.aL false false (.t9 v.2.2.1) (.t4 v.2.2.2)])],1006⟩
def Zu [An A K3](L:Nat)(Sy:Int)(Ag0:Int)(rec:Int->Int->List Yb->List Bool->A)(o60:Ck):A:=
 (cn (o60.1 != 0)
 (lf (0,o60.1,Sy,o60.2.1,o60.2.2))
 (rec Ag0 (Cp (Sy+1)) o60.2.1 o60.2.2))
def Z9 [An A K3](L:Nat)(p72_0:List Am)(p72_1:Ab)(rec:Int->Int->List Yb->List Bool->A)(Ag0:Int)(Sy:Int)(Yj:List Yb)(Yk:List Bool)(nx109:Int->(List Yb)->(List Bool)->Int->A):A:=
 (lw Sy p72_0
 (nx109 Sy Yj Yk Ag0)
 (lf (1,Ag0,Sy,Yj,Yk)))
def Ao8 [An A K3](p72_0:List Am)(p72_1:Ab)(rec:Int->Int->List Yb->List Bool->A)(Ag0:Int)(Sy:Int)(Yj:List Yb)(Yk:List Bool):A:=Z9 L p72_0 p72_1 rec Ag0 Sy Yj Yk (λSy Yj Yk Ag0=>bd (Aai L (gD p72_0 Sy) p72_1 Yj Yk (gD p72_0 Sy)) λo60=>Zu L Sy Ag0 rec o60)
def Vs(L:Nat)(p72_0:List Am)(p72_1:Ab):Nat->Int->Int->List Yb->List Bool->Option K3
 |0,_,_,_,_=>none
 |n+1,Ag0,Sy,Yj,Yk=>Ao8 L p72_0 p72_1 (Vs L p72_0 p72_1 n) Ag0 Sy Yj Yk
theorem Bjb(p72_0:List Am)(p72_1:Ab):LP (EV (Dx L) (L+24) 6 A50.w.l.u.l.l) [0,1,2,6,14,15,16] [1,3,4,5] (Bks p72_0 p72_1) [.ret,.exit 0] (λn v=>Vs L p72_0 p72_1 n v.1 v.2.1 v.2.2.1 v.2.2.2) K:=lE (λ_=>rfl) λn v ih=>eE (Z9 L p72_0 p72_1 (λAg0 Sy Yj Yk=>re (ih (Ag0,Sy,Yj,Yk))) v.1 v.2.1 v.2.2.1 v.2.2.2 (λSy Yj Yk Ag0=>hq (Bby L (K1 (Dx L) (L+24) 6 1 3 A50.w.l.u.l.l.w.l.l.u.l ⟨[(21,.agg (B7 (gD p72_0 Sy))),(20,.bA 150 0 Kz),(2,.bA 150 0 Kz),(6,I Ag0),A8p,(14,lv (.t47 p72_0)),(15,I (p72_0.length:Int)),(16,I Sy),(17,B (decide (Sy<(p72_0.length:Int)))),(18,.ref (B7 (gD p72_0 Sy))),(19,.agg (B7 (gD p72_0 Sy)))],[(1,(Af p72_1)),Kk,Kj,(5,[.aL false false (.t9 Yj) (.t4 Yk)]),(1014,(B7 (gD p72_0 Sy)))],1006⟩ (some 22) (kN (KA (Dx L) (L+24) 6 A50.w.l.u.l.l (rl [4,2,2,1]) (Ic (Js (EV (Dx L) (L+24) 6 A50.w.l.u.l.l) [0,1,2,6,14,15,16] [1,3,4,5] n) [0,1,2,6,14,15,16] [1,3,4,5] K)))) (gD p72_0 Sy) p72_1 Yj Yk (gD p72_0 Sy)) λo60=>Zu L Sy Ag0 (λAg0 Sy Yj Yk=>re (ih (Ag0,Sy,Yj,Yk))) o60))
def A9g(p72_0:List Am)(p72_1:Ab)(p72_2:List Yb)(p72_3:List Bool)(k:C3):Ck->Prop:=λo=>k (I o.1) [(1,(Af p72_1)),Kk,Kj,(5,[.aL false false (.t9 o.2.1) (.t4 o.2.2)])]
def Zv [An A Ck](L:Nat)(o61:Nat×Tu4):A:=
 (sl o61.1 [(lf (o61.2.1,o61.2.2.2.1,o61.2.2.2.2)),
 (lf (0,o61.2.2.2.1,o61.2.2.2.2))])
def b0 [An A Ck](L:Nat)(p72_0:List Am)(p72_1:Ab)(p72_2:List Yb)(p72_3:List Bool)(nx110:A):A:=
 (cn (decide ((p72_0.length:Int)>16))
 (lf (6,p72_2,p72_3))
 nx110)
def Al5 [An A Ck](p72_0:List Am)(p72_1:Ab)(p72_2:List Yb)(p72_3:List Bool):A:=b0 L p72_0 p72_1 p72_2 p72_3 (bd (Vs L p72_0 p72_1 (L+24) 0 0 p72_2 p72_3) λo61=>Zv L o61)
def Aah(p72_0:List Am)(p72_1:Ab)(p72_2:List Yb)(p72_3:List Bool):Option Ck:=Al5 L p72_0 p72_1 p72_2 p72_3
theorem Bbx(p72_0:List Am)(p72_1:Ab)(p72_2:List Yb)(p72_3:List Bool):YO (Dx L) (L+24) 7 149 [lv (.t47 p72_0),I 16,.bA 150 0 Kz] [(1,(Af p72_1)),Kk,Kj,(5,[.aL false false (.t9 p72_2) (.t4 p72_3)])] k=ob (Aah L p72_0 p72_1 p72_2 p72_3) (A9g p72_0 p72_1 p72_2 p72_3 k):=(Cf _ _ _ Yr _ _ _ _ _ _ _).trans (eE (b0 L p72_0 p72_1 p72_2 p72_3 (hq (Bjb L (KA (Dx L) (L+24) 6 A50 (rl [4,1,2,1]) (KJ Tryz.f149 k)) p72_0 p72_1 (L+24) (0,0,p72_2,p72_3)) λo61=>Zv L o61)))
def Bkt(p79_0:List Bq)(p79_1:Ab)(p79_2:List Yb)(p79_3:List Bool)(v:Ef):St:=⟨[(0,.any),(1,.any),(2,.bA 154 0 Apy),(6,I v.1),(14,lv (.bU p79_0)),(15,I (p79_0.length:Int)),(16,I v.2)],[(1,(Af p79_1)),Kk,Kj,(5,[.aL false false (.t9 p79_2) (.t4 p79_3)])],1006⟩
def Ad4 [An A C0](p79_0:List Bq)(p79_1:Ab)(p79_2:List Yb)(p79_3:List Bool)(rec:Int->Int->A)(A5c:Int)(Axb:Int):A:=
 (lw Axb p79_0
 (bd (Ahq L p79_1 (gD p79_0 Axb)) λr63=>
 (cn (r63 != 0)
 (lf (0,r63,Axb))
 (rec A5c (Cp (Axb+1)))))
 (lf (1,A5c,Axb)))
def Vt(L:Nat)(p79_0:List Bq)(p79_1:Ab)(p79_2:List Yb)(p79_3:List Bool):Nat->Int->Int->Option C0
 |0,_,_=>none
 |n+1,A5c,Axb=>Ad4 L p79_0 p79_1 p79_2 p79_3 (Vt L p79_0 p79_1 p79_2 p79_3 n) A5c Axb
theorem Bjc(p79_0:List Bq)(p79_1:Ab)(p79_2:List Yb)(p79_3:List Bool):LP (EV (Dx L) (L+24) 6 Bm7.w.l.u.l.l) [0,1,2,6,14,15,16] [1,3,4,5] (Bkt p79_0 p79_1 p79_2 p79_3) [.ret,.exit 0] (λn v=>Vt L p79_0 p79_1 p79_2 p79_3 n v.1 v.2) K:=lE (λ_=>rfl) λn v ih=>eE (Ad4 L p79_0 p79_1 p79_2 p79_3 (λA5c Axb=>re (ih (A5c,Axb))) v.1 v.2)
def A9j(p79_0:List Bq)(p79_1:Ab)(p79_2:List Yb)(p79_3:List Bool)(k:C3):Int->Prop:=λo=>k (I o) [(1,(Af p79_1)),Kk,Kj,(5,[.aL false false (.t9 p79_2) (.t4 p79_3)])]
def Zw [An A Int](L:Nat)(o64:Nat×Ef):A:=
 (sl o64.1 [(lf o64.2.1),
 (lf 0)])
def d4 [An A Int](L:Nat)(p79_0:List Bq)(p79_1:Ab)(p79_2:List Yb)(p79_3:List Bool)(nx113:A):A:=
 (cn (decide ((p79_0.length:Int)>32))
 (lf 6)
 nx113)
def Al7 [An A Int](p79_0:List Bq)(p79_1:Ab)(p79_2:List Yb)(p79_3:List Bool):A:=d4 L p79_0 p79_1 p79_2 p79_3 (bd (Vt L p79_0 p79_1 p79_2 p79_3 (L+24) 0 0) λo64=>Zw L o64)
def Aak(p79_0:List Bq)(p79_1:Ab)(p79_2:List Yb)(p79_3:List Bool):Option Int:=Al7 L p79_0 p79_1 p79_2 p79_3
theorem Bb0(p79_0:List Bq)(p79_1:Ab)(p79_2:List Yb)(p79_3:List Bool):YO (Dx L) (L+24) 7 153 [lv (.bU p79_0),I 32,.bA 154 0 Apy] [(1,(Af p79_1)),Kk,Kj,(5,[.aL false false (.t9 p79_2) (.t4 p79_3)])] k=ob (Aak L p79_0 p79_1 p79_2 p79_3) (A9j p79_0 p79_1 p79_2 p79_3 k):=(Cf _ _ _ Yr _ _ _ _ _ _ _).trans (eE (d4 L p79_0 p79_1 p79_2 p79_3 (hq (Bjc L (KA (Dx L) (L+24) 6 Bm7 (rl [4,1,2,1]) (KJ Tryz.f153 k)) p79_0 p79_1 p79_2 p79_3 (L+24) (0,0)) λo64=>Zw L o64)))
def Au2(p1_0:Ab)(k:C3):Ck->Prop:=λo=>k (I o.1) [(1,(Af p1_0)),Kk,Kj,(5,[.aL false false (.t9 o.2.1) (.t4 o.2.2)])]
def Zx [An A Ck](o62:Ck)(p1_0:Ab)(o65:Int):A:=
 (cn (o65 != 0)
 (lf (o65,o62.2.1,o62.2.2))
 (gq ((0:Int)<=11)
 (gq (11<((12:Nat):Int))
 (bd (Ajg L p1_0) λr66=>
 (cn (r66 != 0)
 (lf (r66,o62.2.1,o62.2.2))
 (lf (0,o62.2.1,o62.2.2)))))))
def d5 [An A Ck](L:Nat)(p1_0:Ab)(o62:Ck)(nx114:Ck->A):A:=
 (cn (o62.1 != 0)
 (lf (o62.1,o62.2.1,o62.2.2))
 (gq ((0:Int)<=10)
 (gq (10<((12:Nat):Int))
 (nx114 o62))))
def Ak5 [An A Ck](p1_0:Ab)(o62:Ck):A:=d5 L p1_0 o62 (λo62=>bd (Aak L p1_0.bB p1_0 o62.2.1 o62.2.2) λo65=>Zx L o62 p1_0 o65)
def d3 [An A Ck](L:Nat)(p1_0:Ab)(o53:Ck)(nx111:Ck->A):A:=
 (cn (o53.1 != 0)
 (lf (o53.1,o53.2.1,o53.2.2))
 (gq ((0:Int)<=9)
 (gq (9<((12:Nat):Int))
 (nx111 o53))))
def Zs [An A Ck](p1_0:Ab)(o53:Ck):A:=d3 L p1_0 o53 (λo53=>bd (Aah L p1_0.aG p1_0 o53.2.1 o53.2.2) λo62=>Ak5 L p1_0 o62)
def Ayo(p1_0:Ab)(o52:Ck):C3:=(K1 (Dx L) (L+24) 6 1 4 As5.u.l ⟨[(6,Axg),(5,.mp 5),(4,lv (.t9 p1_0.aT)),(0,lv (.t9 p1_0.aT)),Alc,(3,I 0)],[(1,(Af p1_0)),Kk,Kj,(5,[.aL false false (.t9 o52.2.1) (.t4 o52.2.2)])],1006⟩ (some 7) (kN (KA (Dx L) (L+24) 6 As5 (rl [2,1]) (KJ Tryz.f127 (K1 (Dx L) (L+24) 7 1 4 Bm3.u.l ⟨[(5,lv (.t9 p1_0.aT)),(4,.loc 1 9),(3,.bA 127 0 Kz),(0,.loc 4 0),Yq,(2,I 0)],[(1,(Af p1_0)),Kk,Kj,(5,[.aL false false (.t9 o52.2.1) (.t4 o52.2.2)])],1006⟩ (some 6) (kN (KA (Dx L) (L+24) 7 Bm3 (rl [2,1]) (KJ Tryz.f147 (K1 (Dx L) (L+24) 8 1 2 Hp.u.l.u.l.l.w.l.l.u.l ⟨[(12,.bA 147 0 zq7),(2,I 0),(4,.bA 147 0 zq7),(6,.sl false 200 1 zq1),(7,I 12),(8,I 8),Asv,(10,.ref [.bA 147 0 zq7]),(11,.bA 147 0 zq7)],[(1,(Af p1_0)),Kk,Kj,(5,[.aL false false (.t9 o52.2.1) (.t4 o52.2.2)])],1006⟩ (some 13) (kN (I8 (EV (Dx L) (L+24) 8 Hp.u.l.u.l.l.w.l.l.u.r) (C6 1 (I8 (EV (Dx L) (L+24) 8 Hp.u.l.u.l.l.w.r) (Ic (Js (EV (Dx L) (L+24) 8 Hp.u.l.u.l.l) [0,2,6,7,8] [1,3,4,5] (L+15)) [0,2,6,7,8] [1,3,4,5] (A01 L k)))))))))))))))
theorem Bdl(p1_0:Ab)(o52:Ck)(o53:Ck):Au3 p1_0.aT p1_0 o52.2.1 o52.2.2 (Ayo L k p1_0 o52) o53=ob (Zs L p1_0 o53) (Au2 p1_0 k):=eE (d3 L p1_0 o53 (λo53=>hq (Bbx L (K1 (Dx L) (L+24) 7 1 4 Bm4.u.l ⟨[(5,.bA 150 0 Kz),(4,lv (.t47 p1_0.aG)),(3,.loc 1 10),(0,.loc 1 0),Alc,(2,I 0)],[(1,(Af p1_0)),Kk,Kj,(5,[.aL false false (.t9 o53.2.1) (.t4 o53.2.2)])],1006⟩ (some 6) (kN (KA (Dx L) (L+24) 7 Bm4 (rl [2,1]) (KJ Tryz.f148 (K1 (Dx L) (L+24) 8 1 2 Hp.u.l.u.l.l.w.l.l.u.l ⟨[(12,.bA 148 0 zq8),(2,I 0),(4,.bA 148 0 zq8),(6,.sl false 200 1 zq1),(7,I 12),(8,I 9),Asv,(10,.ref [.bA 148 0 zq8]),(11,.bA 148 0 zq8)],[(1,(Af p1_0)),Kk,Kj,(5,[.aL false false (.t9 o53.2.1) (.t4 o53.2.2)])],1006⟩ (some 13) (kN (I8 (EV (Dx L) (L+24) 8 Hp.u.l.u.l.l.w.l.l.u.r) (C6 1 (I8 (EV (Dx L) (L+24) 8 Hp.u.l.u.l.l.w.r) (Ic (Js (EV (Dx L) (L+24) 8 Hp.u.l.u.l.l) [0,2,6,7,8] [1,3,4,5] (L+14)) [0,2,6,7,8] [1,3,4,5] (C6 0 (I8 (EV (Dx L) (L+24) 8 Hp.u.r) (KJ Tryz.f129 k))))))))))))) p1_0.aG p1_0 o53.2.1 o53.2.2) λo62=>d5 L p1_0 o62 (λo62=>hq (Bb0 L (K1 (Dx L) (L+24) 7 1 4 Bm6.u.l ⟨[(4,.bA 154 0 Apy),(3,lv (.bU p1_0.bB)),(2,.loc 1 11),(0,.loc 1 0),(1,I 0)],[(1,(Af p1_0)),Kk,Kj,(5,[.aL false false (.t9 o62.2.1) (.t4 o62.2.2)])],1006⟩ (some 5) (kN (KA (Dx L) (L+24) 7 Bm6 (rl [2,1]) (KJ Tryz.f152 (K1 (Dx L) (L+24) 8 1 2 Hp.u.l.u.l.l.w.l.l.u.l ⟨[(12,.bA 152 0 Apy),(2,I 0),(4,.bA 152 0 Apy),(6,.sl false 200 1 zq1),(7,I 12),(8,I 10),Asv,(10,.ref [.bA 152 0 Apy]),(11,.bA 152 0 Apy)],[(1,(Af p1_0)),Kk,Kj,(5,[.aL false false (.t9 o62.2.1) (.t4 o62.2.2)])],1006⟩ (some 13) (kN (I8 (EV (Dx L) (L+24) 8 Hp.u.l.u.l.l.w.l.l.u.r) (C6 1 (I8 (EV (Dx L) (L+24) 8 Hp.u.l.u.l.l.w.r) (Ic (Js (EV (Dx L) (L+24) 8 Hp.u.l.u.l.l) [0,2,6,7,8] [1,3,4,5] (L+13)) [0,2,6,7,8] [1,3,4,5] (C6 0 (I8 (EV (Dx L) (L+24) 8 Hp.u.r) (KJ Tryz.f129 k))))))))))))) p1_0.bB p1_0 o62.2.1 o62.2.2) λo65=>Zx L o62 p1_0 o65)))
def Z8 [An A Ck](L:Nat)(p1_0:Ab)(o52:Ck)(nx102:Ck->A):A:=
 (cn (o52.1 != 0)
 (lf (o52.1,o52.2.1,o52.2.2))
 (gq ((0:Int)<=8)
 (gq (8<((12:Nat):Int))
 (nx102 o52))))
def Ak4 [An A Ck](p1_0:Ab)(o52:Ck):A:=Z8 L p1_0 o52 (λo52=>bd (I7 L p1_0.aT p1_0 o52.2.1 o52.2.2) λo53=>Zs L p1_0 o53)
def Z7 [An A Ck](L:Nat)(p1_0:Ab)(o51:Ck)(nx101:Ck->A):A:=
 (cn (o51.1 != 0)
 (lf (o51.1,o51.2.1,o51.2.2))
 (gq ((0:Int)<=7)
 (gq (7<((12:Nat):Int))
 (nx101 o51))))
def Ak3 [An A Ck](p1_0:Ab)(o51:Ck):A:=Z7 L p1_0 o51 (λo51=>bd (I7 L p1_0.aW p1_0 o51.2.1 o51.2.2) λo52=>Ak4 L p1_0 o52)
def Z6 [An A Ck](L:Nat)(p1_0:Ab)(o50:Ck)(nx100:Ck->A):A:=
 (cn (o50.1 != 0)
 (lf (o50.1,o50.2.1,o50.2.2))
 (gq ((0:Int)<=6)
 (gq (6<((12:Nat):Int))
 (nx100 o50))))
def Abk [An A Ck](p1_0:Ab)(o50:Ck):A:=Z6 L p1_0 o50 (λo50=>bd (I7 L p1_0.aS p1_0 o50.2.1 o50.2.2) λo51=>Ak3 L p1_0 o51)
def A2u(p1_0:Ab)(o49:Ck):C3:=(K1 (Dx L) (L+24) 6 1 4 As5.u.l ⟨[(6,Axg),(5,.mp 5),(4,lv (.t9 p1_0.aR)),(0,lv (.t9 p1_0.aR)),Alc,(3,I 0)],[(1,(Af p1_0)),Kk,Kj,(5,[.aL false false (.t9 o49.2.1) (.t4 o49.2.2)])],1006⟩ (some 7) (kN (KA (Dx L) (L+24) 6 As5 (rl [2,1]) (KJ Tryz.f127 (K1 (Dx L) (L+24) 7 1 4 Bm0.u.l ⟨[(5,lv (.t9 p1_0.aR)),(4,.loc 1 6),(3,.bA 127 0 Kz),(0,.loc 4 0),Yq,(2,I 0)],[(1,(Af p1_0)),Kk,Kj,(5,[.aL false false (.t9 o49.2.1) (.t4 o49.2.2)])],1006⟩ (some 6) (kN (KA (Dx L) (L+24) 7 Bm0 (rl [2,1]) (KJ Tryz.f144 (K1 (Dx L) (L+24) 8 1 2 Hp.u.l.u.l.l.w.l.l.u.l ⟨[(12,.bA 144 0 zq7),(2,I 0),(4,.bA 144 0 zq7),(6,.sl false 200 1 zq1),(7,I 12),(8,I 5),Asv,(10,.ref [.bA 144 0 zq7]),(11,.bA 144 0 zq7)],[(1,(Af p1_0)),Kk,Kj,(5,[.aL false false (.t9 o49.2.1) (.t4 o49.2.2)])],1006⟩ (some 13) (kN (I8 (EV (Dx L) (L+24) 8 Hp.u.l.u.l.l.w.l.l.u.r) (C6 1 (I8 (EV (Dx L) (L+24) 8 Hp.u.l.u.l.l.w.r) (Ic (Js (EV (Dx L) (L+24) 8 Hp.u.l.u.l.l) [0,2,6,7,8] [1,3,4,5] (L+18)) [0,2,6,7,8] [1,3,4,5] (A01 L k)))))))))))))))
theorem Bjz(p1_0:Ab)(o49:Ck)(o50:Ck):Au3 p1_0.aR p1_0 o49.2.1 o49.2.2 (A2u L k p1_0 o49) o50=ob (Abk L p1_0 o50) (Au2 p1_0 k):=eE (Z6 L p1_0 o50 (λo50=>hq (Aj7 L (K1 (Dx L) (L+24) 6 1 4 As5.u.l ⟨[(6,Axg),(5,.mp 5),(4,lv (.t9 p1_0.aS)),(0,lv (.t9 p1_0.aS)),Alc,(3,I 0)],[(1,(Af p1_0)),Kk,Kj,(5,[.aL false false (.t9 o50.2.1) (.t4 o50.2.2)])],1006⟩ (some 7) (kN (KA (Dx L) (L+24) 6 As5 (rl [2,1]) (KJ Tryz.f127 (K1 (Dx L) (L+24) 7 1 4 Bm1.u.l ⟨[(5,lv (.t9 p1_0.aS)),(4,.loc 1 7),(3,.bA 127 0 Kz),(0,.loc 4 0),Yq,(2,I 0)],[(1,(Af p1_0)),Kk,Kj,(5,[.aL false false (.t9 o50.2.1) (.t4 o50.2.2)])],1006⟩ (some 6) (kN (KA (Dx L) (L+24) 7 Bm1 (rl [2,1]) (KJ Tryz.f145 (K1 (Dx L) (L+24) 8 1 2 Hp.u.l.u.l.l.w.l.l.u.l ⟨[(12,.bA 145 0 zq7),(2,I 0),(4,.bA 145 0 zq7),(6,.sl false 200 1 zq1),(7,I 12),(8,I 6),Asv,(10,.ref [.bA 145 0 zq7]),(11,.bA 145 0 zq7)],[(1,(Af p1_0)),Kk,Kj,(5,[.aL false false (.t9 o50.2.1) (.t4 o50.2.2)])],1006⟩ (some 13) (kN (I8 (EV (Dx L) (L+24) 8 Hp.u.l.u.l.l.w.l.l.u.r) (C6 1 (I8 (EV (Dx L) (L+24) 8 Hp.u.l.u.l.l.w.r) (Ic (Js (EV (Dx L) (L+24) 8 Hp.u.l.u.l.l) [0,2,6,7,8] [1,3,4,5] (L+17)) [0,2,6,7,8] [1,3,4,5] (C6 0 (I8 (EV (Dx L) (L+24) 8 Hp.u.r) (KJ Tryz.f129 k))))))))))))))))) p1_0.aS p1_0 o50.2.1 o50.2.2) λo51=>Z7 L p1_0 o51 (λo51=>hq (Aj7 L (K1 (Dx L) (L+24) 6 1 4 As5.u.l ⟨[(6,Axg),(5,.mp 5),(4,lv (.t9 p1_0.aW)),(0,lv (.t9 p1_0.aW)),Alc,(3,I 0)],[(1,(Af p1_0)),Kk,Kj,(5,[.aL false false (.t9 o51.2.1) (.t4 o51.2.2)])],1006⟩ (some 7) (kN (KA (Dx L) (L+24) 6 As5 (rl [2,1]) (KJ Tryz.f127 (K1 (Dx L) (L+24) 7 1 4 Bm2.u.l ⟨[(5,lv (.t9 p1_0.aW)),(4,.loc 1 8),(3,.bA 127 0 Kz),(0,.loc 4 0),Yq,(2,I 0)],[(1,(Af p1_0)),Kk,Kj,(5,[.aL false false (.t9 o51.2.1) (.t4 o51.2.2)])],1006⟩ (some 6) (kN (KA (Dx L) (L+24) 7 Bm2 (rl [2,1]) (KJ Tryz.f146 (K1 (Dx L) (L+24) 8 1 2 Hp.u.l.u.l.l.w.l.l.u.l ⟨[(12,.bA 146 0 zq7),(2,I 0),(4,.bA 146 0 zq7),(6,.sl false 200 1 zq1),(7,I 12),(8,I 7),Asv,(10,.ref [.bA 146 0 zq7]),(11,.bA 146 0 zq7)],[(1,(Af p1_0)),Kk,Kj,(5,[.aL false false (.t9 o51.2.1) (.t4 o51.2.2)])],1006⟩ (some 13) (kN (I8 (EV (Dx L) (L+24) 8 Hp.u.l.u.l.l.w.l.l.u.r) (C6 1 (I8 (EV (Dx L) (L+24) 8 Hp.u.l.u.l.l.w.r) (Ic (Js (EV (Dx L) (L+24) 8 Hp.u.l.u.l.l) [0,2,6,7,8] [1,3,4,5] (L+16)) [0,2,6,7,8] [1,3,4,5] (C6 0 (I8 (EV (Dx L) (L+24) 8 Hp.u.r) (KJ Tryz.f129 k))))))))))))))))) p1_0.aW p1_0 o51.2.1 o51.2.2) λo52=>Z8 L p1_0 o52 (λo52=>ho (Aj7 L (Ayo L k p1_0 o52) p1_0.aT p1_0 o52.2.1 o52.2.2) λo53=>Bdl L k p1_0 o52 o53))))
def Acg [An A Ck](L:Nat)(p1_0:Ab)(o49:Ck)(nx99:Ck->A):A:=
 (cn (o49.1 != 0)
 (lf (o49.1,o49.2.1,o49.2.2))
 (gq ((0:Int)<=5)
 (gq (5<((12:Nat):Int))
 (nx99 o49))))
def Am7 [An A Ck](p1_0:Ab)(o49:Ck):A:=Acg L p1_0 o49 (λo49=>bd (I7 L p1_0.aR p1_0 o49.2.1 o49.2.2) λo50=>Abk L p1_0 o50)
def Acf [An A Ck](L:Nat)(p1_0:Ab)(o42:Ck)(nx98:Ck->A):A:=
 (cn (o42.1 != 0)
 (lf (o42.1,o42.2.1,o42.2.2))
 (gq ((0:Int)<=4)
 (gq (4<((12:Nat):Int))
 (nx98 o42))))
def Am6 [An A Ck](p1_0:Ab)(o42:Ck):A:=Acf L p1_0 o42 (λo42=>bd (I7 L p1_0.aV p1_0 o42.2.1 o42.2.2) λo49=>Am7 L p1_0 o49)
def Acb [An A Ck](L:Nat)(p1_0:Ab)(o31:Ck)(nx93:Ck->A):A:=
 (cn (o31.1 != 0)
 (lf (o31.1,o31.2.1,o31.2.2))
 (gq ((0:Int)<=3)
 (gq (3<((12:Nat):Int))
 (nx93 o31))))
def Abe [An A Ck](p1_0:Ab)(o31:Ck):A:=Acb L p1_0 o31 (λo31=>bd (Aad L p1_0.aZ p1_0 o31.2.1 o31.2.2) λo42=>Am6 L p1_0 o42)
def A2t(p1_0:Ab)(o21:Ck):C3:=(K1 (Dx L) (L+24) 7 1 4 Bmv.u.l ⟨[(5,.bA 139 0 Kz),(4,lv (.t213 p1_0.aJ)),(3,.loc 1 3),(0,.loc 1 0),Alc,(2,I 0)],[(1,(Af p1_0)),Kk,Kj,(5,[.aL false false (.t9 o21.2.1) (.t4 o21.2.2)])],1006⟩ (some 6) (kN (KA (Dx L) (L+24) 7 Bmv (rl [2,1]) (KJ Tryz.f137 (K1 (Dx L) (L+24) 8 1 2 Hp.u.l.u.l.l.w.l.l.u.l ⟨[(12,.bA 137 0 zq8),(2,I 0),(4,.bA 137 0 zq8),(6,.sl false 200 1 zq1),(7,I 12),(8,I 2),Asv,(10,.ref [.bA 137 0 zq8]),(11,.bA 137 0 zq8)],[(1,(Af p1_0)),Kk,Kj,(5,[.aL false false (.t9 o21.2.1) (.t4 o21.2.2)])],1006⟩ (some 13) (kN (I8 (EV (Dx L) (L+24) 8 Hp.u.l.u.l.l.w.l.l.u.r) (C6 1 (I8 (EV (Dx L) (L+24) 8 Hp.u.l.u.l.l.w.r) (Ic (Js (EV (Dx L) (L+24) 8 Hp.u.l.u.l.l) [0,2,6,7,8] [1,3,4,5] (L+21)) [0,2,6,7,8] [1,3,4,5] (A01 L k)))))))))))
theorem Bjy(p1_0:Ab)(o21:Ck)(o31:Ck):A2b p1_0.aJ p1_0 o21.2.1 o21.2.2 (A2t L k p1_0 o21) o31=ob (Abe L p1_0 o31) (Au2 p1_0 k):=eE (Acb L p1_0 o31 (λo31=>hq (Bbt L (K1 (Dx L) (L+24) 7 1 4 Bmx.u.l ⟨[(5,.bA 142 0 Kz),(4,lv (.bR p1_0.aZ)),(3,.loc 1 4),(0,.loc 1 0),Alc,(2,I 0)],[(1,(Af p1_0)),Kk,Kj,(5,[.aL false false (.t9 o31.2.1) (.t4 o31.2.2)])],1006⟩ (some 6) (kN (KA (Dx L) (L+24) 7 Bmx (rl [2,1]) (KJ Tryz.f140 (K1 (Dx L) (L+24) 8 1 2 Hp.u.l.u.l.l.w.l.l.u.l ⟨[(12,.bA 140 0 zq8),(2,I 0),(4,.bA 140 0 zq8),(6,.sl false 200 1 zq1),(7,I 12),(8,I 3),Asv,(10,.ref [.bA 140 0 zq8]),(11,.bA 140 0 zq8)],[(1,(Af p1_0)),Kk,Kj,(5,[.aL false false (.t9 o31.2.1) (.t4 o31.2.2)])],1006⟩ (some 13) (kN (I8 (EV (Dx L) (L+24) 8 Hp.u.l.u.l.l.w.l.l.u.r) (C6 1 (I8 (EV (Dx L) (L+24) 8 Hp.u.l.u.l.l.w.r) (Ic (Js (EV (Dx L) (L+24) 8 Hp.u.l.u.l.l) [0,2,6,7,8] [1,3,4,5] (L+20)) [0,2,6,7,8] [1,3,4,5] (C6 0 (I8 (EV (Dx L) (L+24) 8 Hp.u.r) (KJ Tryz.f129 k))))))))))))) p1_0.aZ p1_0 o31.2.1 o31.2.2) λo42=>Acf L p1_0 o42 (λo42=>hq (Aj7 L (K1 (Dx L) (L+24) 6 1 4 As5.u.l ⟨[(6,Axg),(5,.mp 5),(4,lv (.t9 p1_0.aV)),(0,lv (.t9 p1_0.aV)),Alc,(3,I 0)],[(1,(Af p1_0)),Kk,Kj,(5,[.aL false false (.t9 o42.2.1) (.t4 o42.2.2)])],1006⟩ (some 7) (kN (KA (Dx L) (L+24) 6 As5 (rl [2,1]) (KJ Tryz.f127 (K1 (Dx L) (L+24) 7 1 4 Bmz.u.l ⟨[(5,lv (.t9 p1_0.aV)),(4,.loc 1 5),(3,.bA 127 0 Kz),(0,.loc 4 0),Yq,(2,I 0)],[(1,(Af p1_0)),Kk,Kj,(5,[.aL false false (.t9 o42.2.1) (.t4 o42.2.2)])],1006⟩ (some 6) (kN (KA (Dx L) (L+24) 7 Bmz (rl [2,1]) (KJ Tryz.f143 (K1 (Dx L) (L+24) 8 1 2 Hp.u.l.u.l.l.w.l.l.u.l ⟨[(12,.bA 143 0 zq7),(2,I 0),(4,.bA 143 0 zq7),(6,.sl false 200 1 zq1),(7,I 12),(8,I 4),Asv,(10,.ref [.bA 143 0 zq7]),(11,.bA 143 0 zq7)],[(1,(Af p1_0)),Kk,Kj,(5,[.aL false false (.t9 o42.2.1) (.t4 o42.2.2)])],1006⟩ (some 13) (kN (I8 (EV (Dx L) (L+24) 8 Hp.u.l.u.l.l.w.l.l.u.r) (C6 1 (I8 (EV (Dx L) (L+24) 8 Hp.u.l.u.l.l.w.r) (Ic (Js (EV (Dx L) (L+24) 8 Hp.u.l.u.l.l) [0,2,6,7,8] [1,3,4,5] (L+19)) [0,2,6,7,8] [1,3,4,5] (C6 0 (I8 (EV (Dx L) (L+24) 8 Hp.u.r) (KJ Tryz.f129 k))))))))))))))))) p1_0.aV p1_0 o42.2.1 o42.2.2) λo49=>Acg L p1_0 o49 (λo49=>ho (Aj7 L (A2u L k p1_0 o49) p1_0.aR p1_0 o49.2.1 o49.2.2) λo50=>Bjz L k p1_0 o49 o50))))
def Ab8 [An A Ck](L:Nat)(p1_0:Ab)(o21:Ck)(nx84:Ck->A):A:=
 (cn (o21.1 != 0)
 (lf (o21.1,o21.2.1,o21.2.2))
 (gq ((0:Int)<=2)
 (gq (2<((12:Nat):Int))
 (nx84 o21))))
def Am5 [An A Ck](p1_0:Ab)(o21:Ck):A:=Ab8 L p1_0 o21 (λo21=>bd (Aaa L p1_0.aJ p1_0 o21.2.1 o21.2.2) λo31=>Abe L p1_0 o31)
def Ab5 [An A Ck](L:Nat)(p1_0:Ab)(o10:Ck)(nx75:Ck->A):A:=
 (cn (o10.1 != 0)
 (lf (o10.1,o10.2.1,o10.2.2))
 (gq ((0:Int)<=1)
 (gq (1<((12:Nat):Int))
 (nx75 o10))))
def Am4 [An A Ck](p1_0:Ab)(o10:Ck):A:=Ab5 L p1_0 o10 (λo10=>bd (z6 L p1_0.aI p1_0 o10.2.1 o10.2.2) λo21=>Am5 L p1_0 o21)
def Ab2 [An A Ck](L:Nat)(p1_0:Ab)(nx66:A):A:=
 (gq ((0:Int)<=0)
 (gq (0<((12:Nat):Int))
 nx66))
def Ao0 [An A Ck](p1_0:Ab):A:=Ab2 L p1_0 (bd (y7 L p1_0.aX p1_0) λo10=>Am4 L p1_0 o10)
def Ad0(p1_0:Ab):Option Ck:=Ao0 L p1_0
theorem Bh7(p1_0:Ab):YO (Dx L) (L+24) 9 129 [.sl false 200 1 zq1] [(1,(Af p1_0)),Kk,Kj,(5,zq6)] k=ob (Ad0 L p1_0) (Au2 p1_0 k):=(Cf _ _ _ Yr _ _ _ _ _ _ _).trans (eE (Ab2 L p1_0 (hq (Bbk L (K1 (Dx L) (L+24) 6 1 4 c76.u.l ⟨[(7,A8o),(6,.mp 5),(5,lv (.t83 p1_0.aX)),(0,.mp 5),(1,lv (.t83 p1_0.aX)),(4,I 0)],[(1,(Af p1_0)),Kk,Kj,(5,zq6)],1006⟩ (some 8) (kN (KA (Dx L) (L+24) 6 c76 (rl [2,1]) (KJ Tryz.f76 (K1 (Dx L) (L+24) 7 1 4 Bmr.u.l ⟨[(5,lv (.t83 p1_0.aX)),(4,.loc 1 1),(3,.mp 5),(0,.loc 3 0),Yq,(2,I 0)],[(1,(Af p1_0)),Kk,Kj,(5,zq6)],1006⟩ (some 6) (kN (KA (Dx L) (L+24) 7 Bmr (rl [2,1]) (KJ Tryz.f130 (K1 (Dx L) (L+24) 8 1 2 Hp.u.l.u.l.l.w.l.l.u.l ⟨[(12,.bA 130 0 Ai8),(2,I 0),(4,.bA 130 0 Ai8),(6,.sl false 200 1 zq1),(7,I 12),(8,I 0),Asv,(10,.ref [.bA 130 0 Ai8]),(11,.bA 130 0 Ai8)],[(1,(Af p1_0)),Kk,Kj,(5,zq6)],1006⟩ (some 13) (kN (I8 (EV (Dx L) (L+24) 8 Hp.u.l.u.l.l.w.l.l.u.r) (C6 1 (I8 (EV (Dx L) (L+24) 8 Hp.u.l.u.l.l.w.r) (Ic (Js (EV (Dx L) (L+24) 8 Hp.u.l.u.l.l) [0,2,6,7,8] [1,3,4,5] (L+23)) [0,2,6,7,8] [1,3,4,5] (C6 0 (I8 (EV (Dx L) (L+24) 8 Hp.u.r) (KJ Tryz.f129 k))))))))))))))))) p1_0.aX p1_0) λo10=>Ab5 L p1_0 o10 (λo10=>hq (Bbn L (K1 (Dx L) (L+24) 7 1 4 Bms.u.l ⟨[(5,.bA 133 0 Ai8),(4,lv (.t206 p1_0.aI)),(3,.loc 1 2),(0,.loc 1 0),Alc,(2,I 0)],[(1,(Af p1_0)),Kk,Kj,(5,[.aL false false (.t9 o10.2.1) (.t4 o10.2.2)])],1006⟩ (some 6) (kN (KA (Dx L) (L+24) 7 Bms (rl [2,1]) (KJ Tryz.f131 (K1 (Dx L) (L+24) 8 1 2 Hp.u.l.u.l.l.w.l.l.u.l ⟨[(12,.bA 131 0 zq8),(2,I 0),(4,.bA 131 0 zq8),(6,.sl false 200 1 zq1),(7,I 12),(8,I 1),Asv,(10,.ref [.bA 131 0 zq8]),(11,.bA 131 0 zq8)],[(1,(Af p1_0)),Kk,Kj,(5,[.aL false false (.t9 o10.2.1) (.t4 o10.2.2)])],1006⟩ (some 13) (kN (I8 (EV (Dx L) (L+24) 8 Hp.u.l.u.l.l.w.l.l.u.r) (C6 1 (I8 (EV (Dx L) (L+24) 8 Hp.u.l.u.l.l.w.r) (Ic (Js (EV (Dx L) (L+24) 8 Hp.u.l.u.l.l) [0,2,6,7,8] [1,3,4,5] (L+22)) [0,2,6,7,8] [1,3,4,5] (C6 0 (I8 (EV (Dx L) (L+24) 8 Hp.u.r) (KJ Tryz.f129 k))))))))))))) p1_0.aI p1_0 o10.2.1 o10.2.2) λo21=>Ab8 L p1_0 o21 (λo21=>ho (Bbq L (A2t L k p1_0 o21) p1_0.aJ p1_0 o21.2.1 o21.2.2) λo31=>Bjy L k p1_0 o21 o31)))))
def Zy [An A Int](L:Nat)(o67:Ck):A:=
 (lf o67.1)
def Au9 [An A Int](a0:Ab):A:=(bd (Ad0 L a0) λo67=>Zy L o67)
def Ajh(a0:Ab):Option Int:=Au9 L a0
def X80:Fs:=E1 I 80 Cr (Ajh L) λa0 r h=>hF Tryz.func80 (C:=Dx L) (oS _) (L+24) (λkk=>eE ((hq (Bh7 L (K1 (Dx L) (L+24) 9 1 14 c80.w.u.l ⟨[(19,.sl true 200 1 zq1),(18,.bA 156 0 Apy),(17,.bA 152 0 Apy),(16,.bA 148 0 zq8),(15,.bA 147 0 zq7),(14,.bA 146 0 zq7),(13,.bA 145 0 zq7),(12,.bA 144 0 zq7),(11,.bA 143 0 zq7),(10,.bA 140 0 zq8),(9,.bA 137 0 zq8),(8,.bA 131 0 zq8),(7,.bA 130 0 Ai8),Yq,(2,I 0),Qe,(4,.loc 4 0)],[(1,(Af a0)),Kk,Kj,(5,zq6)],0⟩ (some 20) (kN (KA (Dx L) (L+24) 9 c80 (rl [6,1]) (KE Tryz.f80 kk)))) a0) λo67=>Zy L o67))) h
end
end Go.Proofs.YtgacplpjamkieaaGreat.Ev
