import Derived.Test.YthjhkpgonleelaaGreatDoorLG1
import Derived.Test.YthjhkpgonleelaaGreatDoorLG2
import Derived.Test.YthjhkpgonleelaaGreatDoorLG3
set_option maxRecDepth 100000
set_option maxHeartbeats 4000000
set_option linter.unusedVariables false
set_option linter.unusedSimpArgs false
set_option linter.unnecessarySimpa false
namespace Go.Proofs.YthjhkpgonleelaaGreatDoor.Ev
open Go An
noncomputable section
variable {A:Type} (L n:Nat) (kk:K5) (K:Ef) (k:Dj)
def c56:=CC Tryz.f56
def c86:=CC Tryz.f86
def c87:=CC Tryz.f87
def c88:=CC Tryz.f88
def c89:=CC Tryz.f89
def c90:=CC Tryz.f90
def c91:=CC Tryz.f91
def c92:=CC Tryz.f92
def c93:=CC Tryz.f93
def c94:=CC Tryz.f94
def c98:=CC Tryz.f98
def c99:=CC Tryz.f99
def B5d:=CC Tryz.f100
def B5e:=CC Tryz.f101
def Blw:=CC Tryz.f102
def B5f:=CC Tryz.f103
def B5g:=CC Tryz.f104
def B5h:=CC Tryz.f105
def B5i:=CC Tryz.f106
def B5j:=CC Tryz.f107
def B5k:=CC Tryz.f108
def B5l:=CC Tryz.f109
def Blx:=CC Tryz.f110
def B5m:=CC Tryz.f111
def B5n:=CC Tryz.f113
def B5o:=CC Tryz.f114
def c60:=CC Tryz.f60
def E9:Bc:=oL [X35 L,X95 L,X96 L,X97 L,B81 L,B82 L,B83 L,By3 L,By4 L]
def Bgb:Ef:=(Gi 0 (Qr (EV (E9 L) (L+24) 8 c90.u.r) (KJ Tryz.f90 k)))
def Bqe(p47_0:Yb)(p47_1:Aa)(p47_2:List Yb)(p47_3:List Bool)(p47_4:Aw)(p47_5:Aw)(k:Dj):Df->Prop:=λo=>k (I o.1) [(1,(Ae p47_1)),Qb,Qa,(5,[.aO false false (.t9 o.2.1) (.t4 o.2.2)]),(1014,(Ck p47_4)),(2018,(Ck p47_5))]
def Alx [An A Df](p47_0:Yb)(p47_1:Aa)(p47_2:List Yb)(p47_3:List Bool)(p47_4:Aw)(p47_5:Aw):A:=
 (bd (Cu L p47_0) λr1=>
 (cn (r1 != 0)
 (lf (r1,p47_2,p47_3))
 (fq (p47_2.findIdx? λb=>p47_0 == b) (λi2=>
 (cn (p47_3.getD i2 default)
 (lf (4,p47_2,p47_3))
 (fq (p47_2.findIdx? λb=>p47_0 == b) (λi3=>
 (lf (0,p47_2,(p47_3.set i3 true))))
 (lf (0,(p47_2++ [p47_0]),(p47_3++ [true]))))))
 (fq (p47_2.findIdx? λb=>p47_0 == b) (λi4=>
 (lf (0,p47_2,(p47_3.set i4 true))))
 (lf (0,(p47_2++ [p47_0]),(p47_3++ [true])))))))
def Ab1(p47_0:Yb)(p47_1:Aa)(p47_2:List Yb)(p47_3:List Bool)(p47_4:Aw)(p47_5:Aw):Option Df:=Alx L p47_0 p47_1 p47_2 p47_3 p47_4 p47_5
theorem Bs6(p47_0:Yb)(p47_1:Aa)(p47_2:List Yb)(p47_3:List Bool)(p47_4:Aw)(p47_5:Aw):YO (E9 L) (L+24) 4 59 [.mp 5,S p47_0] [(1,(Ae p47_1)),Qb,Qa,(5,[.aO false false (.t9 p47_2) (.t4 p47_3)]),(1014,(Ck p47_4)),(2018,(Ck p47_5))] k=ob (Ab1 L p47_0 p47_1 p47_2 p47_3 p47_4 p47_5) (Bqe p47_0 p47_1 p47_2 p47_3 p47_4 p47_5 k):=(C4 _ _ _ jn4 _ _ _ _ _ _ _).trans (eE (Alx L p47_0 p47_1 p47_2 p47_3 p47_4 p47_5))
def Bqd(p45_0:Aw)(p45_1:Aa)(p45_2:List Yb)(p45_3:List Bool)(p45_4:Aw)(k:Dj):Df->Prop:=λo=>k (I o.1) [(1,(Ae p45_1)),Qb,Qa,(5,[.aO false false (.t9 o.2.1) (.t4 o.2.2)]),(1014,(Ck p45_4)),(2018,(Ck p45_0))]
def Acn [An A Df](p45_0:Aw)(o5:Df):A:=
 (cn (o5.1 != 0)
 (lf (o5.1,o5.2.1,o5.2.2))
 (bd (Jf L p45_0.bM) λr6=>
 (cn (!r6)
 (lf (1,o5.2.1,o5.2.2))
 (bd (Rw L p45_0.bM p45_0.N) λr7=>
 (cn (!r7)
 (lf (2,o5.2.1,o5.2.2))
 (lf (0,o5.2.1,o5.2.2)))))))
def Alw [An A Df](p45_0:Aw)(p45_1:Aa)(p45_2:List Yb)(p45_3:List Bool)(p45_4:Aw):A:=(bd (Ab1 L p45_0.aF p45_1 p45_2 p45_3 p45_4 p45_0) λo5=>Acn L p45_0 o5)
def L2(p45_0:Aw)(p45_1:Aa)(p45_2:List Yb)(p45_3:List Bool)(p45_4:Aw):Option Df:=Alw L p45_0 p45_1 p45_2 p45_3 p45_4
theorem Bs5(p45_0:Aw)(p45_1:Aa)(p45_2:List Yb)(p45_3:List Bool)(p45_4:Aw):YO (E9 L) (L+24) 5 87 [.mp 5,.agg (Ck p45_0)] [(1,(Ae p45_1)),Qb,Qa,(5,[.aO false false (.t9 p45_2) (.t4 p45_3)]),(1014,(Ck p45_4))] k=ob (L2 L p45_0 p45_1 p45_2 p45_3 p45_4) (Bqd p45_0 p45_1 p45_2 p45_3 p45_4 k):=(C4 _ _ _ jn4 _ _ _ _ _ _ _).trans (eE ((hq (Bs6 L (Md (E9 L) (L+24) 4 1 4 c87.u.l.l ⟨[(8,S p45_0.aF),(7,.loc 2018 0),(6,.mp 5),(0,.mp 5),(3,.loc 2018 0),(4,I 0)],[(1,(Ae p45_1)),Qb,Qa,(5,[.aO false false (.t9 p45_2) (.t4 p45_3)]),(1014,(Ck p45_4)),(2018,(Ck p45_0))],2015⟩ (some 9) (kN (KA (E9 L) (L+24) 4 c87 (rl [2,2]) (KJ Tryz.f87 k)))) p45_0.aF p45_1 p45_2 p45_3 p45_4 p45_0) λo5=>Acn L p45_0 o5)))
def B3q(p41_0:List Aw)(p41_1:Aa)(v:Tu4):St:=⟨[(0,.any),(1,.any),(2,Bpb),(6,I v.1),(14,lv (.dO p41_0)),(15,I (p41_0.length:Int)),(16,I v.2.1)],[(1,(Ae p41_1)),Qb,Qa,(5,[.aO false false (.t9 v.2.2.1) (.t4 v.2.2.2)])],1006⟩
def V1 [An A Po](L:Nat)(Af:Int)(Ah:Int)(rec:Int->Int->List Yb->List Bool->A)(o8:Df):A:=
 (cn (o8.1 != 0)
 (lf (0,o8.1,Af,o8.2.1,o8.2.2))
 (rec Ah (Bu (Af+1)) o8.2.1 o8.2.2))
def Wh [An A Po](L:Nat)(p41_0:List Aw)(p41_1:Aa)(rec:Int->Int->List Yb->List Bool->A)(Ah:Int)(Af:Int)(C1:List Yb)(C2:List Bool)(nx64:Int->(List Yb)->(List Bool)->Int->A):A:=
 (lw Af p41_0
 (nx64 Af C1 C2 Ah)
 (lf (1,Ah,Af,C1,C2)))
def Afi [An A Po](p41_0:List Aw)(p41_1:Aa)(rec:Int->Int->List Yb->List Bool->A)(Ah:Int)(Af:Int)(C1:List Yb)(C2:List Bool):A:=Wh L p41_0 p41_1 rec Ah Af C1 C2 (λAf C1 C2 Ah=>bd (L2 L (gD p41_0 Af) p41_1 C1 C2 (gD p41_0 Af)) λo8=>V1 L Af Ah rec o8)
def Kg(L:Nat)(p41_0:List Aw)(p41_1:Aa):Nat->Int->Int->List Yb->List Bool->Option Po
 |0,_,_,_,_=>none
 |n+1,Ah,Af,C1,C2=>Afi L p41_0 p41_1 (Kg L p41_0 p41_1 n) Ah Af C1 C2
theorem B1q(p41_0:List Aw)(p41_1:Aa):LP (EV (E9 L) (L+24) 5 c86.w.l.u.l.l) [0,1,2,6,14,15,16] [1,3,4,5] (B3q p41_0 p41_1) [.ret,.exit 0] (λn v=>Kg L p41_0 p41_1 n v.1 v.2.1 v.2.2.1 v.2.2.2) K:=lE (λ_=>rfl) λn v ih=>eE (Wh L p41_0 p41_1 (λAh Af C1 C2=>re (ih (Ah,Af,C1,C2))) v.1 v.2.1 v.2.2.1 v.2.2.2 (λAf C1 C2 Ah=>hq (Bs5 L (Md (E9 L) (L+24) 5 1 3 c86.w.l.u.l.l.w.l.l.u.l ⟨[(21,.agg (Ck (gD p41_0 Af))),(20,Bpb),(2,Bpb),(6,I Ah),Bpf,(14,lv (.dO p41_0)),(15,I (p41_0.length:Int)),(16,I Af),(17,B (decide (Af<(p41_0.length:Int)))),(18,.ref (Ck (gD p41_0 Af))),(19,.agg (Ck (gD p41_0 Af)))],[(1,(Ae p41_1)),Qb,Qa,(5,[.aO false false (.t9 C1) (.t4 C2)]),(1014,(Ck (gD p41_0 Af)))],1006⟩ (some 22) (kN (KA (E9 L) (L+24) 5 c86.w.l.u.l.l (rl [4,2,2,1]) (Hf (Io (EV (E9 L) (L+24) 5 c86.w.l.u.l.l) [0,1,2,6,14,15,16] [1,3,4,5] n) [0,1,2,6,14,15,16] [1,3,4,5] K)))) (gD p41_0 Af) p41_1 C1 C2 (gD p41_0 Af)) λo8=>V1 L Af Ah (λAh Af C1 C2=>re (ih (Ah,Af,C1,C2))) o8))
def Bqc(p41_0:List Aw)(p41_1:Aa)(k:Dj):Df->Prop:=λo=>k (I o.1) [(1,(Ae p41_1)),Qb,Qa,(5,[.aO false false (.t9 o.2.1) (.t4 o.2.2)])]
def Amn [An A Df](L:Nat)(o9:Nat×Tu4):A:=
 (sl o9.1 [(lf (o9.2.1,o9.2.2.2.1,o9.2.2.2.2)),
 (lf (0,o9.2.2.2.1,o9.2.2.2.2))])
def Am4 [An A Df](L:Nat)(p41_0:List Aw)(p41_1:Aa)(nx65:A):A:=
 (cn (decide ((p41_0.length:Int)>32))
 (lf (6,[],[]))
 nx65)
def Axo [An A Df](p41_0:List Aw)(p41_1:Aa):A:=Am4 L p41_0 p41_1 (bd (Kg L p41_0 p41_1 (L+24) 0 0 [] []) λo9=>Amn L o9)
def Ab0(p41_0:List Aw)(p41_1:Aa):Option Df:=Axo L p41_0 p41_1
theorem Bs4(p41_0:List Aw)(p41_1:Aa):YO (E9 L) (L+24) 6 86 [lv (.dO p41_0),I 32,Bpb] [(1,(Ae p41_1)),Qb,Qa,(5,zq8)] k=ob (Ab0 L p41_0 p41_1) (Bqc p41_0 p41_1 k):=(C4 _ _ _ jn4 _ _ _ _ _ _ _).trans (eE (Am4 L p41_0 p41_1 (hq (B1q L (KA (E9 L) (L+24) 5 c86 (rl [4,1,2,1]) (KJ Tryz.f86 k)) p41_0 p41_1 (L+24) (0,0,[],[])) λo9=>Amn L o9)))
def Bqh(p54_0:Yb)(p54_1:Aa)(p54_2:List Yb)(p54_3:List Bool)(p54_4:Aj)(p54_5:Aj)(k:Dj):Df->Prop:=λo=>k (I o.1) [(1,(Ae p54_1)),Qb,Qa,(5,[.aO false false (.t9 o.2.1) (.t4 o.2.2)]),(1014,(B3 p54_4)),(2018,(B3 p54_5))]
def Alz [An A Df](p54_0:Yb)(p54_1:Aa)(p54_2:List Yb)(p54_3:List Bool)(p54_4:Aj)(p54_5:Aj):A:=
 (bd (Cu L p54_0) λr11=>
 (cn (r11 != 0)
 (lf (r11,p54_2,p54_3))
 (fq (p54_2.findIdx? λb=>p54_0 == b) (λi12=>
 (cn (p54_3.getD i12 default)
 (lf (4,p54_2,p54_3))
 (fq (p54_2.findIdx? λb=>p54_0 == b) (λi13=>
 (lf (0,p54_2,(p54_3.set i13 true))))
 (lf (0,(p54_2++ [p54_0]),(p54_3++ [true]))))))
 (fq (p54_2.findIdx? λb=>p54_0 == b) (λi14=>
 (lf (0,p54_2,(p54_3.set i14 true))))
 (lf (0,(p54_2++ [p54_0]),(p54_3++ [true])))))))
def Ab3(p54_0:Yb)(p54_1:Aa)(p54_2:List Yb)(p54_3:List Bool)(p54_4:Aj)(p54_5:Aj):Option Df:=Alz L p54_0 p54_1 p54_2 p54_3 p54_4 p54_5
theorem Bs9(p54_0:Yb)(p54_1:Aa)(p54_2:List Yb)(p54_3:List Bool)(p54_4:Aj)(p54_5:Aj):YO (E9 L) (L+24) 5 59 [.mp 5,S p54_0] [(1,(Ae p54_1)),Qb,Qa,(5,[.aO false false (.t9 p54_2) (.t4 p54_3)]),(1014,(B3 p54_4)),(2018,(B3 p54_5))] k=ob (Ab3 L p54_0 p54_1 p54_2 p54_3 p54_4 p54_5) (Bqh p54_0 p54_1 p54_2 p54_3 p54_4 p54_5 k):=(C4 _ _ _ jn4 _ _ _ _ _ _ _).trans (eE (Alz L p54_0 p54_1 p54_2 p54_3 p54_4 p54_5))
def Bqg(p52_0:Aj)(p52_1:Aa)(p52_2:List Yb)(p52_3:List Bool)(p52_4:Aj)(k:Dj):Df->Prop:=λo=>k (I o.1) [(1,(Ae p52_1)),Qb,Qa,(5,[.aO false false (.t9 o.2.1) (.t4 o.2.2)]),(1014,(B3 p52_4)),(2018,(B3 p52_0))]
def Aco [An A Df](p52_0:Aj)(p52_1:Aa)(o15:Df):A:=
 (cn (o15.1 != 0)
 (lf (o15.1,o15.2.1,o15.2.2))
 (bd (Be L p52_0.Units 0 1000) λr16=>
 (cn (!r16)
 (lf (2,o15.2.1,o15.2.2))
 (bd (Va L p52_0) λr17=>
 (cn (r17 != 0)
 (lf (r17,o15.2.1,o15.2.2))
 (bd (U9 L p52_1 p52_0.bQ) λr18=>
 (lf (r18,o15.2.1,o15.2.2))))))))
def Aly [An A Df](p52_0:Aj)(p52_1:Aa)(p52_2:List Yb)(p52_3:List Bool)(p52_4:Aj):A:=(bd (Ab3 L p52_0.aF p52_1 p52_2 p52_3 p52_4 p52_0) λo15=>Aco L p52_0 p52_1 o15)
def L3(p52_0:Aj)(p52_1:Aa)(p52_2:List Yb)(p52_3:List Bool)(p52_4:Aj):Option Df:=Aly L p52_0 p52_1 p52_2 p52_3 p52_4
theorem Bs8(p52_0:Aj)(p52_1:Aa)(p52_2:List Yb)(p52_3:List Bool)(p52_4:Aj):YO (E9 L) (L+24) 6 94 [.agg (B3 p52_0),.loc 3 0,.loc 1 0] [(1,(Ae p52_1)),Qb,Qa,(5,[.aO false false (.t9 p52_2) (.t4 p52_3)]),(1014,(B3 p52_4))] k=ob (L3 L p52_0 p52_1 p52_2 p52_3 p52_4) (Bqg p52_0 p52_1 p52_2 p52_3 p52_4 k):=(C4 _ _ _ jn4 _ _ _ _ _ _ _).trans (eE ((hq (Bs9 L (Md (E9 L) (L+24) 5 1 4 c94.u.l.l ⟨[(9,S p52_0.aF),(8,.loc 2018 0),(7,.mp 5),Aw0,(2,.loc 1 0),(3,.loc 2018 0),(4,I 0)],[(1,(Ae p52_1)),Qb,Qa,(5,[.aO false false (.t9 p52_2) (.t4 p52_3)]),(1014,(B3 p52_4)),(2018,(B3 p52_0))],2015⟩ (some 10) (kN (KA (E9 L) (L+24) 5 c94 (rl [2,2]) (KJ Tryz.f94 k)))) p52_0.aF p52_1 p52_2 p52_3 p52_4 p52_0) λo15=>Aco L p52_0 p52_1 o15)))
def B3r(p48_0:List Aj)(p48_1:Aa)(v:Tu4):St:=⟨[(0,.any),(1,.any),(2,.bI 94 0 Auq),(6,I v.1),(14,lv (.t86 p48_0)),(15,I (p48_0.length:Int)),(16,I v.2.1)],[(1,(Ae p48_1)),Qb,Qa,(5,[.aO false false (.t9 v.2.2.1) (.t4 v.2.2.2)])],1006⟩
def V2 [An A Po](L:Nat)(Bp:Int)(Bz:Int)(rec:Int->Int->List Yb->List Bool->A)(o19:Df):A:=
 (cn (o19.1 != 0)
 (lf (0,o19.1,Bp,o19.2.1,o19.2.2))
 (rec Bz (Bu (Bp+1)) o19.2.1 o19.2.2))
def Wi [An A Po](L:Nat)(p48_0:List Aj)(p48_1:Aa)(rec:Int->Int->List Yb->List Bool->A)(Bz:Int)(Bp:Int)(Q0:List Yb)(Ra:List Bool)(nx73:Int->(List Yb)->(List Bool)->Int->A):A:=
 (lw Bp p48_0
 (nx73 Bp Q0 Ra Bz)
 (lf (1,Bz,Bp,Q0,Ra)))
def Afj [An A Po](p48_0:List Aj)(p48_1:Aa)(rec:Int->Int->List Yb->List Bool->A)(Bz:Int)(Bp:Int)(Q0:List Yb)(Ra:List Bool):A:=Wi L p48_0 p48_1 rec Bz Bp Q0 Ra (λBp Q0 Ra Bz=>bd (L3 L (gD p48_0 Bp) p48_1 Q0 Ra (gD p48_0 Bp)) λo19=>V2 L Bp Bz rec o19)
def Kh(L:Nat)(p48_0:List Aj)(p48_1:Aa):Nat->Int->Int->List Yb->List Bool->Option Po
 |0,_,_,_,_=>none
 |n+1,Bz,Bp,Q0,Ra=>Afj L p48_0 p48_1 (Kh L p48_0 p48_1 n) Bz Bp Q0 Ra
theorem B1r(p48_0:List Aj)(p48_1:Aa):LP (EV (E9 L) (L+24) 6 c93.w.l.u.l.l) [0,1,2,6,14,15,16] [1,3,4,5] (B3r p48_0 p48_1) [.ret,.exit 0] (λn v=>Kh L p48_0 p48_1 n v.1 v.2.1 v.2.2.1 v.2.2.2) K:=lE (λ_=>rfl) λn v ih=>eE (Wi L p48_0 p48_1 (λBz Bp Q0 Ra=>re (ih (Bz,Bp,Q0,Ra))) v.1 v.2.1 v.2.2.1 v.2.2.2 (λBp Q0 Ra Bz=>hq (Bs8 L (Md (E9 L) (L+24) 6 1 3 c93.w.l.u.l.l.w.l.l.u.l ⟨[(21,.agg (B3 (gD p48_0 Bp))),(20,.bI 94 0 Auq),(2,.bI 94 0 Auq),(6,I Bz),Bpf,(14,lv (.t86 p48_0)),(15,I (p48_0.length:Int)),(16,I Bp),(17,B (decide (Bp<(p48_0.length:Int)))),(18,.ref (B3 (gD p48_0 Bp))),(19,.agg (B3 (gD p48_0 Bp)))],[(1,(Ae p48_1)),Qb,Qa,(5,[.aO false false (.t9 Q0) (.t4 Ra)]),(1014,(B3 (gD p48_0 Bp)))],1006⟩ (some 22) (kN (KA (E9 L) (L+24) 6 c93.w.l.u.l.l (rl [4,2,2,1]) (Hf (Io (EV (E9 L) (L+24) 6 c93.w.l.u.l.l) [0,1,2,6,14,15,16] [1,3,4,5] n) [0,1,2,6,14,15,16] [1,3,4,5] K)))) (gD p48_0 Bp) p48_1 Q0 Ra (gD p48_0 Bp)) λo19=>V2 L Bp Bz (λBz Bp Q0 Ra=>re (ih (Bz,Bp,Q0,Ra))) o19))
def Bqf(p48_0:List Aj)(p48_1:Aa)(p48_2:List Yb)(p48_3:List Bool)(k:Dj):Df->Prop:=λo=>k (I o.1) [(1,(Ae p48_1)),Qb,Qa,(5,[.aO false false (.t9 o.2.1) (.t4 o.2.2)])]
def Amp [An A Df](L:Nat)(o20:Nat×Tu4):A:=
 (sl o20.1 [(lf (o20.2.1,o20.2.2.2.1,o20.2.2.2.2)),
 (lf (0,o20.2.2.2.1,o20.2.2.2.2))])
def Am5 [An A Df](L:Nat)(p48_0:List Aj)(p48_1:Aa)(p48_2:List Yb)(p48_3:List Bool)(nx74:A):A:=
 (cn (decide ((p48_0.length:Int)>32))
 (lf (6,p48_2,p48_3))
 nx74)
def Axp [An A Df](p48_0:List Aj)(p48_1:Aa)(p48_2:List Yb)(p48_3:List Bool):A:=Am5 L p48_0 p48_1 p48_2 p48_3 (bd (Kh L p48_0 p48_1 (L+24) 0 0 p48_2 p48_3) λo20=>Amp L o20)
def Ab2(p48_0:List Aj)(p48_1:Aa)(p48_2:List Yb)(p48_3:List Bool):Option Df:=Axp L p48_0 p48_1 p48_2 p48_3
theorem Bs7(p48_0:List Aj)(p48_1:Aa)(p48_2:List Yb)(p48_3:List Bool):YO (E9 L) (L+24) 7 93 [lv (.t86 p48_0),I 32,.bI 94 0 Auq] [(1,(Ae p48_1)),Qb,Qa,(5,[.aO false false (.t9 p48_2) (.t4 p48_3)])] k=ob (Ab2 L p48_0 p48_1 p48_2 p48_3) (Bqf p48_0 p48_1 p48_2 p48_3 k):=(C4 _ _ _ jn4 _ _ _ _ _ _ _).trans (eE (Am5 L p48_0 p48_1 p48_2 p48_3 (hq (B1r L (KA (E9 L) (L+24) 6 c93 (rl [4,1,2,1]) (KJ Tryz.f93 k)) p48_0 p48_1 (L+24) (0,0,p48_2,p48_3)) λo20=>Amp L o20)))
def Bqj(p61_0:Yb)(p61_1:Aa)(p61_2:List Yb)(p61_3:List Bool)(p61_4:Ar)(p61_5:Ar)(k:Dj):Df->Prop:=λo=>k (I o.1) [(1,(Ae p61_1)),Qb,Qa,(5,[.aO false false (.t9 o.2.1) (.t4 o.2.2)]),(1014,(C0 p61_4)),(2017,(C0 p61_5))]
def Al1 [An A Df](p61_0:Yb)(p61_1:Aa)(p61_2:List Yb)(p61_3:List Bool)(p61_4:Ar)(p61_5:Ar):A:=
 (bd (Cu L p61_0) λr22=>
 (cn (r22 != 0)
 (lf (r22,p61_2,p61_3))
 (fq (p61_2.findIdx? λb=>p61_0 == b) (λi23=>
 (cn (p61_3.getD i23 default)
 (lf (4,p61_2,p61_3))
 (fq (p61_2.findIdx? λb=>p61_0 == b) (λi24=>
 (lf (0,p61_2,(p61_3.set i24 true))))
 (lf (0,(p61_2++ [p61_0]),(p61_3++ [true]))))))
 (fq (p61_2.findIdx? λb=>p61_0 == b) (λi25=>
 (lf (0,p61_2,(p61_3.set i25 true))))
 (lf (0,(p61_2++ [p61_0]),(p61_3++ [true])))))))
def Ab5(p61_0:Yb)(p61_1:Aa)(p61_2:List Yb)(p61_3:List Bool)(p61_4:Ar)(p61_5:Ar):Option Df:=Al1 L p61_0 p61_1 p61_2 p61_3 p61_4 p61_5
theorem Btc(p61_0:Yb)(p61_1:Aa)(p61_2:List Yb)(p61_3:List Bool)(p61_4:Ar)(p61_5:Ar):YO (E9 L) (L+24) 5 59 [.mp 5,S p61_0] [(1,(Ae p61_1)),Qb,Qa,(5,[.aO false false (.t9 p61_2) (.t4 p61_3)]),(1014,(C0 p61_4)),(2017,(C0 p61_5))] k=ob (Ab5 L p61_0 p61_1 p61_2 p61_3 p61_4 p61_5) (Bqj p61_0 p61_1 p61_2 p61_3 p61_4 p61_5 k):=(C4 _ _ _ jn4 _ _ _ _ _ _ _).trans (eE (Al1 L p61_0 p61_1 p61_2 p61_3 p61_4 p61_5))
def Bqi(p59_0:Ar)(p59_1:Aa)(p59_2:List Yb)(p59_3:List Bool)(p59_4:Ar)(k:Dj):Df->Prop:=λo=>k (I o.1) [(1,(Ae p59_1)),Qb,Qa,(5,[.aO false false (.t9 o.2.1) (.t4 o.2.2)]),(1014,(C0 p59_4)),(2017,(C0 p59_0))]
def Acp [An A Df](p59_0:Ar)(o26:Df):A:=
 (cn (o26.1 != 0)
 (lf (o26.1,o26.2.1,o26.2.2))
 (bd (Be L p59_0.Room 1 1000) λr27=>
 (cn (!r27)
 (lf (2,o26.2.1,o26.2.2))
 (jp (.cn (decide (p59_0.dM<1))
 (.lf true)
 (.lf (decide (p59_0.dM>3)))) (λb28=>
 (cn b28
 (lf (1,o26.2.1,o26.2.2))
 (lf (0,o26.2.1,o26.2.2))))))))
def Al0 [An A Df](p59_0:Ar)(p59_1:Aa)(p59_2:List Yb)(p59_3:List Bool)(p59_4:Ar):A:=(bd (Ab5 L p59_0.aF p59_1 p59_2 p59_3 p59_4 p59_0) λo26=>Acp L p59_0 o26)
def L4(p59_0:Ar)(p59_1:Aa)(p59_2:List Yb)(p59_3:List Bool)(p59_4:Ar):Option Df:=Al0 L p59_0 p59_1 p59_2 p59_3 p59_4
theorem Btb(p59_0:Ar)(p59_1:Aa)(p59_2:List Yb)(p59_3:List Bool)(p59_4:Ar):YO (E9 L) (L+24) 6 100 [.agg (C0 p59_0),.loc 3 0] [(1,(Ae p59_1)),Qb,Qa,(5,[.aO false false (.t9 p59_2) (.t4 p59_3)]),(1014,(C0 p59_4))] k=ob (L4 L p59_0 p59_1 p59_2 p59_3 p59_4) (Bqi p59_0 p59_1 p59_2 p59_3 p59_4 k):=(C4 _ _ _ jn4 _ _ _ _ _ _ _).trans (eE ((hq (Btc L (Md (E9 L) (L+24) 5 1 4 B5d.u.l.l ⟨[(7,S p59_0.aF),(6,Bbu),(5,.mp 5),Aw0,(2,Bbu),(3,I 0)],[(1,(Ae p59_1)),Qb,Qa,(5,[.aO false false (.t9 p59_2) (.t4 p59_3)]),(1014,(C0 p59_4)),(2017,(C0 p59_0))],2015⟩ (some 8) (kN (KA (E9 L) (L+24) 5 B5d (rl [2,2]) (KJ Tryz.f100 k)))) p59_0.aF p59_1 p59_2 p59_3 p59_4 p59_0) λo26=>Acp L p59_0 o26)))
def B3s(p55_0:List Ar)(p55_1:Aa)(v:Tu4):St:=⟨[(0,.any),(1,.any),(2,.bI 100 0 Ae7),(6,I v.1),(14,lv (.t89 p55_0)),(15,I (p55_0.length:Int)),(16,I v.2.1)],[(1,(Ae p55_1)),Qb,Qa,(5,[.aO false false (.t9 v.2.2.1) (.t4 v.2.2.2)])],1006⟩
def V3 [An A Po](L:Nat)(Ss:Int)(D7:Int)(rec:Int->Int->List Yb->List Bool->A)(o29:Df):A:=
 (cn (o29.1 != 0)
 (lf (0,o29.1,Ss,o29.2.1,o29.2.2))
 (rec D7 (Bu (Ss+1)) o29.2.1 o29.2.2))
def Wj [An A Po](L:Nat)(p55_0:List Ar)(p55_1:Aa)(rec:Int->Int->List Yb->List Bool->A)(D7:Int)(Ss:Int)(E7:List Yb)(Rb:List Bool)(nx82:Int->(List Yb)->(List Bool)->Int->A):A:=
 (lw Ss p55_0
 (nx82 Ss E7 Rb D7)
 (lf (1,D7,Ss,E7,Rb)))
def Afk [An A Po](p55_0:List Ar)(p55_1:Aa)(rec:Int->Int->List Yb->List Bool->A)(D7:Int)(Ss:Int)(E7:List Yb)(Rb:List Bool):A:=Wj L p55_0 p55_1 rec D7 Ss E7 Rb (λSs E7 Rb D7=>bd (L4 L (gD p55_0 Ss) p55_1 E7 Rb (gD p55_0 Ss)) λo29=>V3 L Ss D7 rec o29)
def Ki(L:Nat)(p55_0:List Ar)(p55_1:Aa):Nat->Int->Int->List Yb->List Bool->Option Po
 |0,_,_,_,_=>none
 |n+1,D7,Ss,E7,Rb=>Afk L p55_0 p55_1 (Ki L p55_0 p55_1 n) D7 Ss E7 Rb
theorem B1s(p55_0:List Ar)(p55_1:Aa):LP (EV (E9 L) (L+24) 6 c99.w.l.u.l.l) [0,1,2,6,14,15,16] [1,3,4,5] (B3s p55_0 p55_1) [.ret,.exit 0] (λn v=>Ki L p55_0 p55_1 n v.1 v.2.1 v.2.2.1 v.2.2.2) K:=lE (λ_=>rfl) λn v ih=>eE (Wj L p55_0 p55_1 (λD7 Ss E7 Rb=>re (ih (D7,Ss,E7,Rb))) v.1 v.2.1 v.2.2.1 v.2.2.2 (λSs E7 Rb D7=>hq (Btb L (Md (E9 L) (L+24) 6 1 3 c99.w.l.u.l.l.w.l.l.u.l ⟨[(21,.agg (C0 (gD p55_0 Ss))),(20,.bI 100 0 Ae7),(2,.bI 100 0 Ae7),(6,I D7),Bpf,(14,lv (.t89 p55_0)),(15,I (p55_0.length:Int)),(16,I Ss),(17,B (decide (Ss<(p55_0.length:Int)))),(18,.ref (C0 (gD p55_0 Ss))),(19,.agg (C0 (gD p55_0 Ss)))],[(1,(Ae p55_1)),Qb,Qa,(5,[.aO false false (.t9 E7) (.t4 Rb)]),(1014,(C0 (gD p55_0 Ss)))],1006⟩ (some 22) (kN (KA (E9 L) (L+24) 6 c99.w.l.u.l.l (rl [4,2,2,1]) (Hf (Io (EV (E9 L) (L+24) 6 c99.w.l.u.l.l) [0,1,2,6,14,15,16] [1,3,4,5] n) [0,1,2,6,14,15,16] [1,3,4,5] K)))) (gD p55_0 Ss) p55_1 E7 Rb (gD p55_0 Ss)) λo29=>V3 L Ss D7 (λD7 Ss E7 Rb=>re (ih (D7,Ss,E7,Rb))) o29))
def Bhm(p55_0:List Ar)(p55_1:Aa)(p55_2:List Yb)(p55_3:List Bool)(k:Dj):Df->Prop:=λo=>k (I o.1) [(1,(Ae p55_1)),Qb,Qa,(5,[.aO false false (.t9 o.2.1) (.t4 o.2.2)])]
def Amr [An A Df](L:Nat)(o30:Nat×Tu4):A:=
 (sl o30.1 [(lf (o30.2.1,o30.2.2.2.1,o30.2.2.2.2)),
 (lf (0,o30.2.2.2.1,o30.2.2.2.2))])
def Am6 [An A Df](L:Nat)(p55_0:List Ar)(p55_1:Aa)(p55_2:List Yb)(p55_3:List Bool)(nx83:A):A:=
 (cn (decide ((p55_0.length:Int)>32))
 (lf (6,p55_2,p55_3))
 nx83)
def Axq [An A Df](p55_0:List Ar)(p55_1:Aa)(p55_2:List Yb)(p55_3:List Bool):A:=Am6 L p55_0 p55_1 p55_2 p55_3 (bd (Ki L p55_0 p55_1 (L+24) 0 0 p55_2 p55_3) λo30=>Amr L o30)
def Ab4(p55_0:List Ar)(p55_1:Aa)(p55_2:List Yb)(p55_3:List Bool):Option Df:=Axq L p55_0 p55_1 p55_2 p55_3
theorem Bta(p55_0:List Ar)(p55_1:Aa)(p55_2:List Yb)(p55_3:List Bool):YO (E9 L) (L+24) 7 99 [lv (.t89 p55_0),I 32,.bI 100 0 Ae7] [(1,(Ae p55_1)),Qb,Qa,(5,[.aO false false (.t9 p55_2) (.t4 p55_3)])] k=ob (Ab4 L p55_0 p55_1 p55_2 p55_3) (Bhm p55_0 p55_1 p55_2 p55_3 k):=(C4 _ _ _ jn4 _ _ _ _ _ _ _).trans (eE (Am6 L p55_0 p55_1 p55_2 p55_3 (hq (B1s L (KA (E9 L) (L+24) 6 c99 (rl [4,1,2,1]) (KJ Tryz.f99 k)) p55_0 p55_1 (L+24) (0,0,p55_2,p55_3)) λo30=>Amr L o30)))
def Bqm(p68_0:Yb)(p68_1:Aa)(p68_2:List Yb)(p68_3:List Bool)(p68_4:Bg)(p68_5:Bg)(k:Dj):Df->Prop:=λo=>k (I o.1) [(1,(Ae p68_1)),Qb,Qa,(5,[.aO false false (.t9 o.2.1) (.t4 o.2.2)]),(1014,(Db p68_4)),(2017,(Db p68_5))]
def Al3 [An A Df](p68_0:Yb)(p68_1:Aa)(p68_2:List Yb)(p68_3:List Bool)(p68_4:Bg)(p68_5:Bg):A:=
 (bd (Cu L p68_0) λr32=>
 (cn (r32 != 0)
 (lf (r32,p68_2,p68_3))
 (fq (p68_2.findIdx? λb=>p68_0 == b) (λi33=>
 (cn (p68_3.getD i33 default)
 (lf (4,p68_2,p68_3))
 (fq (p68_2.findIdx? λb=>p68_0 == b) (λi34=>
 (lf (0,p68_2,(p68_3.set i34 true))))
 (lf (0,(p68_2++ [p68_0]),(p68_3++ [true]))))))
 (fq (p68_2.findIdx? λb=>p68_0 == b) (λi35=>
 (lf (0,p68_2,(p68_3.set i35 true))))
 (lf (0,(p68_2++ [p68_0]),(p68_3++ [true])))))))
def Ab7(p68_0:Yb)(p68_1:Aa)(p68_2:List Yb)(p68_3:List Bool)(p68_4:Bg)(p68_5:Bg):Option Df:=Al3 L p68_0 p68_1 p68_2 p68_3 p68_4 p68_5
theorem Btf(p68_0:Yb)(p68_1:Aa)(p68_2:List Yb)(p68_3:List Bool)(p68_4:Bg)(p68_5:Bg):YO (E9 L) (L+24) 5 59 [.mp 5,S p68_0] [(1,(Ae p68_1)),Qb,Qa,(5,[.aO false false (.t9 p68_2) (.t4 p68_3)]),(1014,(Db p68_4)),(2017,(Db p68_5))] k=ob (Ab7 L p68_0 p68_1 p68_2 p68_3 p68_4 p68_5) (Bqm p68_0 p68_1 p68_2 p68_3 p68_4 p68_5 k):=(C4 _ _ _ jn4 _ _ _ _ _ _ _).trans (eE (Al3 L p68_0 p68_1 p68_2 p68_3 p68_4 p68_5))
def Bql(p66_0:Bg)(p66_1:Aa)(p66_2:List Yb)(p66_3:List Bool)(p66_4:Bg)(k:Dj):Df->Prop:=λo=>k (I o.1) [(1,(Ae p66_1)),Qb,Qa,(5,[.aO false false (.t9 o.2.1) (.t4 o.2.2)]),(1014,(Db p66_4)),(2017,(Db p66_0))]
def Acr [An A Df](p66_0:Bg)(o36:Df):A:=
 (cn (o36.1 != 0)
 (lf (o36.1,o36.2.1,o36.2.2))
 (bd (Be L p66_0.Length 1 1000) λr37=>
 (jb (.cn (!r37)
 (.lf true)
 (.bd (Be L p66_0.Step 1 1000) λr39=>
 (.lf (!r39)))) (λb38=>
 (cn b38
 (lf (2,o36.2.1,o36.2.2))
 (lf (0,o36.2.1,o36.2.2)))))))
def Al2 [An A Df](p66_0:Bg)(p66_1:Aa)(p66_2:List Yb)(p66_3:List Bool)(p66_4:Bg):A:=(bd (Ab7 L p66_0.aF p66_1 p66_2 p66_3 p66_4 p66_0) λo36=>Acr L p66_0 o36)
def L5(p66_0:Bg)(p66_1:Aa)(p66_2:List Yb)(p66_3:List Bool)(p66_4:Bg):Option Df:=Al2 L p66_0 p66_1 p66_2 p66_3 p66_4
theorem Bte(p66_0:Bg)(p66_1:Aa)(p66_2:List Yb)(p66_3:List Bool)(p66_4:Bg):YO (E9 L) (L+24) 6 103 [.agg (Db p66_0),.loc 3 0] [(1,(Ae p66_1)),Qb,Qa,(5,[.aO false false (.t9 p66_2) (.t4 p66_3)]),(1014,(Db p66_4))] k=ob (L5 L p66_0 p66_1 p66_2 p66_3 p66_4) (Bql p66_0 p66_1 p66_2 p66_3 p66_4 k):=(C4 _ _ _ jn4 _ _ _ _ _ _ _).trans (eE ((hq (Btf L (Md (E9 L) (L+24) 5 1 4 B5f.u.l.l ⟨[(7,S p66_0.aF),(6,Bbu),(5,.mp 5),Aw0,(2,Bbu),(3,I 0)],[(1,(Ae p66_1)),Qb,Qa,(5,[.aO false false (.t9 p66_2) (.t4 p66_3)]),(1014,(Db p66_4)),(2017,(Db p66_0))],2015⟩ (some 8) (kN (KA (E9 L) (L+24) 5 B5f (rl [2,2]) (KJ Tryz.f103 k)))) p66_0.aF p66_1 p66_2 p66_3 p66_4 p66_0) λo36=>Acr L p66_0 o36)))
def B3t(p62_0:List Bg)(p62_1:Aa)(v:Tu4):St:=⟨[(0,.any),(1,.any),(2,.bI 103 0 Ae7),(6,I v.1),(14,lv (.eF p62_0)),(15,I (p62_0.length:Int)),(16,I v.2.1)],[(1,(Ae p62_1)),Qb,Qa,(5,[.aO false false (.t9 v.2.2.1) (.t4 v.2.2.2)])],1006⟩
def V4 [An A Po](L:Nat)(Sf:Int)(Ma:Int)(rec:Int->Int->List Yb->List Bool->A)(o40:Df):A:=
 (cn (o40.1 != 0)
 (lf (0,o40.1,Sf,o40.2.1,o40.2.2))
 (rec Ma (Bu (Sf+1)) o40.2.1 o40.2.2))
def Wk [An A Po](L:Nat)(p62_0:List Bg)(p62_1:Aa)(rec:Int->Int->List Yb->List Bool->A)(Ma:Int)(Sf:Int)(Rc:List Yb)(E8:List Bool)(nx91:Int->(List Yb)->(List Bool)->Int->A):A:=
 (lw Sf p62_0
 (nx91 Sf Rc E8 Ma)
 (lf (1,Ma,Sf,Rc,E8)))
def Afl [An A Po](p62_0:List Bg)(p62_1:Aa)(rec:Int->Int->List Yb->List Bool->A)(Ma:Int)(Sf:Int)(Rc:List Yb)(E8:List Bool):A:=Wk L p62_0 p62_1 rec Ma Sf Rc E8 (λSf Rc E8 Ma=>bd (L5 L (gD p62_0 Sf) p62_1 Rc E8 (gD p62_0 Sf)) λo40=>V4 L Sf Ma rec o40)
def Kj(L:Nat)(p62_0:List Bg)(p62_1:Aa):Nat->Int->Int->List Yb->List Bool->Option Po
 |0,_,_,_,_=>none
 |n+1,Ma,Sf,Rc,E8=>Afl L p62_0 p62_1 (Kj L p62_0 p62_1 n) Ma Sf Rc E8
theorem B1t(p62_0:List Bg)(p62_1:Aa):LP (EV (E9 L) (L+24) 6 Blw.w.l.u.l.l) [0,1,2,6,14,15,16] [1,3,4,5] (B3t p62_0 p62_1) [.ret,.exit 0] (λn v=>Kj L p62_0 p62_1 n v.1 v.2.1 v.2.2.1 v.2.2.2) K:=lE (λ_=>rfl) λn v ih=>eE (Wk L p62_0 p62_1 (λMa Sf Rc E8=>re (ih (Ma,Sf,Rc,E8))) v.1 v.2.1 v.2.2.1 v.2.2.2 (λSf Rc E8 Ma=>hq (Bte L (Md (E9 L) (L+24) 6 1 3 Blw.w.l.u.l.l.w.l.l.u.l ⟨[(21,.agg (Db (gD p62_0 Sf))),(20,.bI 103 0 Ae7),(2,.bI 103 0 Ae7),(6,I Ma),Bpf,(14,lv (.eF p62_0)),(15,I (p62_0.length:Int)),(16,I Sf),(17,B (decide (Sf<(p62_0.length:Int)))),(18,.ref (Db (gD p62_0 Sf))),(19,.agg (Db (gD p62_0 Sf)))],[(1,(Ae p62_1)),Qb,Qa,(5,[.aO false false (.t9 Rc) (.t4 E8)]),(1014,(Db (gD p62_0 Sf)))],1006⟩ (some 22) (kN (KA (E9 L) (L+24) 6 Blw.w.l.u.l.l (rl [4,2,2,1]) (Hf (Io (EV (E9 L) (L+24) 6 Blw.w.l.u.l.l) [0,1,2,6,14,15,16] [1,3,4,5] n) [0,1,2,6,14,15,16] [1,3,4,5] K)))) (gD p62_0 Sf) p62_1 Rc E8 (gD p62_0 Sf)) λo40=>V4 L Sf Ma (λMa Sf Rc E8=>re (ih (Ma,Sf,Rc,E8))) o40))
def Bqk(p62_0:List Bg)(p62_1:Aa)(p62_2:List Yb)(p62_3:List Bool)(k:Dj):Df->Prop:=λo=>k (I o.1) [(1,(Ae p62_1)),Qb,Qa,(5,[.aO false false (.t9 o.2.1) (.t4 o.2.2)])]
def Ams [An A Df](L:Nat)(o41:Nat×Tu4):A:=
 (sl o41.1 [(lf (o41.2.1,o41.2.2.2.1,o41.2.2.2.2)),
 (lf (0,o41.2.2.2.1,o41.2.2.2.2))])
def Am7 [An A Df](L:Nat)(p62_0:List Bg)(p62_1:Aa)(p62_2:List Yb)(p62_3:List Bool)(nx92:A):A:=
 (cn (decide ((p62_0.length:Int)>32))
 (lf (6,p62_2,p62_3))
 nx92)
def Axr [An A Df](p62_0:List Bg)(p62_1:Aa)(p62_2:List Yb)(p62_3:List Bool):A:=Am7 L p62_0 p62_1 p62_2 p62_3 (bd (Kj L p62_0 p62_1 (L+24) 0 0 p62_2 p62_3) λo41=>Ams L o41)
def Ab6(p62_0:List Bg)(p62_1:Aa)(p62_2:List Yb)(p62_3:List Bool):Option Df:=Axr L p62_0 p62_1 p62_2 p62_3
theorem Btd(p62_0:List Bg)(p62_1:Aa)(p62_2:List Yb)(p62_3:List Bool):YO (E9 L) (L+24) 7 102 [lv (.eF p62_0),I 32,.bI 103 0 Ae7] [(1,(Ae p62_1)),Qb,Qa,(5,[.aO false false (.t9 p62_2) (.t4 p62_3)])] k=ob (Ab6 L p62_0 p62_1 p62_2 p62_3) (Bqk p62_0 p62_1 p62_2 p62_3 k):=(C4 _ _ _ jn4 _ _ _ _ _ _ _).trans (eE (Am7 L p62_0 p62_1 p62_2 p62_3 (hq (B1t L (KA (E9 L) (L+24) 6 Blw (rl [4,1,2,1]) (KJ Tryz.f102 k)) p62_0 p62_1 (L+24) (0,0,p62_2,p62_3)) λo41=>Ams L o41)))
def Bqn(p71_0:Yb)(p71_1:Aa)(p71_2:List Yb)(p71_3:List Bool)(k:Dj):Df->Prop:=λo=>k (I o.1) [(1,(Ae p71_1)),Qb,Qa,(5,[.aO false false (.t9 o.2.1) (.t4 o.2.2)])]
def Al4 [An A Df](p71_0:Yb)(p71_1:Aa)(p71_2:List Yb)(p71_3:List Bool):A:=
 (bd (Cu L p71_0) λr43=>
 (cn (r43 != 0)
 (lf (r43,p71_2,p71_3))
 (fq (p71_2.findIdx? λb=>p71_0 == b) (λi44=>
 (cn (p71_3.getD i44 default)
 (lf (4,p71_2,p71_3))
 (fq (p71_2.findIdx? λb=>p71_0 == b) (λi45=>
 (lf (0,p71_2,(p71_3.set i45 true))))
 (lf (0,(p71_2++ [p71_0]),(p71_3++ [true]))))))
 (fq (p71_2.findIdx? λb=>p71_0 == b) (λi46=>
 (lf (0,p71_2,(p71_3.set i46 true))))
 (lf (0,(p71_2++ [p71_0]),(p71_3++ [true])))))))
def L6(p71_0:Yb)(p71_1:Aa)(p71_2:List Yb)(p71_3:List Bool):Option Df:=Al4 L p71_0 p71_1 p71_2 p71_3
theorem Btg(p71_0:Yb)(p71_1:Aa)(p71_2:List Yb)(p71_3:List Bool):YO (E9 L) (L+24) 5 59 [.mp 5,S p71_0] [(1,(Ae p71_1)),Qb,Qa,(5,[.aO false false (.t9 p71_2) (.t4 p71_3)])] k=ob (L6 L p71_0 p71_1 p71_2 p71_3) (Bqn p71_0 p71_1 p71_2 p71_3 k):=(C4 _ _ _ jn4 _ _ _ _ _ _ _).trans (eE (Al4 L p71_0 p71_1 p71_2 p71_3))
def B3u(p69_0:List Yb)(p69_1:Aa)(v:Tu4):St:=⟨[(0,.any),(1,.any),(2,Bbr),(6,I v.1),(14,lv (.t9 p69_0)),(15,I (p69_0.length:Int)),(16,I v.2.1)],[(1,(Ae p69_1)),Qb,Qa,(5,[.aO false false (.t9 v.2.2.1) (.t4 v.2.2.2)])],1006⟩
def V5 [An A Po](L:Nat)(Ae4:Int)(Aal:Int)(rec:Int->Int->List Yb->List Bool->A)(o47:Df):A:=
 (cn (o47.1 != 0)
 (lf (0,o47.1,Ae4,o47.2.1,o47.2.2))
 (rec Aal (Bu (Ae4+1)) o47.2.1 o47.2.2))
def Wl [An A Po](L:Nat)(p69_0:List Yb)(p69_1:Aa)(rec:Int->Int->List Yb->List Bool->A)(Aal:Int)(Ae4:Int)(Re:List Yb)(Rf:List Bool)(nx96:Int->(List Yb)->(List Bool)->Int->A):A:=
 (lw Ae4 p69_0
 (nx96 Ae4 Re Rf Aal)
 (lf (1,Aal,Ae4,Re,Rf)))
def Afm [An A Po](p69_0:List Yb)(p69_1:Aa)(rec:Int->Int->List Yb->List Bool->A)(Aal:Int)(Ae4:Int)(Re:List Yb)(Rf:List Bool):A:=Wl L p69_0 p69_1 rec Aal Ae4 Re Rf (λAe4 Re Rf Aal=>bd (L6 L (gD p69_0 Ae4) p69_1 Re Rf) λo47=>V5 L Ae4 Aal rec o47)
def Kk(L:Nat)(p69_0:List Yb)(p69_1:Aa):Nat->Int->Int->List Yb->List Bool->Option Po
 |0,_,_,_,_=>none
 |n+1,Aal,Ae4,Re,Rf=>Afm L p69_0 p69_1 (Kk L p69_0 p69_1 n) Aal Ae4 Re Rf
theorem B1u(p69_0:List Yb)(p69_1:Aa):LP (EV (E9 L) (L+24) 5 c89.w.l.u.l.l) [0,1,2,6,14,15,16] [1,3,4,5] (B3u p69_0 p69_1) [.ret,.exit 0] (λn v=>Kk L p69_0 p69_1 n v.1 v.2.1 v.2.2.1 v.2.2.2) K:=lE (λ_=>rfl) λn v ih=>eE (Wl L p69_0 p69_1 (λAal Ae4 Re Rf=>re (ih (Aal,Ae4,Re,Rf))) v.1 v.2.1 v.2.2.1 v.2.2.2 (λAe4 Re Rf Aal=>hq (Btg L (Md (E9 L) (L+24) 5 1 3 c89.w.l.u.l.l.w.l.l.u.l ⟨[(21,S (gD p69_0 Ae4)),(20,Bbr),(2,Bbr),(6,I Aal),(8,S (gD p69_0 Ae4)),(14,lv (.t9 p69_0)),(15,I (p69_0.length:Int)),(16,I Ae4),(17,B (decide (Ae4<(p69_0.length:Int)))),(18,.ref [S (gD p69_0 Ae4)]),(19,S (gD p69_0 Ae4))],[(1,(Ae p69_1)),Qb,Qa,(5,[.aO false false (.t9 Re) (.t4 Rf)])],1006⟩ (some 22) (kN (KA (E9 L) (L+24) 5 c89.w.l.u.l.l (rl [4,2,2,1]) (Hf (Io (EV (E9 L) (L+24) 5 c89.w.l.u.l.l) [0,1,2,6,14,15,16] [1,3,4,5] n) [0,1,2,6,14,15,16] [1,3,4,5] K)))) (gD p69_0 Ae4) p69_1 Re Rf) λo47=>V5 L Ae4 Aal (λAal Ae4 Re Rf=>re (ih (Aal,Ae4,Re,Rf))) o47))
def A80(p69_0:List Yb)(p69_1:Aa)(p69_2:List Yb)(p69_3:List Bool)(k:Dj):Df->Prop:=λo=>k (I o.1) [(1,(Ae p69_1)),Qb,Qa,(5,[.aO false false (.t9 o.2.1) (.t4 o.2.2)])]
def Amu [An A Df](L:Nat)(o48:Nat×Tu4):A:=
 (sl o48.1 [(lf (o48.2.1,o48.2.2.2.1,o48.2.2.2.2)),
 (lf (0,o48.2.2.2.1,o48.2.2.2.2))])
def Am8 [An A Df](L:Nat)(p69_0:List Yb)(p69_1:Aa)(p69_2:List Yb)(p69_3:List Bool)(nx97:A):A:=
 (cn (decide ((p69_0.length:Int)>32))
 (lf (6,p69_2,p69_3))
 nx97)
def Axs [An A Df](p69_0:List Yb)(p69_1:Aa)(p69_2:List Yb)(p69_3:List Bool):A:=Am8 L p69_0 p69_1 p69_2 p69_3 (bd (Kk L p69_0 p69_1 (L+24) 0 0 p69_2 p69_3) λo48=>Amu L o48)
def Ix(p69_0:List Yb)(p69_1:Aa)(p69_2:List Yb)(p69_3:List Bool):Option Df:=Axs L p69_0 p69_1 p69_2 p69_3
theorem Avq(p69_0:List Yb)(p69_1:Aa)(p69_2:List Yb)(p69_3:List Bool):YO (E9 L) (L+24) 6 89 [lv (.t9 p69_0),I 32,Bbr] [(1,(Ae p69_1)),Qb,Qa,(5,[.aO false false (.t9 p69_2) (.t4 p69_3)])] k=ob (Ix L p69_0 p69_1 p69_2 p69_3) (A80 p69_0 p69_1 p69_2 p69_3 k):=(C4 _ _ _ jn4 _ _ _ _ _ _ _).trans (eE (Am8 L p69_0 p69_1 p69_2 p69_3 (hq (B1u L (KA (E9 L) (L+24) 5 c89 (rl [4,1,2,1]) (KJ Tryz.f89 k)) p69_0 p69_1 (L+24) (0,0,p69_2,p69_3)) λo48=>Amu L o48)))
def Bqq(p78_0:Yb)(p78_1:Aa)(p78_2:List Yb)(p78_3:List Bool)(p78_4:Al)(p78_5:Al)(k:Dj):Df->Prop:=λo=>k (I o.1) [(1,(Ae p78_1)),Qb,Qa,(5,[.aO false false (.t9 o.2.1) (.t4 o.2.2)]),(1014,(Cp p78_4)),(2017,(Cp p78_5))]
def Al6 [An A Df](p78_0:Yb)(p78_1:Aa)(p78_2:List Yb)(p78_3:List Bool)(p78_4:Al)(p78_5:Al):A:=
 (bd (Cu L p78_0) λr54=>
 (cn (r54 != 0)
 (lf (r54,p78_2,p78_3))
 (fq (p78_2.findIdx? λb=>p78_0 == b) (λi55=>
 (cn (p78_3.getD i55 default)
 (lf (4,p78_2,p78_3))
 (fq (p78_2.findIdx? λb=>p78_0 == b) (λi56=>
 (lf (0,p78_2,(p78_3.set i56 true))))
 (lf (0,(p78_2++ [p78_0]),(p78_3++ [true]))))))
 (fq (p78_2.findIdx? λb=>p78_0 == b) (λi57=>
 (lf (0,p78_2,(p78_3.set i57 true))))
 (lf (0,(p78_2++ [p78_0]),(p78_3++ [true])))))))
def Ab9(p78_0:Yb)(p78_1:Aa)(p78_2:List Yb)(p78_3:List Bool)(p78_4:Al)(p78_5:Al):Option Df:=Al6 L p78_0 p78_1 p78_2 p78_3 p78_4 p78_5
theorem Btj(p78_0:Yb)(p78_1:Aa)(p78_2:List Yb)(p78_3:List Bool)(p78_4:Al)(p78_5:Al):YO (E9 L) (L+24) 5 59 [.mp 5,S p78_0] [(1,(Ae p78_1)),Qb,Qa,(5,[.aO false false (.t9 p78_2) (.t4 p78_3)]),(1014,(Cp p78_4)),(2017,(Cp p78_5))] k=ob (Ab9 L p78_0 p78_1 p78_2 p78_3 p78_4 p78_5) (Bqq p78_0 p78_1 p78_2 p78_3 p78_4 p78_5 k):=(C4 _ _ _ jn4 _ _ _ _ _ _ _).trans (eE (Al6 L p78_0 p78_1 p78_2 p78_3 p78_4 p78_5))
def Bqp(p76_0:Al)(p76_1:Aa)(p76_2:List Yb)(p76_3:List Bool)(p76_4:Al)(k:Dj):Df->Prop:=λo=>k (I o.1) [(1,(Ae p76_1)),Qb,Qa,(5,[.aO false false (.t9 o.2.1) (.t4 o.2.2)]),(1014,(Cp p76_4)),(2017,(Cp p76_0))]
def Aaf [An A Df](p76_0:Al)(o58:Df):A:=
 (cn (o58.1 != 0)
 (lf (o58.1,o58.2.1,o58.2.2))
 (bd (Xa L p76_0) λr59=>
 (lf (r59,o58.2.1,o58.2.2))))
def Al5 [An A Df](p76_0:Al)(p76_1:Aa)(p76_2:List Yb)(p76_3:List Bool)(p76_4:Al):A:=(bd (Ab9 L p76_0.aF p76_1 p76_2 p76_3 p76_4 p76_0) λo58=>Aaf L p76_0 o58)
def L7(p76_0:Al)(p76_1:Aa)(p76_2:List Yb)(p76_3:List Bool)(p76_4:Al):Option Df:=Al5 L p76_0 p76_1 p76_2 p76_3 p76_4
theorem Bti(p76_0:Al)(p76_1:Aa)(p76_2:List Yb)(p76_3:List Bool)(p76_4:Al):YO (E9 L) (L+24) 6 111 [.agg (Cp p76_0),.loc 3 0] [(1,(Ae p76_1)),Qb,Qa,(5,[.aO false false (.t9 p76_2) (.t4 p76_3)]),(1014,(Cp p76_4))] k=ob (L7 L p76_0 p76_1 p76_2 p76_3 p76_4) (Bqp p76_0 p76_1 p76_2 p76_3 p76_4 k):=(C4 _ _ _ jn4 _ _ _ _ _ _ _).trans (eE ((hq (Btj L (Md (E9 L) (L+24) 5 1 4 B5m.u.l.l ⟨[(7,S p76_0.aF),(6,Bbu),(5,.mp 5),Aw0,(2,Bbu),(3,I 0)],[(1,(Ae p76_1)),Qb,Qa,(5,[.aO false false (.t9 p76_2) (.t4 p76_3)]),(1014,(Cp p76_4)),(2017,(Cp p76_0))],2015⟩ (some 8) (kN (KA (E9 L) (L+24) 5 B5m (rl [2,2]) (KJ Tryz.f111 k)))) p76_0.aF p76_1 p76_2 p76_3 p76_4 p76_0) λo58=>Aaf L p76_0 o58)))
def B3v(p72_0:List Al)(p72_1:Aa)(v:Tu4):St:=⟨[(0,.any),(1,.any),(2,.bI 111 0 Ae7),(6,I v.1),(14,lv (.t93 p72_0)),(15,I (p72_0.length:Int)),(16,I v.2.1)],[(1,(Ae p72_1)),Qb,Qa,(5,[.aO false false (.t9 v.2.2.1) (.t4 v.2.2.2)])],1006⟩
def Tv [An A Po](L:Nat)(Aba:Int)(Aam:Int)(rec:Int->Int->List Yb->List Bool->A)(o60:Df):A:=
 (cn (o60.1 != 0)
 (lf (0,o60.1,Aba,o60.2.1,o60.2.2))
 (rec Aam (Bu (Aba+1)) o60.2.1 o60.2.2))
def T3 [An A Po](L:Nat)(p72_0:List Al)(p72_1:Aa)(rec:Int->Int->List Yb->List Bool->A)(Aam:Int)(Aba:Int)(Rg:List Yb)(Rh:List Bool)(nx109:Int->(List Yb)->(List Bool)->Int->A):A:=
 (lw Aba p72_0
 (nx109 Aba Rg Rh Aam)
 (lf (1,Aam,Aba,Rg,Rh)))
def Afn [An A Po](p72_0:List Al)(p72_1:Aa)(rec:Int->Int->List Yb->List Bool->A)(Aam:Int)(Aba:Int)(Rg:List Yb)(Rh:List Bool):A:=T3 L p72_0 p72_1 rec Aam Aba Rg Rh (λAba Rg Rh Aam=>bd (L7 L (gD p72_0 Aba) p72_1 Rg Rh (gD p72_0 Aba)) λo60=>Tv L Aba Aam rec o60)
def Kl(L:Nat)(p72_0:List Al)(p72_1:Aa):Nat->Int->Int->List Yb->List Bool->Option Po
 |0,_,_,_,_=>none
 |n+1,Aam,Aba,Rg,Rh=>Afn L p72_0 p72_1 (Kl L p72_0 p72_1 n) Aam Aba Rg Rh
theorem B1v(p72_0:List Al)(p72_1:Aa):LP (EV (E9 L) (L+24) 6 Blx.w.l.u.l.l) [0,1,2,6,14,15,16] [1,3,4,5] (B3v p72_0 p72_1) [.ret,.exit 0] (λn v=>Kl L p72_0 p72_1 n v.1 v.2.1 v.2.2.1 v.2.2.2) K:=lE (λ_=>rfl) λn v ih=>eE (T3 L p72_0 p72_1 (λAam Aba Rg Rh=>re (ih (Aam,Aba,Rg,Rh))) v.1 v.2.1 v.2.2.1 v.2.2.2 (λAba Rg Rh Aam=>hq (Bti L (Md (E9 L) (L+24) 6 1 3 Blx.w.l.u.l.l.w.l.l.u.l ⟨[(21,.agg (Cp (gD p72_0 Aba))),(20,.bI 111 0 Ae7),(2,.bI 111 0 Ae7),(6,I Aam),Bpf,(14,lv (.t93 p72_0)),(15,I (p72_0.length:Int)),(16,I Aba),(17,B (decide (Aba<(p72_0.length:Int)))),(18,.ref (Cp (gD p72_0 Aba))),(19,.agg (Cp (gD p72_0 Aba)))],[(1,(Ae p72_1)),Qb,Qa,(5,[.aO false false (.t9 Rg) (.t4 Rh)]),(1014,(Cp (gD p72_0 Aba)))],1006⟩ (some 22) (kN (KA (E9 L) (L+24) 6 Blx.w.l.u.l.l (rl [4,2,2,1]) (Hf (Io (EV (E9 L) (L+24) 6 Blx.w.l.u.l.l) [0,1,2,6,14,15,16] [1,3,4,5] n) [0,1,2,6,14,15,16] [1,3,4,5] K)))) (gD p72_0 Aba) p72_1 Rg Rh (gD p72_0 Aba)) λo60=>Tv L Aba Aam (λAam Aba Rg Rh=>re (ih (Aam,Aba,Rg,Rh))) o60))
def Bqo(p72_0:List Al)(p72_1:Aa)(p72_2:List Yb)(p72_3:List Bool)(k:Dj):Df->Prop:=λo=>k (I o.1) [(1,(Ae p72_1)),Qb,Qa,(5,[.aO false false (.t9 o.2.1) (.t4 o.2.2)])]
def Ajv [An A Df](L:Nat)(o61:Nat×Tu4):A:=
 (sl o61.1 [(lf (o61.2.1,o61.2.2.2.1,o61.2.2.2.2)),
 (lf (0,o61.2.2.2.1,o61.2.2.2.2))])
def Aj5 [An A Df](L:Nat)(p72_0:List Al)(p72_1:Aa)(p72_2:List Yb)(p72_3:List Bool)(nx110:A):A:=
 (cn (decide ((p72_0.length:Int)>16))
 (lf (6,p72_2,p72_3))
 nx110)
def Axt [An A Df](p72_0:List Al)(p72_1:Aa)(p72_2:List Yb)(p72_3:List Bool):A:=Aj5 L p72_0 p72_1 p72_2 p72_3 (bd (Kl L p72_0 p72_1 (L+24) 0 0 p72_2 p72_3) λo61=>Ajv L o61)
def Ab8(p72_0:List Al)(p72_1:Aa)(p72_2:List Yb)(p72_3:List Bool):Option Df:=Axt L p72_0 p72_1 p72_2 p72_3
theorem Bth(p72_0:List Al)(p72_1:Aa)(p72_2:List Yb)(p72_3:List Bool):YO (E9 L) (L+24) 7 110 [lv (.t93 p72_0),I 16,.bI 111 0 Ae7] [(1,(Ae p72_1)),Qb,Qa,(5,[.aO false false (.t9 p72_2) (.t4 p72_3)])] k=ob (Ab8 L p72_0 p72_1 p72_2 p72_3) (Bqo p72_0 p72_1 p72_2 p72_3 k):=(C4 _ _ _ jn4 _ _ _ _ _ _ _).trans (eE (Aj5 L p72_0 p72_1 p72_2 p72_3 (hq (B1v L (KA (E9 L) (L+24) 6 Blx (rl [4,1,2,1]) (KJ Tryz.f110 k)) p72_0 p72_1 (L+24) (0,0,p72_2,p72_3)) λo61=>Ajv L o61)))
def B3w(p79_0:List Bv)(p79_1:Aa)(p79_2:List Yb)(p79_3:List Bool)(v:Jc):St:=⟨[(0,.any),(1,.any),(2,.bI 115 0 A1w),(6,I v.1),(14,lv (.eG p79_0)),(15,I (p79_0.length:Int)),(16,I v.2)],[(1,(Ae p79_1)),Qb,Qa,(5,[.aO false false (.t9 p79_2) (.t4 p79_3)])],1006⟩
def Xl [An A C3](p79_0:List Bv)(p79_1:Aa)(p79_2:List Yb)(p79_3:List Bool)(rec:Int->Int->A)(Apv:Int)(Bbm:Int):A:=
 (lw Bbm p79_0
 (bd (Sz L p79_1 (gD p79_0 Bbm)) λr63=>
 (cn (r63 != 0)
 (lf (0,r63,Bbm))
 (rec Apv (Bu (Bbm+1)))))
 (lf (1,Apv,Bbm)))
def Km(L:Nat)(p79_0:List Bv)(p79_1:Aa)(p79_2:List Yb)(p79_3:List Bool):Nat->Int->Int->Option C3
 |0,_,_=>none
 |n+1,Apv,Bbm=>Xl L p79_0 p79_1 p79_2 p79_3 (Km L p79_0 p79_1 p79_2 p79_3 n) Apv Bbm
theorem B1w(p79_0:List Bv)(p79_1:Aa)(p79_2:List Yb)(p79_3:List Bool):LP (EV (E9 L) (L+24) 6 B5o.w.l.u.l.l) [0,1,2,6,14,15,16] [1,3,4,5] (B3w p79_0 p79_1 p79_2 p79_3) [.ret,.exit 0] (λn v=>Km L p79_0 p79_1 p79_2 p79_3 n v.1 v.2) K:=lE (λ_=>rfl) λn v ih=>eE (Xl L p79_0 p79_1 p79_2 p79_3 (λApv Bbm=>re (ih (Apv,Bbm))) v.1 v.2)
def Bqr(p79_0:List Bv)(p79_1:Aa)(p79_2:List Yb)(p79_3:List Bool)(k:Dj):Int->Prop:=λo=>k (I o) [(1,(Ae p79_1)),Qb,Qa,(5,[.aO false false (.t9 p79_2) (.t4 p79_3)])]
def Ajx [An A Int](L:Nat)(o64:Nat×Jc):A:=
 (sl o64.1 [(lf o64.2.1),
 (lf 0)])
def Aj6 [An A Int](L:Nat)(p79_0:List Bv)(p79_1:Aa)(p79_2:List Yb)(p79_3:List Bool)(nx113:A):A:=
 (cn (decide ((p79_0.length:Int)>32))
 (lf 6)
 nx113)
def Axu [An A Int](p79_0:List Bv)(p79_1:Aa)(p79_2:List Yb)(p79_3:List Bool):A:=Aj6 L p79_0 p79_1 p79_2 p79_3 (bd (Km L p79_0 p79_1 p79_2 p79_3 (L+24) 0 0) λo64=>Ajx L o64)
def Aca(p79_0:List Bv)(p79_1:Aa)(p79_2:List Yb)(p79_3:List Bool):Option Int:=Axu L p79_0 p79_1 p79_2 p79_3
theorem Btk(p79_0:List Bv)(p79_1:Aa)(p79_2:List Yb)(p79_3:List Bool):YO (E9 L) (L+24) 7 114 [lv (.eG p79_0),I 32,.bI 115 0 A1w] [(1,(Ae p79_1)),Qb,Qa,(5,[.aO false false (.t9 p79_2) (.t4 p79_3)])] k=ob (Aca L p79_0 p79_1 p79_2 p79_3) (Bqr p79_0 p79_1 p79_2 p79_3 k):=(C4 _ _ _ jn4 _ _ _ _ _ _ _).trans (eE (Aj6 L p79_0 p79_1 p79_2 p79_3 (hq (B1w L (KA (E9 L) (L+24) 6 B5o (rl [4,1,2,1]) (KJ Tryz.f114 k)) p79_0 p79_1 p79_2 p79_3 (L+24) (0,0)) λo64=>Ajx L o64)))
def A8z(p1_0:Aa)(k:Dj):Df->Prop:=λo=>k (I o.1) [(1,(Ae p1_0)),Qb,Qa,(5,[.aO false false (.t9 o.2.1) (.t4 o.2.2)])]
def Aag [An A Df](o62:Df)(p1_0:Aa)(o65:Int):A:=
 (cn (o65 != 0)
 (lf (o65,o62.2.1,o62.2.2))
 (gq ((0:Int)<=11)
 (gq (11<((12:Nat):Int))
 (bd (Agg L p1_0) λr66=>
 (cn (r66 != 0)
 (lf (r66,o62.2.1,o62.2.2))
 (lf (0,o62.2.1,o62.2.2)))))))
def Aa8 [An A Df](L:Nat)(p1_0:Aa)(o62:Df)(nx114:Df->A):A:=
 (cn (o62.1 != 0)
 (lf (o62.1,o62.2.1,o62.2.2))
 (gq ((0:Int)<=10)
 (gq (10<((12:Nat):Int))
 (nx114 o62))))
def Ajw [An A Df](p1_0:Aa)(o62:Df):A:=Aa8 L p1_0 o62 (λo62=>bd (Aca L p1_0.bV p1_0 o62.2.1 o62.2.2) λo65=>Aag L o62 p1_0 o65)
def Aa7 [An A Df](L:Nat)(p1_0:Aa)(o53:Df)(nx111:Df->A):A:=
 (cn (o53.1 != 0)
 (lf (o53.1,o53.2.1,o53.2.2))
 (gq ((0:Int)<=9)
 (gq (9<((12:Nat):Int))
 (nx111 o53))))
def Aae [An A Df](p1_0:Aa)(o53:Df):A:=Aa7 L p1_0 o53 (λo53=>bd (Ab8 L p1_0.aD p1_0 o53.2.1 o53.2.2) λo62=>Ajw L p1_0 o62)
def Bc7(p1_0:Aa)(o52:Df):Dj:=(Md (E9 L) (L+24) 6 1 4 c88.u.l ⟨[(6,Bbr),(5,.mp 5),(4,lv (.t9 p1_0.bF)),(0,lv (.t9 p1_0.bF)),Aw0,(3,I 0)],[(1,(Ae p1_0)),Qb,Qa,(5,[.aO false false (.t9 o52.2.1) (.t4 o52.2.2)])],1006⟩ (some 7) (kN (KA (E9 L) (L+24) 6 c88 (rl [2,1]) (KJ Tryz.f88 (Md (E9 L) (L+24) 7 1 4 B5k.u.l ⟨[(5,lv (.t9 p1_0.bF)),(4,.loc 1 9),(3,.bI 88 0 Ae7),(0,.loc 4 0),zq7,(2,I 0)],[(1,(Ae p1_0)),Qb,Qa,(5,[.aO false false (.t9 o52.2.1) (.t4 o52.2.2)])],1006⟩ (some 6) (kN (KA (E9 L) (L+24) 7 B5k (rl [2,1]) (KJ Tryz.f108 (Md (E9 L) (L+24) 8 1 2 c90.u.l.u.l.l.w.l.l.u.l ⟨[(12,.bI 108 0 zq9),(2,I 0),(4,.bI 108 0 zq9),(6,.sl false 170 1 zq1),(7,I 12),(8,I 8),A5z,(10,.ref [.bI 108 0 zq9]),(11,.bI 108 0 zq9)],[(1,(Ae p1_0)),Qb,Qa,(5,[.aO false false (.t9 o52.2.1) (.t4 o52.2.2)])],1006⟩ (some 13) (kN (Qr (EV (E9 L) (L+24) 8 c90.u.l.u.l.l.w.l.l.u.r) (Gi 1 (Qr (EV (E9 L) (L+24) 8 c90.u.l.u.l.l.w.r) (Hf (Io (EV (E9 L) (L+24) 8 c90.u.l.u.l.l) [0,2,6,7,8] [1,3,4,5] (L+15)) [0,2,6,7,8] [1,3,4,5] (Bgb L k)))))))))))))))
theorem Bu6(p1_0:Aa)(o52:Df)(o53:Df):A80 p1_0.bF p1_0 o52.2.1 o52.2.2 (Bc7 L k p1_0 o52) o53=ob (Aae L p1_0 o53) (A8z p1_0 k):=eE (Aa7 L p1_0 o53 (λo53=>hq (Bth L (Md (E9 L) (L+24) 7 1 4 B5l.u.l ⟨[(5,.bI 111 0 Ae7),(4,lv (.t93 p1_0.aD)),(3,.loc 1 10),(0,.loc 1 0),Aw0,(2,I 0)],[(1,(Ae p1_0)),Qb,Qa,(5,[.aO false false (.t9 o53.2.1) (.t4 o53.2.2)])],1006⟩ (some 6) (kN (KA (E9 L) (L+24) 7 B5l (rl [2,1]) (KJ Tryz.f109 (Md (E9 L) (L+24) 8 1 2 c90.u.l.u.l.l.w.l.l.u.l ⟨[(12,.bI 109 0 Af4),(2,I 0),(4,.bI 109 0 Af4),(6,.sl false 170 1 zq1),(7,I 12),(8,I 9),A5z,(10,.ref [.bI 109 0 Af4]),(11,.bI 109 0 Af4)],[(1,(Ae p1_0)),Qb,Qa,(5,[.aO false false (.t9 o53.2.1) (.t4 o53.2.2)])],1006⟩ (some 13) (kN (Qr (EV (E9 L) (L+24) 8 c90.u.l.u.l.l.w.l.l.u.r) (Gi 1 (Qr (EV (E9 L) (L+24) 8 c90.u.l.u.l.l.w.r) (Hf (Io (EV (E9 L) (L+24) 8 c90.u.l.u.l.l) [0,2,6,7,8] [1,3,4,5] (L+14)) [0,2,6,7,8] [1,3,4,5] (Gi 0 (Qr (EV (E9 L) (L+24) 8 c90.u.r) (KJ Tryz.f90 k))))))))))))) p1_0.aD p1_0 o53.2.1 o53.2.2) λo62=>Aa8 L p1_0 o62 (λo62=>hq (Btk L (Md (E9 L) (L+24) 7 1 4 B5n.u.l ⟨[(4,.bI 115 0 A1w),(3,lv (.eG p1_0.bV)),(2,.loc 1 11),(0,.loc 1 0),(1,I 0)],[(1,(Ae p1_0)),Qb,Qa,(5,[.aO false false (.t9 o62.2.1) (.t4 o62.2.2)])],1006⟩ (some 5) (kN (KA (E9 L) (L+24) 7 B5n (rl [2,1]) (KJ Tryz.f113 (Md (E9 L) (L+24) 8 1 2 c90.u.l.u.l.l.w.l.l.u.l ⟨[(12,.bI 113 0 A1w),(2,I 0),(4,.bI 113 0 A1w),(6,.sl false 170 1 zq1),(7,I 12),(8,I 10),A5z,(10,.ref [.bI 113 0 A1w]),(11,.bI 113 0 A1w)],[(1,(Ae p1_0)),Qb,Qa,(5,[.aO false false (.t9 o62.2.1) (.t4 o62.2.2)])],1006⟩ (some 13) (kN (Qr (EV (E9 L) (L+24) 8 c90.u.l.u.l.l.w.l.l.u.r) (Gi 1 (Qr (EV (E9 L) (L+24) 8 c90.u.l.u.l.l.w.r) (Hf (Io (EV (E9 L) (L+24) 8 c90.u.l.u.l.l) [0,2,6,7,8] [1,3,4,5] (L+13)) [0,2,6,7,8] [1,3,4,5] (Gi 0 (Qr (EV (E9 L) (L+24) 8 c90.u.r) (KJ Tryz.f90 k))))))))))))) p1_0.bV p1_0 o62.2.1 o62.2.2) λo65=>Aag L o62 p1_0 o65)))
def Aa6 [An A Df](L:Nat)(p1_0:Aa)(o52:Df)(nx102:Df->A):A:=
 (cn (o52.1 != 0)
 (lf (o52.1,o52.2.1,o52.2.2))
 (gq ((0:Int)<=8)
 (gq (8<((12:Nat):Int))
 (nx102 o52))))
def Aju [An A Df](p1_0:Aa)(o52:Df):A:=Aa6 L p1_0 o52 (λo52=>bd (Ix L p1_0.bF p1_0 o52.2.1 o52.2.2) λo53=>Aae L p1_0 o53)
def Aa5 [An A Df](L:Nat)(p1_0:Aa)(o51:Df)(nx101:Df->A):A:=
 (cn (o51.1 != 0)
 (lf (o51.1,o51.2.1,o51.2.2))
 (gq ((0:Int)<=7)
 (gq (7<((12:Nat):Int))
 (nx101 o51))))
def Ajt [An A Df](p1_0:Aa)(o51:Df):A:=Aa5 L p1_0 o51 (λo51=>bd (Ix L p1_0.bP p1_0 o51.2.1 o51.2.2) λo52=>Aju L p1_0 o52)
def Aa4 [An A Df](L:Nat)(p1_0:Aa)(o50:Df)(nx100:Df->A):A:=
 (cn (o50.1 != 0)
 (lf (o50.1,o50.2.1,o50.2.2))
 (gq ((0:Int)<=6)
 (gq (6<((12:Nat):Int))
 (nx100 o50))))
def Acs [An A Df](p1_0:Aa)(o50:Df):A:=Aa4 L p1_0 o50 (λo50=>bd (Ix L p1_0.bG p1_0 o50.2.1 o50.2.2) λo51=>Ajt L p1_0 o51)
def Bio(p1_0:Aa)(o49:Df):Dj:=(Md (E9 L) (L+24) 6 1 4 c88.u.l ⟨[(6,Bbr),(5,.mp 5),(4,lv (.t9 p1_0.bB)),(0,lv (.t9 p1_0.bB)),Aw0,(3,I 0)],[(1,(Ae p1_0)),Qb,Qa,(5,[.aO false false (.t9 o49.2.1) (.t4 o49.2.2)])],1006⟩ (some 7) (kN (KA (E9 L) (L+24) 6 c88 (rl [2,1]) (KJ Tryz.f88 (Md (E9 L) (L+24) 7 1 4 B5h.u.l ⟨[(5,lv (.t9 p1_0.bB)),(4,.loc 1 6),(3,.bI 88 0 Ae7),(0,.loc 4 0),zq7,(2,I 0)],[(1,(Ae p1_0)),Qb,Qa,(5,[.aO false false (.t9 o49.2.1) (.t4 o49.2.2)])],1006⟩ (some 6) (kN (KA (E9 L) (L+24) 7 B5h (rl [2,1]) (KJ Tryz.f105 (Md (E9 L) (L+24) 8 1 2 c90.u.l.u.l.l.w.l.l.u.l ⟨[(12,.bI 105 0 zq9),(2,I 0),(4,.bI 105 0 zq9),(6,.sl false 170 1 zq1),(7,I 12),(8,I 5),A5z,(10,.ref [.bI 105 0 zq9]),(11,.bI 105 0 zq9)],[(1,(Ae p1_0)),Qb,Qa,(5,[.aO false false (.t9 o49.2.1) (.t4 o49.2.2)])],1006⟩ (some 13) (kN (Qr (EV (E9 L) (L+24) 8 c90.u.l.u.l.l.w.l.l.u.r) (Gi 1 (Qr (EV (E9 L) (L+24) 8 c90.u.l.u.l.l.w.r) (Hf (Io (EV (E9 L) (L+24) 8 c90.u.l.u.l.l) [0,2,6,7,8] [1,3,4,5] (L+18)) [0,2,6,7,8] [1,3,4,5] (Bgb L k)))))))))))))))
theorem B2e(p1_0:Aa)(o49:Df)(o50:Df):A80 p1_0.bB p1_0 o49.2.1 o49.2.2 (Bio L k p1_0 o49) o50=ob (Acs L p1_0 o50) (A8z p1_0 k):=eE (Aa4 L p1_0 o50 (λo50=>hq (Avq L (Md (E9 L) (L+24) 6 1 4 c88.u.l ⟨[(6,Bbr),(5,.mp 5),(4,lv (.t9 p1_0.bG)),(0,lv (.t9 p1_0.bG)),Aw0,(3,I 0)],[(1,(Ae p1_0)),Qb,Qa,(5,[.aO false false (.t9 o50.2.1) (.t4 o50.2.2)])],1006⟩ (some 7) (kN (KA (E9 L) (L+24) 6 c88 (rl [2,1]) (KJ Tryz.f88 (Md (E9 L) (L+24) 7 1 4 B5i.u.l ⟨[(5,lv (.t9 p1_0.bG)),(4,.loc 1 7),(3,.bI 88 0 Ae7),(0,.loc 4 0),zq7,(2,I 0)],[(1,(Ae p1_0)),Qb,Qa,(5,[.aO false false (.t9 o50.2.1) (.t4 o50.2.2)])],1006⟩ (some 6) (kN (KA (E9 L) (L+24) 7 B5i (rl [2,1]) (KJ Tryz.f106 (Md (E9 L) (L+24) 8 1 2 c90.u.l.u.l.l.w.l.l.u.l ⟨[(12,.bI 106 0 zq9),(2,I 0),(4,.bI 106 0 zq9),(6,.sl false 170 1 zq1),(7,I 12),(8,I 6),A5z,(10,.ref [.bI 106 0 zq9]),(11,.bI 106 0 zq9)],[(1,(Ae p1_0)),Qb,Qa,(5,[.aO false false (.t9 o50.2.1) (.t4 o50.2.2)])],1006⟩ (some 13) (kN (Qr (EV (E9 L) (L+24) 8 c90.u.l.u.l.l.w.l.l.u.r) (Gi 1 (Qr (EV (E9 L) (L+24) 8 c90.u.l.u.l.l.w.r) (Hf (Io (EV (E9 L) (L+24) 8 c90.u.l.u.l.l) [0,2,6,7,8] [1,3,4,5] (L+17)) [0,2,6,7,8] [1,3,4,5] (Gi 0 (Qr (EV (E9 L) (L+24) 8 c90.u.r) (KJ Tryz.f90 k))))))))))))))))) p1_0.bG p1_0 o50.2.1 o50.2.2) λo51=>Aa5 L p1_0 o51 (λo51=>hq (Avq L (Md (E9 L) (L+24) 6 1 4 c88.u.l ⟨[(6,Bbr),(5,.mp 5),(4,lv (.t9 p1_0.bP)),(0,lv (.t9 p1_0.bP)),Aw0,(3,I 0)],[(1,(Ae p1_0)),Qb,Qa,(5,[.aO false false (.t9 o51.2.1) (.t4 o51.2.2)])],1006⟩ (some 7) (kN (KA (E9 L) (L+24) 6 c88 (rl [2,1]) (KJ Tryz.f88 (Md (E9 L) (L+24) 7 1 4 B5j.u.l ⟨[(5,lv (.t9 p1_0.bP)),(4,.loc 1 8),(3,.bI 88 0 Ae7),(0,.loc 4 0),zq7,(2,I 0)],[(1,(Ae p1_0)),Qb,Qa,(5,[.aO false false (.t9 o51.2.1) (.t4 o51.2.2)])],1006⟩ (some 6) (kN (KA (E9 L) (L+24) 7 B5j (rl [2,1]) (KJ Tryz.f107 (Md (E9 L) (L+24) 8 1 2 c90.u.l.u.l.l.w.l.l.u.l ⟨[(12,.bI 107 0 zq9),(2,I 0),(4,.bI 107 0 zq9),(6,.sl false 170 1 zq1),(7,I 12),(8,I 7),A5z,(10,.ref [.bI 107 0 zq9]),(11,.bI 107 0 zq9)],[(1,(Ae p1_0)),Qb,Qa,(5,[.aO false false (.t9 o51.2.1) (.t4 o51.2.2)])],1006⟩ (some 13) (kN (Qr (EV (E9 L) (L+24) 8 c90.u.l.u.l.l.w.l.l.u.r) (Gi 1 (Qr (EV (E9 L) (L+24) 8 c90.u.l.u.l.l.w.r) (Hf (Io (EV (E9 L) (L+24) 8 c90.u.l.u.l.l) [0,2,6,7,8] [1,3,4,5] (L+16)) [0,2,6,7,8] [1,3,4,5] (Gi 0 (Qr (EV (E9 L) (L+24) 8 c90.u.r) (KJ Tryz.f90 k))))))))))))))))) p1_0.bP p1_0 o51.2.1 o51.2.2) λo52=>Aa6 L p1_0 o52 (λo52=>ho (Avq L (Bc7 L k p1_0 o52) p1_0.bF p1_0 o52.2.1 o52.2.2) λo53=>Bu6 L k p1_0 o52 o53))))
def Ac4 [An A Df](L:Nat)(p1_0:Aa)(o49:Df)(nx99:Df->A):A:=
 (cn (o49.1 != 0)
 (lf (o49.1,o49.2.1,o49.2.2))
 (gq ((0:Int)<=5)
 (gq (5<((12:Nat):Int))
 (nx99 o49))))
def Amv [An A Df](p1_0:Aa)(o49:Df):A:=Ac4 L p1_0 o49 (λo49=>bd (Ix L p1_0.bB p1_0 o49.2.1 o49.2.2) λo50=>Acs L p1_0 o50)
def Ac3 [An A Df](L:Nat)(p1_0:Aa)(o42:Df)(nx98:Df->A):A:=
 (cn (o42.1 != 0)
 (lf (o42.1,o42.2.1,o42.2.2))
 (gq ((0:Int)<=4)
 (gq (4<((12:Nat):Int))
 (nx98 o42))))
def Amt [An A Df](p1_0:Aa)(o42:Df):A:=Ac3 L p1_0 o42 (λo42=>bd (Ix L p1_0.bH p1_0 o42.2.1 o42.2.2) λo49=>Amv L p1_0 o49)
def Ac2 [An A Df](L:Nat)(p1_0:Aa)(o31:Df)(nx93:Df->A):A:=
 (cn (o31.1 != 0)
 (lf (o31.1,o31.2.1,o31.2.2))
 (gq ((0:Int)<=3)
 (gq (3<((12:Nat):Int))
 (nx93 o31))))
def Acq [An A Df](p1_0:Aa)(o31:Df):A:=Ac2 L p1_0 o31 (λo31=>bd (Ab6 L p1_0.bN p1_0 o31.2.1 o31.2.2) λo42=>Amt L p1_0 o42)
def Bin(p1_0:Aa)(o21:Df):Dj:=(Md (E9 L) (L+24) 7 1 4 c98.u.l ⟨[(5,.bI 100 0 Ae7),(4,lv (.t89 p1_0.aL)),(3,.loc 1 3),(0,.loc 1 0),Aw0,(2,I 0)],[(1,(Ae p1_0)),Qb,Qa,(5,[.aO false false (.t9 o21.2.1) (.t4 o21.2.2)])],1006⟩ (some 6) (kN (KA (E9 L) (L+24) 7 c98 (rl [2,1]) (KJ Tryz.f98 (Md (E9 L) (L+24) 8 1 2 c90.u.l.u.l.l.w.l.l.u.l ⟨[(12,.bI 98 0 Af4),(2,I 0),(4,.bI 98 0 Af4),(6,.sl false 170 1 zq1),(7,I 12),(8,I 2),A5z,(10,.ref [.bI 98 0 Af4]),(11,.bI 98 0 Af4)],[(1,(Ae p1_0)),Qb,Qa,(5,[.aO false false (.t9 o21.2.1) (.t4 o21.2.2)])],1006⟩ (some 13) (kN (Qr (EV (E9 L) (L+24) 8 c90.u.l.u.l.l.w.l.l.u.r) (Gi 1 (Qr (EV (E9 L) (L+24) 8 c90.u.l.u.l.l.w.r) (Hf (Io (EV (E9 L) (L+24) 8 c90.u.l.u.l.l) [0,2,6,7,8] [1,3,4,5] (L+21)) [0,2,6,7,8] [1,3,4,5] (Bgb L k)))))))))))
theorem B2d(p1_0:Aa)(o21:Df)(o31:Df):Bhm p1_0.aL p1_0 o21.2.1 o21.2.2 (Bin L k p1_0 o21) o31=ob (Acq L p1_0 o31) (A8z p1_0 k):=eE (Ac2 L p1_0 o31 (λo31=>hq (Btd L (Md (E9 L) (L+24) 7 1 4 B5e.u.l ⟨[(5,.bI 103 0 Ae7),(4,lv (.eF p1_0.bN)),(3,.loc 1 4),(0,.loc 1 0),Aw0,(2,I 0)],[(1,(Ae p1_0)),Qb,Qa,(5,[.aO false false (.t9 o31.2.1) (.t4 o31.2.2)])],1006⟩ (some 6) (kN (KA (E9 L) (L+24) 7 B5e (rl [2,1]) (KJ Tryz.f101 (Md (E9 L) (L+24) 8 1 2 c90.u.l.u.l.l.w.l.l.u.l ⟨[(12,.bI 101 0 Af4),(2,I 0),(4,.bI 101 0 Af4),(6,.sl false 170 1 zq1),(7,I 12),(8,I 3),A5z,(10,.ref [.bI 101 0 Af4]),(11,.bI 101 0 Af4)],[(1,(Ae p1_0)),Qb,Qa,(5,[.aO false false (.t9 o31.2.1) (.t4 o31.2.2)])],1006⟩ (some 13) (kN (Qr (EV (E9 L) (L+24) 8 c90.u.l.u.l.l.w.l.l.u.r) (Gi 1 (Qr (EV (E9 L) (L+24) 8 c90.u.l.u.l.l.w.r) (Hf (Io (EV (E9 L) (L+24) 8 c90.u.l.u.l.l) [0,2,6,7,8] [1,3,4,5] (L+20)) [0,2,6,7,8] [1,3,4,5] (Gi 0 (Qr (EV (E9 L) (L+24) 8 c90.u.r) (KJ Tryz.f90 k))))))))))))) p1_0.bN p1_0 o31.2.1 o31.2.2) λo42=>Ac3 L p1_0 o42 (λo42=>hq (Avq L (Md (E9 L) (L+24) 6 1 4 c88.u.l ⟨[(6,Bbr),(5,.mp 5),(4,lv (.t9 p1_0.bH)),(0,lv (.t9 p1_0.bH)),Aw0,(3,I 0)],[(1,(Ae p1_0)),Qb,Qa,(5,[.aO false false (.t9 o42.2.1) (.t4 o42.2.2)])],1006⟩ (some 7) (kN (KA (E9 L) (L+24) 6 c88 (rl [2,1]) (KJ Tryz.f88 (Md (E9 L) (L+24) 7 1 4 B5g.u.l ⟨[(5,lv (.t9 p1_0.bH)),(4,.loc 1 5),(3,.bI 88 0 Ae7),(0,.loc 4 0),zq7,(2,I 0)],[(1,(Ae p1_0)),Qb,Qa,(5,[.aO false false (.t9 o42.2.1) (.t4 o42.2.2)])],1006⟩ (some 6) (kN (KA (E9 L) (L+24) 7 B5g (rl [2,1]) (KJ Tryz.f104 (Md (E9 L) (L+24) 8 1 2 c90.u.l.u.l.l.w.l.l.u.l ⟨[(12,.bI 104 0 zq9),(2,I 0),(4,.bI 104 0 zq9),(6,.sl false 170 1 zq1),(7,I 12),(8,I 4),A5z,(10,.ref [.bI 104 0 zq9]),(11,.bI 104 0 zq9)],[(1,(Ae p1_0)),Qb,Qa,(5,[.aO false false (.t9 o42.2.1) (.t4 o42.2.2)])],1006⟩ (some 13) (kN (Qr (EV (E9 L) (L+24) 8 c90.u.l.u.l.l.w.l.l.u.r) (Gi 1 (Qr (EV (E9 L) (L+24) 8 c90.u.l.u.l.l.w.r) (Hf (Io (EV (E9 L) (L+24) 8 c90.u.l.u.l.l) [0,2,6,7,8] [1,3,4,5] (L+19)) [0,2,6,7,8] [1,3,4,5] (Gi 0 (Qr (EV (E9 L) (L+24) 8 c90.u.r) (KJ Tryz.f90 k))))))))))))))))) p1_0.bH p1_0 o42.2.1 o42.2.2) λo49=>Ac4 L p1_0 o49 (λo49=>ho (Avq L (Bio L k p1_0 o49) p1_0.bB p1_0 o49.2.1 o49.2.2) λo50=>B2e L k p1_0 o49 o50))))
def Ac1 [An A Df](L:Nat)(p1_0:Aa)(o21:Df)(nx84:Df->A):A:=
 (cn (o21.1 != 0)
 (lf (o21.1,o21.2.1,o21.2.2))
 (gq ((0:Int)<=2)
 (gq (2<((12:Nat):Int))
 (nx84 o21))))
def Amq [An A Df](p1_0:Aa)(o21:Df):A:=Ac1 L p1_0 o21 (λo21=>bd (Ab4 L p1_0.aL p1_0 o21.2.1 o21.2.2) λo31=>Acq L p1_0 o31)
def Ac0 [An A Df](L:Nat)(p1_0:Aa)(o10:Df)(nx75:Df->A):A:=
 (cn (o10.1 != 0)
 (lf (o10.1,o10.2.1,o10.2.2))
 (gq ((0:Int)<=1)
 (gq (1<((12:Nat):Int))
 (nx75 o10))))
def Amo [An A Df](p1_0:Aa)(o10:Df):A:=Ac0 L p1_0 o10 (λo10=>bd (Ab2 L p1_0.aG p1_0 o10.2.1 o10.2.2) λo21=>Amq L p1_0 o21)
def Acz [An A Df](L:Nat)(p1_0:Aa)(nx66:A):A:=
 (gq ((0:Int)<=0)
 (gq (0<((12:Nat):Int))
 nx66))
def Ao9 [An A Df](p1_0:Aa):A:=Acz L p1_0 (bd (Ab0 L p1_0.bX p1_0) λo10=>Amo L p1_0 o10)
def Xe(p1_0:Aa):Option Df:=Ao9 L p1_0
theorem B0a(p1_0:Aa):YO (E9 L) (L+24) 9 90 [.sl false 170 1 zq1] [(1,(Ae p1_0)),Qb,Qa,(5,zq8)] k=ob (Xe L p1_0) (A8z p1_0 k):=(C4 _ _ _ jn4 _ _ _ _ _ _ _).trans (eE (Acz L p1_0 (hq (Bs4 L (Md (E9 L) (L+24) 6 1 4 c56.u.l ⟨[(7,Bpb),(6,.mp 5),(5,lv (.dO p1_0.bX)),(0,.mp 5),(1,lv (.dO p1_0.bX)),(4,I 0)],[(1,(Ae p1_0)),Qb,Qa,(5,zq8)],1006⟩ (some 8) (kN (KA (E9 L) (L+24) 6 c56 (rl [2,1]) (KJ Tryz.f56 (Md (E9 L) (L+24) 7 1 4 c91.u.l ⟨[(5,lv (.dO p1_0.bX)),(4,.loc 1 1),(3,.mp 5),(0,.loc 3 0),zq7,(2,I 0)],[(1,(Ae p1_0)),Qb,Qa,(5,zq8)],1006⟩ (some 6) (kN (KA (E9 L) (L+24) 7 c91 (rl [2,1]) (KJ Tryz.f91 (Md (E9 L) (L+24) 8 1 2 c90.u.l.u.l.l.w.l.l.u.l ⟨[(12,.bI 91 0 Auq),(2,I 0),(4,.bI 91 0 Auq),(6,.sl false 170 1 zq1),(7,I 12),(8,I 0),A5z,(10,.ref [.bI 91 0 Auq]),(11,.bI 91 0 Auq)],[(1,(Ae p1_0)),Qb,Qa,(5,zq8)],1006⟩ (some 13) (kN (Qr (EV (E9 L) (L+24) 8 c90.u.l.u.l.l.w.l.l.u.r) (Gi 1 (Qr (EV (E9 L) (L+24) 8 c90.u.l.u.l.l.w.r) (Hf (Io (EV (E9 L) (L+24) 8 c90.u.l.u.l.l) [0,2,6,7,8] [1,3,4,5] (L+23)) [0,2,6,7,8] [1,3,4,5] (Gi 0 (Qr (EV (E9 L) (L+24) 8 c90.u.r) (KJ Tryz.f90 k))))))))))))))))) p1_0.bX p1_0) λo10=>Ac0 L p1_0 o10 (λo10=>hq (Bs7 L (Md (E9 L) (L+24) 7 1 4 c92.u.l ⟨[(5,.bI 94 0 Auq),(4,lv (.t86 p1_0.aG)),(3,.loc 1 2),(0,.loc 1 0),Aw0,(2,I 0)],[(1,(Ae p1_0)),Qb,Qa,(5,[.aO false false (.t9 o10.2.1) (.t4 o10.2.2)])],1006⟩ (some 6) (kN (KA (E9 L) (L+24) 7 c92 (rl [2,1]) (KJ Tryz.f92 (Md (E9 L) (L+24) 8 1 2 c90.u.l.u.l.l.w.l.l.u.l ⟨[(12,.bI 92 0 Af4),(2,I 0),(4,.bI 92 0 Af4),(6,.sl false 170 1 zq1),(7,I 12),(8,I 1),A5z,(10,.ref [.bI 92 0 Af4]),(11,.bI 92 0 Af4)],[(1,(Ae p1_0)),Qb,Qa,(5,[.aO false false (.t9 o10.2.1) (.t4 o10.2.2)])],1006⟩ (some 13) (kN (Qr (EV (E9 L) (L+24) 8 c90.u.l.u.l.l.w.l.l.u.r) (Gi 1 (Qr (EV (E9 L) (L+24) 8 c90.u.l.u.l.l.w.r) (Hf (Io (EV (E9 L) (L+24) 8 c90.u.l.u.l.l) [0,2,6,7,8] [1,3,4,5] (L+22)) [0,2,6,7,8] [1,3,4,5] (Gi 0 (Qr (EV (E9 L) (L+24) 8 c90.u.r) (KJ Tryz.f90 k))))))))))))) p1_0.aG p1_0 o10.2.1 o10.2.2) λo21=>Ac1 L p1_0 o21 (λo21=>ho (Bta L (Bin L k p1_0 o21) p1_0.aL p1_0 o21.2.1 o21.2.2) λo31=>B2d L k p1_0 o21 o31)))))
def Tw [An A Int](L:Nat)(o67:Df):A:=
 (lf o67.1)
def Au3 [An A Int](a0:Aa):A:=(bd (Xe L a0) λo67=>Tw L o67)
def Agh(a0:Aa):Option Int:=Au3 L a0
def X60:F3:=E1 I 60 C7 (Agh L) λa0 r h=>hF Tryz.func60 (C:=E9 L) (oS _) (L+24) (λkk=>eE ((hq (B0a L (Md (E9 L) (L+24) 9 1 14 c60.w.u.l ⟨[(19,.sl true 170 1 zq1),(18,.bI 117 0 A1w),(17,.bI 113 0 A1w),(16,.bI 109 0 Af4),(15,.bI 108 0 zq9),(14,.bI 107 0 zq9),(13,.bI 106 0 zq9),(12,.bI 105 0 zq9),(11,.bI 104 0 zq9),(10,.bI 101 0 Af4),(9,.bI 98 0 Af4),(8,.bI 92 0 Af4),(7,.bI 91 0 Auq),zq7,(2,I 0),Th,Be9],[(1,(Ae a0)),Qb,Qa,(5,zq8)],0⟩ (some 20) (kN (KA (E9 L) (L+24) 9 c60 (rl [6,1]) (KE Tryz.f60 kk)))) a0) λo67=>Tw L o67))) h
end
end Go.Proofs.YthjhkpgonleelaaGreatDoor.Ev
