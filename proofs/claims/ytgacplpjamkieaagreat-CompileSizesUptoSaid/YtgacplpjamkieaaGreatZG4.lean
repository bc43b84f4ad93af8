import Derived.Test.YtgacplpjamkieaaGreatZG1
import Derived.Test.YtgacplpjamkieaaGreatZG2
import Derived.Test.YtgacplpjamkieaaGreatZG3
set_option maxRecDepth 100000
set_option maxHeartbeats 4000000
set_option linter.unusedVariables false
set_option linter.unusedSimpArgs false
set_option linter.unnecessarySimpa false
namespace Go.Proofs.YtgacplpjamkieaaGreat.Ev
open Go An
noncomputable section
variable {A:Type} (L n:Nat) (kk:Tb) (K:Hp) (k:Ei)
def c76:=CC Tryz.f76
def Aw4:=CC Tryz.f125
def Be4:=CC Tryz.f126
def Aw5:=CC Tryz.f127
def Bag:=CC Tryz.f128
def Lq:=CC Tryz.f129
def Bri:=CC Tryz.f130
def Brj:=CC Tryz.f131
def Bah:=CC Tryz.f132
def Brk:=CC Tryz.f133
def Brm:=CC Tryz.f137
def Bai:=CC Tryz.f138
def Brn:=CC Tryz.f139
def Bro:=CC Tryz.f140
def Baj:=CC Tryz.f141
def Brp:=CC Tryz.f142
def Brq:=CC Tryz.f143
def Brr:=CC Tryz.f144
def Brs:=CC Tryz.f145
def Brt:=CC Tryz.f146
def Bru:=CC Tryz.f147
def Brv:=CC Tryz.f148
def Bak:=CC Tryz.f149
def Brw:=CC Tryz.f150
def Brx:=CC Tryz.f152
def Bry:=CC Tryz.f153
def c80:=CC Tryz.f80
def Gi:Bj:=oL [X75 L,A73 L,Bvn L,Bvo L,Bvp L,Bvq L,Bvs L,Bkr L,Bks L]
def A48:Hp:=(Gc 0 (Pt (EV (Gi L) (L+24) 8 Lq.u.r) (KJ Tryz.f129 k)))
def Bd7(p47_0:Yb)(p47_1:Ac)(p47_2:List Yb)(p47_3:List Bool)(p47_4:Ai)(p47_5:Ai)(k:Ei):Dq->Prop:=λo=>k (I o.1) [(1,(Af p47_1)),Qc,Qb,(5,[.aP false false (.t9 o.2.1) (.t4 o.2.2)]),(1014,(Cw p47_4)),(2018,(Cw p47_5))]
def Age [An A Dq](p47_0:Yb)(p47_1:Ac)(p47_2:List Yb)(p47_3:List Bool)(p47_4:Ai)(p47_5:Ai):A:=
 (bd (Dk L p47_0) λr1=>
 (cn (r1 != 0)
 (lf (r1,p47_2,p47_3))
 (fq (p47_2.findIdx? λb=>p47_0 == b) (λi2=>
 (cn (p47_3.getD i2 default)
 (lf (4,p47_2,p47_3))
 (fq (p47_2.findIdx? λb=>p47_0 == b) (λi3=>
 (lf (0,p47_2,(p47_3.set i3 true))))
 (lf (0,(p47_2++ [p47_0]),(p47_3++ [true]))))))
 (fq (p47_2.findIdx? λb=>p47_0 == b) (λi4=>
 (lf (0,p47_2,(p47_3.set i4 true))))
 (lf (0,(p47_2++ [p47_0]),(p47_3++ [true])))))))
def i8(p47_0:Yb)(p47_1:Ac)(p47_2:List Yb)(p47_3:List Bool)(p47_4:Ai)(p47_5:Ai):Option Dq:=Age L p47_0 p47_1 p47_2 p47_3 p47_4 p47_5
theorem Bf4(p47_0:Yb)(p47_1:Ac)(p47_2:List Yb)(p47_3:List Bool)(p47_4:Ai)(p47_5:Ai):YO (Gi L) (L+24) 4 79 [.mp 5,S p47_0] [(1,(Af p47_1)),Qc,Qb,(5,[.aP false false (.t9 p47_2) (.t4 p47_3)]),(1014,(Cw p47_4)),(2018,(Cw p47_5))] k=ob (i8 L p47_0 p47_1 p47_2 p47_3 p47_4 p47_5) (Bd7 p47_0 p47_1 p47_2 p47_3 p47_4 p47_5 k):=(Dj _ _ _ jn4 _ _ _ _ _ _ _).trans (eE (Age L p47_0 p47_1 p47_2 p47_3 p47_4 p47_5))
def Bd6(p45_0:Ai)(p45_1:Ac)(p45_2:List Yb)(p45_3:List Bool)(p45_4:Ai)(k:Ei):Dq->Prop:=λo=>k (I o.1) [(1,(Af p45_1)),Qc,Qb,(5,[.aP false false (.t9 o.2.1) (.t4 o.2.2)]),(1014,(Cw p45_4)),(2018,(Cw p45_0))]
def u6 [An A Dq](p45_0:Ai)(o5:Dq):A:=
 (cn (o5.1 != 0)
 (lf (o5.1,o5.2.1,o5.2.2))
 (bd (La L p45_0.bL) λr6=>
 (cn (!r6)
 (lf (1,o5.2.1,o5.2.2))
 (bd (Ry L p45_0.bL p45_0.N) λr7=>
 (cn (!r7)
 (lf (2,o5.2.1,o5.2.2))
 (lf (0,o5.2.1,o5.2.2)))))))
def Agd [An A Dq](p45_0:Ai)(p45_1:Ac)(p45_2:List Yb)(p45_3:List Bool)(p45_4:Ai):A:=(bd (i8 L p45_0.aG p45_1 p45_2 p45_3 p45_4 p45_0) λo5=>u6 L p45_0 o5)
def Ns(p45_0:Ai)(p45_1:Ac)(p45_2:List Yb)(p45_3:List Bool)(p45_4:Ai):Option Dq:=Agd L p45_0 p45_1 p45_2 p45_3 p45_4
theorem Bf3(p45_0:Ai)(p45_1:Ac)(p45_2:List Yb)(p45_3:List Bool)(p45_4:Ai):YO (Gi L) (L+24) 5 126 [.mp 5,.agg (Cw p45_0)] [(1,(Af p45_1)),Qc,Qb,(5,[.aP false false (.t9 p45_2) (.t4 p45_3)]),(1014,(Cw p45_4))] k=ob (Ns L p45_0 p45_1 p45_2 p45_3 p45_4) (Bd6 p45_0 p45_1 p45_2 p45_3 p45_4 k):=(Dj _ _ _ jn4 _ _ _ _ _ _ _).trans (eE ((hq (Bf4 L (Rn (Gi L) (L+24) 4 1 4 Be4.u.l.l ⟨[(8,S p45_0.aG),(7,.loc 2018 0),(6,.mp 5),(0,.mp 5),(3,.loc 2018 0),(4,I 0)],[(1,(Af p45_1)),Qc,Qb,(5,[.aP false false (.t9 p45_2) (.t4 p45_3)]),(1014,(Cw p45_4)),(2018,(Cw p45_0))],2015⟩ (some 9) (kN (KA (Gi L) (L+24) 4 Be4 (rl [2,2]) (KJ Tryz.f126 k)))) p45_0.aG p45_1 p45_2 p45_3 p45_4 p45_0) λo5=>u6 L p45_0 o5)))
def Bpg(p41_0:List Ai)(p41_1:Ac)(v:Tu3):St:=⟨[(0,.any),(1,.any),(2,Bdn),(6,I v.1),(14,lv (.t83 p41_0)),(15,I (p41_0.length:Int)),(16,I v.2.1)],[(1,(Af p41_1)),Qc,Qb,(5,[.aP false false (.t9 v.2.2.1) (.t4 v.2.2.2)])],1006⟩
def Vc [An A Rq](L:Nat)(Ak:Int)(Av:Int)(rec:Int->Int->List Yb->List Bool->A)(o8:Dq):A:=
 (cn (o8.1 != 0)
 (lf (0,o8.1,Ak,o8.2.1,o8.2.2))
 (rec Av (Bb (Ak+1)) o8.2.1 o8.2.2))
def Vv [An A Rq](L:Nat)(p41_0:List Ai)(p41_1:Ac)(rec:Int->Int->List Yb->List Bool->A)(Av:Int)(Ak:Int)(Ct:List Yb)(Cu:List Bool)(nx64:Int->(List Yb)->(List Bool)->Int->A):A:=
 (lw Ak p41_0
 (nx64 Ak Ct Cu Av)
 (lf (1,Av,Ak,Ct,Cu)))
def Abn [An A Rq](p41_0:List Ai)(p41_1:Ac)(rec:Int->Int->List Yb->List Bool->A)(Av:Int)(Ak:Int)(Ct:List Yb)(Cu:List Bool):A:=Vv L p41_0 p41_1 rec Av Ak Ct Cu (λAk Ct Cu Av=>bd (Ns L (gD p41_0 Ak) p41_1 Ct Cu (gD p41_0 Ak)) λo8=>Vc L Ak Av rec o8)
def Mj(L:Nat)(p41_0:List Ai)(p41_1:Ac):Nat->Int->Int->List Yb->List Bool->Option Rq
 |0,_,_,_,_=>none
 |n+1,Av,Ak,Ct,Cu=>Abn L p41_0 p41_1 (Mj L p41_0 p41_1 n) Av Ak Ct Cu
theorem Bnk(p41_0:List Ai)(p41_1:Ac):LP (EV (Gi L) (L+24) 5 Aw4.w.l.u.l.l) [0,1,2,6,14,15,16] [1,3,4,5] (Bpg p41_0 p41_1) [.ret,.exit 0] (λn v=>Mj L p41_0 p41_1 n v.1 v.2.1 v.2.2.1 v.2.2.2) K:=lE (λ_=>rfl) λn v ih=>eE (Vv L p41_0 p41_1 (λAv Ak Ct Cu=>re (ih (Av,Ak,Ct,Cu))) v.1 v.2.1 v.2.2.1 v.2.2.2 (λAk Ct Cu Av=>hq (Bf3 L (Rn (Gi L) (L+24) 5 1 3 Aw4.w.l.u.l.l.w.l.l.u.l ⟨[(21,.agg (Cw (gD p41_0 Ak))),(20,Bdn),(2,Bdn),(6,I Av),Bdo,(14,lv (.t83 p41_0)),(15,I (p41_0.length:Int)),(16,I Ak),(17,B (decide (Ak<(p41_0.length:Int)))),(18,.ref (Cw (gD p41_0 Ak))),(19,.agg (Cw (gD p41_0 Ak)))],[(1,(Af p41_1)),Qc,Qb,(5,[.aP false false (.t9 Ct) (.t4 Cu)]),(1014,(Cw (gD p41_0 Ak)))],1006⟩ (some 22) (kN (KA (Gi L) (L+24) 5 Aw4.w.l.u.l.l (rl [4,2,2,1]) (Jz (M8 (EV (Gi L) (L+24) 5 Aw4.w.l.u.l.l) [0,1,2,6,14,15,16] [1,3,4,5] n) [0,1,2,6,14,15,16] [1,3,4,5] K)))) (gD p41_0 Ak) p41_1 Ct Cu (gD p41_0 Ak)) λo8=>Vc L Ak Av (λAv Ak Ct Cu=>re (ih (Av,Ak,Ct,Cu))) o8))
def Bd5(p41_0:List Ai)(p41_1:Ac)(k:Ei):Dq->Prop:=λo=>k (I o.1) [(1,(Af p41_1)),Qc,Qb,(5,[.aP false false (.t9 o.2.1) (.t4 o.2.2)])]
def Ag0 [An A Dq](L:Nat)(o9:Nat×Tu3):A:=
 (sl o9.1 [(lf (o9.2.1,o9.2.2.2.1,o9.2.2.2.2)),
 (lf (0,o9.2.2.2.1,o9.2.2.2.2))])
def Ahg [An A Dq](L:Nat)(p41_0:List Ai)(p41_1:Ac)(nx65:A):A:=
 (cn (decide ((p41_0.length:Int)>32))
 (lf (6,[],[]))
 nx65)
def Aqi [An A Dq](p41_0:List Ai)(p41_1:Ac):A:=Ahg L p41_0 p41_1 (bd (Mj L p41_0 p41_1 (L+24) 0 0 [] []) λo9=>Ag0 L o9)
def f8(p41_0:List Ai)(p41_1:Ac):Option Dq:=Aqi L p41_0 p41_1
theorem Bf2(p41_0:List Ai)(p41_1:Ac):YO (Gi L) (L+24) 6 125 [lv (.t83 p41_0),I 32,Bdn] [(1,(Af p41_1)),Qc,Qb,(5,zq5)] k=ob (f8 L p41_0 p41_1) (Bd5 p41_0 p41_1 k):=(Dj _ _ _ jn4 _ _ _ _ _ _ _).trans (eE (Ahg L p41_0 p41_1 (hq (Bnk L (KA (Gi L) (L+24) 5 Aw4 (rl [4,1,2,1]) (KJ Tryz.f125 k)) p41_0 p41_1 (L+24) (0,0,[],[])) λo9=>Ag0 L o9)))
def Bea(p54_0:Yb)(p54_1:Ac)(p54_2:List Yb)(p54_3:List Bool)(p54_4:Ah)(p54_5:Ah)(k:Ei):Dq->Prop:=λo=>k (I o.1) [(1,(Af p54_1)),Qc,Qb,(5,[.aP false false (.t9 o.2.1) (.t4 o.2.2)]),(1014,(Cq p54_4)),(2018,(Cq p54_5))]
def Agg [An A Dq](p54_0:Yb)(p54_1:Ac)(p54_2:List Yb)(p54_3:List Bool)(p54_4:Ah)(p54_5:Ah):A:=
 (bd (Dk L p54_0) λr11=>
 (cn (r11 != 0)
 (lf (r11,p54_2,p54_3))
 (fq (p54_2.findIdx? λb=>p54_0 == b) (λi12=>
 (cn (p54_3.getD i12 default)
 (lf (4,p54_2,p54_3))
 (fq (p54_2.findIdx? λb=>p54_0 == b) (λi13=>
 (lf (0,p54_2,(p54_3.set i13 true))))
 (lf (0,(p54_2++ [p54_0]),(p54_3++ [true]))))))
 (fq (p54_2.findIdx? λb=>p54_0 == b) (λi14=>
 (lf (0,p54_2,(p54_3.set i14 true))))
 (lf (0,(p54_2++ [p54_0]),(p54_3++ [true])))))))
def j5(p54_0:Yb)(p54_1:Ac)(p54_2:List Yb)(p54_3:List Bool)(p54_4:Ah)(p54_5:Ah):Option Dq:=Agg L p54_0 p54_1 p54_2 p54_3 p54_4 p54_5
theorem Bf7(p54_0:Yb)(p54_1:Ac)(p54_2:List Yb)(p54_3:List Bool)(p54_4:Ah)(p54_5:Ah):YO (Gi L) (L+24) 5 79 [.mp 5,S p54_0] [(1,(Af p54_1)),Qc,Qb,(5,[.aP false false (.t9 p54_2) (.t4 p54_3)]),(1014,(Cq p54_4)),(2018,(Cq p54_5))] k=ob (j5 L p54_0 p54_1 p54_2 p54_3 p54_4 p54_5) (Bea p54_0 p54_1 p54_2 p54_3 p54_4 p54_5 k):=(Dj _ _ _ jn4 _ _ _ _ _ _ _).trans (eE (Agg L p54_0 p54_1 p54_2 p54_3 p54_4 p54_5))
def Bd9(p52_0:Ah)(p52_1:Ac)(p52_2:List Yb)(p52_3:List Bool)(p52_4:Ah)(k:Ei):Dq->Prop:=λo=>k (I o.1) [(1,(Af p52_1)),Qc,Qb,(5,[.aP false false (.t9 o.2.1) (.t4 o.2.2)]),(1014,(Cq p52_4)),(2018,(Cq p52_0))]
def u7 [An A Dq](p52_0:Ah)(p52_1:Ac)(o15:Dq):A:=
 (cn (o15.1 != 0)
 (lf (o15.1,o15.2.1,o15.2.2))
 (bd (Bh L p52_0.Units 0 1000) λr16=>
 (cn (!r16)
 (lf (2,o15.2.1,o15.2.2))
 (bd (Ui L p52_0) λr17=>
 (cn (r17 != 0)
 (lf (r17,o15.2.1,o15.2.2))
 (bd (Uh L p52_1 p52_0.dG) λr18=>
 (lf (r18,o15.2.1,o15.2.2))))))))
def Agf [An A Dq](p52_0:Ah)(p52_1:Ac)(p52_2:List Yb)(p52_3:List Bool)(p52_4:Ah):A:=(bd (j5 L p52_0.aG p52_1 p52_2 p52_3 p52_4 p52_0) λo15=>u7 L p52_0 p52_1 o15)
def Nt(p52_0:Ah)(p52_1:Ac)(p52_2:List Yb)(p52_3:List Bool)(p52_4:Ah):Option Dq:=Agf L p52_0 p52_1 p52_2 p52_3 p52_4
theorem Bf6(p52_0:Ah)(p52_1:Ac)(p52_2:List Yb)(p52_3:List Bool)(p52_4:Ah):YO (Gi L) (L+24) 6 133 [.agg (Cq p52_0),.loc 3 0,.loc 1 0] [(1,(Af p52_1)),Qc,Qb,(5,[.aP false false (.t9 p52_2) (.t4 p52_3)]),(1014,(Cq p52_4))] k=ob (Nt L p52_0 p52_1 p52_2 p52_3 p52_4) (Bd9 p52_0 p52_1 p52_2 p52_3 p52_4 k):=(Dj _ _ _ jn4 _ _ _ _ _ _ _).trans (eE ((hq (Bf7 L (Rn (Gi L) (L+24) 5 1 4 Brk.u.l.l ⟨[(9,S p52_0.aG),(8,.loc 2018 0),(7,.mp 5),Apz,(2,.loc 1 0),(3,.loc 2018 0),(4,I 0)],[(1,(Af p52_1)),Qc,Qb,(5,[.aP false false (.t9 p52_2) (.t4 p52_3)]),(1014,(Cq p52_4)),(2018,(Cq p52_0))],2015⟩ (some 10) (kN (KA (Gi L) (L+24) 5 Brk (rl [2,2]) (KJ Tryz.f133 k)))) p52_0.aG p52_1 p52_2 p52_3 p52_4 p52_0) λo15=>u7 L p52_0 p52_1 o15)))
def Bph(p48_0:List Ah)(p48_1:Ac)(v:Tu3):St:=⟨[(0,.any),(1,.any),(2,.bK 133 0 Ans),(6,I v.1),(14,lv (.t206 p48_0)),(15,I (p48_0.length:Int)),(16,I v.2.1)],[(1,(Af p48_1)),Qc,Qb,(5,[.aP false false (.t9 v.2.2.1) (.t4 v.2.2.2)])],1006⟩
def Vd [An A Rq](L:Nat)(C7:Int)(C3:Int)(rec:Int->Int->List Yb->List Bool->A)(o19:Dq):A:=
 (cn (o19.1 != 0)
 (lf (0,o19.1,C7,o19.2.1,o19.2.2))
 (rec C3 (Bb (C7+1)) o19.2.1 o19.2.2))
def Vw [An A Rq](L:Nat)(p48_0:List Ah)(p48_1:Ac)(rec:Int->Int->List Yb->List Bool->A)(C3:Int)(C7:Int)(Rb:List Yb)(Rc:List Bool)(nx73:Int->(List Yb)->(List Bool)->Int->A):A:=
 (lw C7 p48_0
 (nx73 C7 Rb Rc C3)
 (lf (1,C3,C7,Rb,Rc)))
def Abo [An A Rq](p48_0:List Ah)(p48_1:Ac)(rec:Int->Int->List Yb->List Bool->A)(C3:Int)(C7:Int)(Rb:List Yb)(Rc:List Bool):A:=Vw L p48_0 p48_1 rec C3 C7 Rb Rc (λC7 Rb Rc C3=>bd (Nt L (gD p48_0 C7) p48_1 Rb Rc (gD p48_0 C7)) λo19=>Vd L C7 C3 rec o19)
def Mk(L:Nat)(p48_0:List Ah)(p48_1:Ac):Nat->Int->Int->List Yb->List Bool->Option Rq
 |0,_,_,_,_=>none
 |n+1,C3,C7,Rb,Rc=>Abo L p48_0 p48_1 (Mk L p48_0 p48_1 n) C3 C7 Rb Rc
theorem Bnl(p48_0:List Ah)(p48_1:Ac):LP (EV (Gi L) (L+24) 6 Bah.w.l.u.l.l) [0,1,2,6,14,15,16] [1,3,4,5] (Bph p48_0 p48_1) [.ret,.exit 0] (λn v=>Mk L p48_0 p48_1 n v.1 v.2.1 v.2.2.1 v.2.2.2) K:=lE (λ_=>rfl) λn v ih=>eE (Vw L p48_0 p48_1 (λC3 C7 Rb Rc=>re (ih (C3,C7,Rb,Rc))) v.1 v.2.1 v.2.2.1 v.2.2.2 (λC7 Rb Rc C3=>hq (Bf6 L (Rn (Gi L) (L+24) 6 1 3 Bah.w.l.u.l.l.w.l.l.u.l ⟨[(21,.agg (Cq (gD p48_0 C7))),(20,.bK 133 0 Ans),(2,.bK 133 0 Ans),(6,I C3),Bdo,(14,lv (.t206 p48_0)),(15,I (p48_0.length:Int)),(16,I C7),(17,B (decide (C7<(p48_0.length:Int)))),(18,.ref (Cq (gD p48_0 C7))),(19,.agg (Cq (gD p48_0 C7)))],[(1,(Af p48_1)),Qc,Qb,(5,[.aP false false (.t9 Rb) (.t4 Rc)]),(1014,(Cq (gD p48_0 C7)))],1006⟩ (some 22) (kN (KA (Gi L) (L+24) 6 Bah.w.l.u.l.l (rl [4,2,2,1]) (Jz (M8 (EV (Gi L) (L+24) 6 Bah.w.l.u.l.l) [0,1,2,6,14,15,16] [1,3,4,5] n) [0,1,2,6,14,15,16] [1,3,4,5] K)))) (gD p48_0 C7) p48_1 Rb Rc (gD p48_0 C7)) λo19=>Vd L C7 C3 (λC3 C7 Rb Rc=>re (ih (C3,C7,Rb,Rc))) o19))
def Bd8(p48_0:List Ah)(p48_1:Ac)(p48_2:List Yb)(p48_3:List Bool)(k:Ei):Dq->Prop:=λo=>k (I o.1) [(1,(Af p48_1)),Qc,Qb,(5,[.aP false false (.t9 o.2.1) (.t4 o.2.2)])]
def Ag2 [An A Dq](L:Nat)(o20:Nat×Tu3):A:=
 (sl o20.1 [(lf (o20.2.1,o20.2.2.2.1,o20.2.2.2.2)),
 (lf (0,o20.2.2.2.1,o20.2.2.2.2))])
def Ahh [An A Dq](L:Nat)(p48_0:List Ah)(p48_1:Ac)(p48_2:List Yb)(p48_3:List Bool)(nx74:A):A:=
 (cn (decide ((p48_0.length:Int)>32))
 (lf (6,p48_2,p48_3))
 nx74)
def Aqj [An A Dq](p48_0:List Ah)(p48_1:Ac)(p48_2:List Yb)(p48_3:List Bool):A:=Ahh L p48_0 p48_1 p48_2 p48_3 (bd (Mk L p48_0 p48_1 (L+24) 0 0 p48_2 p48_3) λo20=>Ag2 L o20)
def j4(p48_0:List Ah)(p48_1:Ac)(p48_2:List Yb)(p48_3:List Bool):Option Dq:=Aqj L p48_0 p48_1 p48_2 p48_3
theorem Bf5(p48_0:List Ah)(p48_1:Ac)(p48_2:List Yb)(p48_3:List Bool):YO (Gi L) (L+24) 7 132 [lv (.t206 p48_0),I 32,.bK 133 0 Ans] [(1,(Af p48_1)),Qc,Qb,(5,[.aP false false (.t9 p48_2) (.t4 p48_3)])] k=ob (j4 L p48_0 p48_1 p48_2 p48_3) (Bd8 p48_0 p48_1 p48_2 p48_3 k):=(Dj _ _ _ jn4 _ _ _ _ _ _ _).trans (eE (Ahh L p48_0 p48_1 p48_2 p48_3 (hq (Bnl L (KA (Gi L) (L+24) 6 Bah (rl [4,1,2,1]) (KJ Tryz.f132 k)) p48_0 p48_1 (L+24) (0,0,p48_2,p48_3)) λo20=>Ag2 L o20)))
def Bec(p61_0:Yb)(p61_1:Ac)(p61_2:List Yb)(p61_3:List Bool)(p61_4:Ao)(p61_5:Ao)(k:Ei):Dq->Prop:=λo=>k (I o.1) [(1,(Af p61_1)),Qc,Qb,(5,[.aP false false (.t9 o.2.1) (.t4 o.2.2)]),(1014,(De p61_4)),(2017,(De p61_5))]
def Agi [An A Dq](p61_0:Yb)(p61_1:Ac)(p61_2:List Yb)(p61_3:List Bool)(p61_4:Ao)(p61_5:Ao):A:=
 (bd (Dk L p61_0) λr22=>
 (cn (r22 != 0)
 (lf (r22,p61_2,p61_3))
 (fq (p61_2.findIdx? λb=>p61_0 == b) (λi23=>
 (cn (p61_3.getD i23 default)
 (lf (4,p61_2,p61_3))
 (fq (p61_2.findIdx? λb=>p61_0 == b) (λi24=>
 (lf (0,p61_2,(p61_3.set i24 true))))
 (lf (0,(p61_2++ [p61_0]),(p61_3++ [true]))))))
 (fq (p61_2.findIdx? λb=>p61_0 == b) (λi25=>
 (lf (0,p61_2,(p61_3.set i25 true))))
 (lf (0,(p61_2++ [p61_0]),(p61_3++ [true])))))))
def j7(p61_0:Yb)(p61_1:Ac)(p61_2:List Yb)(p61_3:List Bool)(p61_4:Ao)(p61_5:Ao):Option Dq:=Agi L p61_0 p61_1 p61_2 p61_3 p61_4 p61_5
theorem Bga(p61_0:Yb)(p61_1:Ac)(p61_2:List Yb)(p61_3:List Bool)(p61_4:Ao)(p61_5:Ao):YO (Gi L) (L+24) 5 79 [.mp 5,S p61_0] [(1,(Af p61_1)),Qc,Qb,(5,[.aP false false (.t9 p61_2) (.t4 p61_3)]),(1014,(De p61_4)),(2017,(De p61_5))] k=ob (j7 L p61_0 p61_1 p61_2 p61_3 p61_4 p61_5) (Bec p61_0 p61_1 p61_2 p61_3 p61_4 p61_5 k):=(Dj _ _ _ jn4 _ _ _ _ _ _ _).trans (eE (Agi L p61_0 p61_1 p61_2 p61_3 p61_4 p61_5))
def Beb(p59_0:Ao)(p59_1:Ac)(p59_2:List Yb)(p59_3:List Bool)(p59_4:Ao)(k:Ei):Dq->Prop:=λo=>k (I o.1) [(1,(Af p59_1)),Qc,Qb,(5,[.aP false false (.t9 o.2.1) (.t4 o.2.2)]),(1014,(De p59_4)),(2017,(De p59_0))]
def u9 [An A Dq](p59_0:Ao)(o26:Dq):A:=
 (cn (o26.1 != 0)
 (lf (o26.1,o26.2.1,o26.2.2))
 (bd (Bh L p59_0.Room 1 1000) λr27=>
 (cn (!r27)
 (lf (2,o26.2.1,o26.2.2))
 (jp (.cn (decide (p59_0.dD<1))
 (.lf true)
 (.lf (decide (p59_0.dD>3)))) (λb28=>
 (cn b28
 (lf (1,o26.2.1,o26.2.2))
 (lf (0,o26.2.1,o26.2.2))))))))
def Agh [An A Dq](p59_0:Ao)(p59_1:Ac)(p59_2:List Yb)(p59_3:List Bool)(p59_4:Ao):A:=(bd (j7 L p59_0.aG p59_1 p59_2 p59_3 p59_4 p59_0) λo26=>u9 L p59_0 o26)
def Nu(p59_0:Ao)(p59_1:Ac)(p59_2:List Yb)(p59_3:List Bool)(p59_4:Ao):Option Dq:=Agh L p59_0 p59_1 p59_2 p59_3 p59_4
theorem Bf9(p59_0:Ao)(p59_1:Ac)(p59_2:List Yb)(p59_3:List Bool)(p59_4:Ao):YO (Gi L) (L+24) 6 139 [.agg (De p59_0),.loc 3 0] [(1,(Af p59_1)),Qc,Qb,(5,[.aP false false (.t9 p59_2) (.t4 p59_3)]),(1014,(De p59_4))] k=ob (Nu L p59_0 p59_1 p59_2 p59_3 p59_4) (Beb p59_0 p59_1 p59_2 p59_3 p59_4 k):=(Dj _ _ _ jn4 _ _ _ _ _ _ _).trans (eE ((hq (Bga L (Rn (Gi L) (L+24) 5 1 4 Brn.u.l.l ⟨[(7,S p59_0.aG),(6,A1r),(5,.mp 5),Apz,(2,A1r),(3,I 0)],[(1,(Af p59_1)),Qc,Qb,(5,[.aP false false (.t9 p59_2) (.t4 p59_3)]),(1014,(De p59_4)),(2017,(De p59_0))],2015⟩ (some 8) (kN (KA (Gi L) (L+24) 5 Brn (rl [2,2]) (KJ Tryz.f139 k)))) p59_0.aG p59_1 p59_2 p59_3 p59_4 p59_0) λo26=>u9 L p59_0 o26)))
def Bpi(p55_0:List Ao)(p55_1:Ac)(v:Tu3):St:=⟨[(0,.any),(1,.any),(2,.bK 139 0 zq8),(6,I v.1),(14,lv (.t213 p55_0)),(15,I (p55_0.length:Int)),(16,I v.2.1)],[(1,(Af p55_1)),Qc,Qb,(5,[.aP false false (.t9 v.2.2.1) (.t4 v.2.2.2)])],1006⟩
def Ve [An A Rq](L:Nat)(Nl:Int)(N0:Int)(rec:Int->Int->List Yb->List Bool->A)(o29:Dq):A:=
 (cn (o29.1 != 0)
 (lf (0,o29.1,Nl,o29.2.1,o29.2.2))
 (rec N0 (Bb (Nl+1)) o29.2.1 o29.2.2))
def Vx [An A Rq](L:Nat)(p55_0:List Ao)(p55_1:Ac)(rec:Int->Int->List Yb->List Bool->A)(N0:Int)(Nl:Int)(Re:List Yb)(Rf:List Bool)(nx82:Int->(List Yb)->(List Bool)->Int->A):A:=
 (lw Nl p55_0
 (nx82 Nl Re Rf N0)
 (lf (1,N0,Nl,Re,Rf)))
def Abp [An A Rq](p55_0:List Ao)(p55_1:Ac)(rec:Int->Int->List Yb->List Bool->A)(N0:Int)(Nl:Int)(Re:List Yb)(Rf:List Bool):A:=Vx L p55_0 p55_1 rec N0 Nl Re Rf (λNl Re Rf N0=>bd (Nu L (gD p55_0 Nl) p55_1 Re Rf (gD p55_0 Nl)) λo29=>Ve L Nl N0 rec o29)
def Ml(L:Nat)(p55_0:List Ao)(p55_1:Ac):Nat->Int->Int->List Yb->List Bool->Option Rq
 |0,_,_,_,_=>none
 |n+1,N0,Nl,Re,Rf=>Abp L p55_0 p55_1 (Ml L p55_0 p55_1 n) N0 Nl Re Rf
theorem Bnm(p55_0:List Ao)(p55_1:Ac):LP (EV (Gi L) (L+24) 6 Bai.w.l.u.l.l) [0,1,2,6,14,15,16] [1,3,4,5] (Bpi p55_0 p55_1) [.ret,.exit 0] (λn v=>Ml L p55_0 p55_1 n v.1 v.2.1 v.2.2.1 v.2.2.2) K:=lE (λ_=>rfl) λn v ih=>eE (Vx L p55_0 p55_1 (λN0 Nl Re Rf=>re (ih (N0,Nl,Re,Rf))) v.1 v.2.1 v.2.2.1 v.2.2.2 (λNl Re Rf N0=>hq (Bf9 L (Rn (Gi L) (L+24) 6 1 3 Bai.w.l.u.l.l.w.l.l.u.l ⟨[(21,.agg (De (gD p55_0 Nl))),(20,.bK 139 0 zq8),(2,.bK 139 0 zq8),(6,I N0),Bdo,(14,lv (.t213 p55_0)),(15,I (p55_0.length:Int)),(16,I Nl),(17,B (decide (Nl<(p55_0.length:Int)))),(18,.ref (De (gD p55_0 Nl))),(19,.agg (De (gD p55_0 Nl)))],[(1,(Af p55_1)),Qc,Qb,(5,[.aP false false (.t9 Re) (.t4 Rf)]),(1014,(De (gD p55_0 Nl)))],1006⟩ (some 22) (kN (KA (Gi L) (L+24) 6 Bai.w.l.u.l.l (rl [4,2,2,1]) (Jz (M8 (EV (Gi L) (L+24) 6 Bai.w.l.u.l.l) [0,1,2,6,14,15,16] [1,3,4,5] n) [0,1,2,6,14,15,16] [1,3,4,5] K)))) (gD p55_0 Nl) p55_1 Re Rf (gD p55_0 Nl)) λo29=>Ve L Nl N0 (λN0 Nl Re Rf=>re (ih (N0,Nl,Re,Rf))) o29))
def A6k(p55_0:List Ao)(p55_1:Ac)(p55_2:List Yb)(p55_3:List Bool)(k:Ei):Dq->Prop:=λo=>k (I o.1) [(1,(Af p55_1)),Qc,Qb,(5,[.aP false false (.t9 o.2.1) (.t4 o.2.2)])]
def Ag4 [An A Dq](L:Nat)(o30:Nat×Tu3):A:=
 (sl o30.1 [(lf (o30.2.1,o30.2.2.2.1,o30.2.2.2.2)),
 (lf (0,o30.2.2.2.1,o30.2.2.2.2))])
def Ahi [An A Dq](L:Nat)(p55_0:List Ao)(p55_1:Ac)(p55_2:List Yb)(p55_3:List Bool)(nx83:A):A:=
 (cn (decide ((p55_0.length:Int)>32))
 (lf (6,p55_2,p55_3))
 nx83)
def Aqk [An A Dq](p55_0:List Ao)(p55_1:Ac)(p55_2:List Yb)(p55_3:List Bool):A:=Ahi L p55_0 p55_1 p55_2 p55_3 (bd (Ml L p55_0 p55_1 (L+24) 0 0 p55_2 p55_3) λo30=>Ag4 L o30)
def j6(p55_0:List Ao)(p55_1:Ac)(p55_2:List Yb)(p55_3:List Bool):Option Dq:=Aqk L p55_0 p55_1 p55_2 p55_3
theorem Bf8(p55_0:List Ao)(p55_1:Ac)(p55_2:List Yb)(p55_3:List Bool):YO (Gi L) (L+24) 7 138 [lv (.t213 p55_0),I 32,.bK 139 0 zq8] [(1,(Af p55_1)),Qc,Qb,(5,[.aP false false (.t9 p55_2) (.t4 p55_3)])] k=ob (j6 L p55_0 p55_1 p55_2 p55_3) (A6k p55_0 p55_1 p55_2 p55_3 k):=(Dj _ _ _ jn4 _ _ _ _ _ _ _).trans (eE (Ahi L p55_0 p55_1 p55_2 p55_3 (hq (Bnm L (KA (Gi L) (L+24) 6 Bai (rl [4,1,2,1]) (KJ Tryz.f138 k)) p55_0 p55_1 (L+24) (0,0,p55_2,p55_3)) λo30=>Ag4 L o30)))
def Bef(p68_0:Yb)(p68_1:Ac)(p68_2:List Yb)(p68_3:List Bool)(p68_4:Ar)(p68_5:Ar)(k:Ei):Dq->Prop:=λo=>k (I o.1) [(1,(Af p68_1)),Qc,Qb,(5,[.aP false false (.t9 o.2.1) (.t4 o.2.2)]),(1014,(Dn p68_4)),(2017,(Dn p68_5))]
def Agk [An A Dq](p68_0:Yb)(p68_1:Ac)(p68_2:List Yb)(p68_3:List Bool)(p68_4:Ar)(p68_5:Ar):A:=
 (bd (Dk L p68_0) λr32=>
 (cn (r32 != 0)
 (lf (r32,p68_2,p68_3))
 (fq (p68_2.findIdx? λb=>p68_0 == b) (λi33=>
 (cn (p68_3.getD i33 default)
 (lf (4,p68_2,p68_3))
 (fq (p68_2.findIdx? λb=>p68_0 == b) (λi34=>
 (lf (0,p68_2,(p68_3.set i34 true))))
 (lf (0,(p68_2++ [p68_0]),(p68_3++ [true]))))))
 (fq (p68_2.findIdx? λb=>p68_0 == b) (λi35=>
 (lf (0,p68_2,(p68_3.set i35 true))))
 (lf (0,(p68_2++ [p68_0]),(p68_3++ [true])))))))
def j9(p68_0:Yb)(p68_1:Ac)(p68_2:List Yb)(p68_3:List Bool)(p68_4:Ar)(p68_5:Ar):Option Dq:=Agk L p68_0 p68_1 p68_2 p68_3 p68_4 p68_5
theorem Bgd(p68_0:Yb)(p68_1:Ac)(p68_2:List Yb)(p68_3:List Bool)(p68_4:Ar)(p68_5:Ar):YO (Gi L) (L+24) 5 79 [.mp 5,S p68_0] [(1,(Af p68_1)),Qc,Qb,(5,[.aP false false (.t9 p68_2) (.t4 p68_3)]),(1014,(Dn p68_4)),(2017,(Dn p68_5))] k=ob (j9 L p68_0 p68_1 p68_2 p68_3 p68_4 p68_5) (Bef p68_0 p68_1 p68_2 p68_3 p68_4 p68_5 k):=(Dj _ _ _ jn4 _ _ _ _ _ _ _).trans (eE (Agk L p68_0 p68_1 p68_2 p68_3 p68_4 p68_5))
def Bee(p66_0:Ar)(p66_1:Ac)(p66_2:List Yb)(p66_3:List Bool)(p66_4:Ar)(k:Ei):Dq->Prop:=λo=>k (I o.1) [(1,(Af p66_1)),Qc,Qb,(5,[.aP false false (.t9 o.2.1) (.t4 o.2.2)]),(1014,(Dn p66_4)),(2017,(Dn p66_0))]
def v6 [An A Dq](p66_0:Ar)(o36:Dq):A:=
 (cn (o36.1 != 0)
 (lf (o36.1,o36.2.1,o36.2.2))
 (bd (Bh L p66_0.Length 1 1000) λr37=>
 (jb (.cn (!r37)
 (.lf true)
 (.bd (Bh L p66_0.Step 1 1000) λr39=>
 (.lf (!r39)))) (λb38=>
 (cn b38
 (lf (2,o36.2.1,o36.2.2))
 (lf (0,o36.2.1,o36.2.2)))))))
def Agj [An A Dq](p66_0:Ar)(p66_1:Ac)(p66_2:List Yb)(p66_3:List Bool)(p66_4:Ar):A:=(bd (j9 L p66_0.aG p66_1 p66_2 p66_3 p66_4 p66_0) λo36=>v6 L p66_0 o36)
def Nv(p66_0:Ar)(p66_1:Ac)(p66_2:List Yb)(p66_3:List Bool)(p66_4:Ar):Option Dq:=Agj L p66_0 p66_1 p66_2 p66_3 p66_4
theorem Bgc(p66_0:Ar)(p66_1:Ac)(p66_2:List Yb)(p66_3:List Bool)(p66_4:Ar):YO (Gi L) (L+24) 6 142 [.agg (Dn p66_0),.loc 3 0] [(1,(Af p66_1)),Qc,Qb,(5,[.aP false false (.t9 p66_2) (.t4 p66_3)]),(1014,(Dn p66_4))] k=ob (Nv L p66_0 p66_1 p66_2 p66_3 p66_4) (Bee p66_0 p66_1 p66_2 p66_3 p66_4 k):=(Dj _ _ _ jn4 _ _ _ _ _ _ _).trans (eE ((hq (Bgd L (Rn (Gi L) (L+24) 5 1 4 Brp.u.l.l ⟨[(7,S p66_0.aG),(6,A1r),(5,.mp 5),Apz,(2,A1r),(3,I 0)],[(1,(Af p66_1)),Qc,Qb,(5,[.aP false false (.t9 p66_2) (.t4 p66_3)]),(1014,(Dn p66_4)),(2017,(Dn p66_0))],2015⟩ (some 8) (kN (KA (Gi L) (L+24) 5 Brp (rl [2,2]) (KJ Tryz.f142 k)))) p66_0.aG p66_1 p66_2 p66_3 p66_4 p66_0) λo36=>v6 L p66_0 o36)))
def Bpj(p62_0:List Ar)(p62_1:Ac)(v:Tu3):St:=⟨[(0,.any),(1,.any),(2,.bK 142 0 zq8),(6,I v.1),(14,lv (.bY p62_0)),(15,I (p62_0.length:Int)),(16,I v.2.1)],[(1,(Af p62_1)),Qc,Qb,(5,[.aP false false (.t9 v.2.2.1) (.t4 v.2.2.2)])],1006⟩
def Vf [An A Rq](L:Nat)(Sf:Int)(Zj:Int)(rec:Int->Int->List Yb->List Bool->A)(o40:Dq):A:=
 (cn (o40.1 != 0)
 (lf (0,o40.1,Sf,o40.2.1,o40.2.2))
 (rec Zj (Bb (Sf+1)) o40.2.1 o40.2.2))
def Vy [An A Rq](L:Nat)(p62_0:List Ar)(p62_1:Ac)(rec:Int->Int->List Yb->List Bool->A)(Zj:Int)(Sf:Int)(Rg:List Yb)(Rh:List Bool)(nx91:Int->(List Yb)->(List Bool)->Int->A):A:=
 (lw Sf p62_0
 (nx91 Sf Rg Rh Zj)
 (lf (1,Zj,Sf,Rg,Rh)))
def Abq [An A Rq](p62_0:List Ar)(p62_1:Ac)(rec:Int->Int->List Yb->List Bool->A)(Zj:Int)(Sf:Int)(Rg:List Yb)(Rh:List Bool):A:=Vy L p62_0 p62_1 rec Zj Sf Rg Rh (λSf Rg Rh Zj=>bd (Nv L (gD p62_0 Sf) p62_1 Rg Rh (gD p62_0 Sf)) λo40=>Vf L Sf Zj rec o40)
def Mm(L:Nat)(p62_0:List Ar)(p62_1:Ac):Nat->Int->Int->List Yb->List Bool->Option Rq
 |0,_,_,_,_=>none
 |n+1,Zj,Sf,Rg,Rh=>Abq L p62_0 p62_1 (Mm L p62_0 p62_1 n) Zj Sf Rg Rh
theorem Bnn(p62_0:List Ar)(p62_1:Ac):LP (EV (Gi L) (L+24) 6 Baj.w.l.u.l.l) [0,1,2,6,14,15,16] [1,3,4,5] (Bpj p62_0 p62_1) [.ret,.exit 0] (λn v=>Mm L p62_0 p62_1 n v.1 v.2.1 v.2.2.1 v.2.2.2) K:=lE (λ_=>rfl) λn v ih=>eE (Vy L p62_0 p62_1 (λZj Sf Rg Rh=>re (ih (Zj,Sf,Rg,Rh))) v.1 v.2.1 v.2.2.1 v.2.2.2 (λSf Rg Rh Zj=>hq (Bgc L (Rn (Gi L) (L+24) 6 1 3 Baj.w.l.u.l.l.w.l.l.u.l ⟨[(21,.agg (Dn (gD p62_0 Sf))),(20,.bK 142 0 zq8),(2,.bK 142 0 zq8),(6,I Zj),Bdo,(14,lv (.bY p62_0)),(15,I (p62_0.length:Int)),(16,I Sf),(17,B (decide (Sf<(p62_0.length:Int)))),(18,.ref (Dn (gD p62_0 Sf))),(19,.agg (Dn (gD p62_0 Sf)))],[(1,(Af p62_1)),Qc,Qb,(5,[.aP false false (.t9 Rg) (.t4 Rh)]),(1014,(Dn (gD p62_0 Sf)))],1006⟩ (some 22) (kN (KA (Gi L) (L+24) 6 Baj.w.l.u.l.l (rl [4,2,2,1]) (Jz (M8 (EV (Gi L) (L+24) 6 Baj.w.l.u.l.l) [0,1,2,6,14,15,16] [1,3,4,5] n) [0,1,2,6,14,15,16] [1,3,4,5] K)))) (gD p62_0 Sf) p62_1 Rg Rh (gD p62_0 Sf)) λo40=>Vf L Sf Zj (λZj Sf Rg Rh=>re (ih (Zj,Sf,Rg,Rh))) o40))
def Bed(p62_0:List Ar)(p62_1:Ac)(p62_2:List Yb)(p62_3:List Bool)(k:Ei):Dq->Prop:=λo=>k (I o.1) [(1,(Af p62_1)),Qc,Qb,(5,[.aP false false (.t9 o.2.1) (.t4 o.2.2)])]
def Ag5 [An A Dq](L:Nat)(o41:Nat×Tu3):A:=
 (sl o41.1 [(lf (o41.2.1,o41.2.2.2.1,o41.2.2.2.2)),
 (lf (0,o41.2.2.2.1,o41.2.2.2.2))])
def Ahj [An A Dq](L:Nat)(p62_0:List Ar)(p62_1:Ac)(p62_2:List Yb)(p62_3:List Bool)(nx92:A):A:=
 (cn (decide ((p62_0.length:Int)>32))
 (lf (6,p62_2,p62_3))
 nx92)
def Aql [An A Dq](p62_0:List Ar)(p62_1:Ac)(p62_2:List Yb)(p62_3:List Bool):A:=Ahj L p62_0 p62_1 p62_2 p62_3 (bd (Mm L p62_0 p62_1 (L+24) 0 0 p62_2 p62_3) λo41=>Ag5 L o41)
def j8(p62_0:List Ar)(p62_1:Ac)(p62_2:List Yb)(p62_3:List Bool):Option Dq:=Aql L p62_0 p62_1 p62_2 p62_3
theorem Bgb(p62_0:List Ar)(p62_1:Ac)(p62_2:List Yb)(p62_3:List Bool):YO (Gi L) (L+24) 7 141 [lv (.bY p62_0),I 32,.bK 142 0 zq8] [(1,(Af p62_1)),Qc,Qb,(5,[.aP false false (.t9 p62_2) (.t4 p62_3)])] k=ob (j8 L p62_0 p62_1 p62_2 p62_3) (Bed p62_0 p62_1 p62_2 p62_3 k):=(Dj _ _ _ jn4 _ _ _ _ _ _ _).trans (eE (Ahj L p62_0 p62_1 p62_2 p62_3 (hq (Bnn L (KA (Gi L) (L+24) 6 Baj (rl [4,1,2,1]) (KJ Tryz.f141 k)) p62_0 p62_1 (L+24) (0,0,p62_2,p62_3)) λo41=>Ag5 L o41)))
def Beg(p71_0:Yb)(p71_1:Ac)(p71_2:List Yb)(p71_3:List Bool)(k:Ei):Dq->Prop:=λo=>k (I o.1) [(1,(Af p71_1)),Qc,Qb,(5,[.aP false false (.t9 o.2.1) (.t4 o.2.2)])]
def Agl [An A Dq](p71_0:Yb)(p71_1:Ac)(p71_2:List Yb)(p71_3:List Bool):A:=
 (bd (Dk L p71_0) λr43=>
 (cn (r43 != 0)
 (lf (r43,p71_2,p71_3))
 (fq (p71_2.findIdx? λb=>p71_0 == b) (λi44=>
 (cn (p71_3.getD i44 default)
 (lf (4,p71_2,p71_3))
 (fq (p71_2.findIdx? λb=>p71_0 == b) (λi45=>
 (lf (0,p71_2,(p71_3.set i45 true))))
 (lf (0,(p71_2++ [p71_0]),(p71_3++ [true]))))))
 (fq (p71_2.findIdx? λb=>p71_0 == b) (λi46=>
 (lf (0,p71_2,(p71_3.set i46 true))))
 (lf (0,(p71_2++ [p71_0]),(p71_3++ [true])))))))
def Nw(p71_0:Yb)(p71_1:Ac)(p71_2:List Yb)(p71_3:List Bool):Option Dq:=Agl L p71_0 p71_1 p71_2 p71_3
theorem Bge(p71_0:Yb)(p71_1:Ac)(p71_2:List Yb)(p71_3:List Bool):YO (Gi L) (L+24) 5 79 [.mp 5,S p71_0] [(1,(Af p71_1)),Qc,Qb,(5,[.aP false false (.t9 p71_2) (.t4 p71_3)])] k=ob (Nw L p71_0 p71_1 p71_2 p71_3) (Beg p71_0 p71_1 p71_2 p71_3 k):=(Dj _ _ _ jn4 _ _ _ _ _ _ _).trans (eE (Agl L p71_0 p71_1 p71_2 p71_3))
def Bpk(p69_0:List Yb)(p69_1:Ac)(v:Tu3):St:=⟨[(0,.any),(1,.any),(2,A1p),(6,I v.1),(14,lv (.t9 p69_0)),(15,I (p69_0.length:Int)),(16,I v.2.1)],[(1,(Af p69_1)),Qc,Qb,(5,[.aP false false (.t9 v.2.2.1) (.t4 v.2.2.2)])],1006⟩
def Vg [An A Rq](L:Nat)(Abb:Int)(Zk:Int)(rec:Int->Int->List Yb->List Bool->A)(o47:Dq):A:=
 (cn (o47.1 != 0)
 (lf (0,o47.1,Abb,o47.2.1,o47.2.2))
 (rec Zk (Bb (Abb+1)) o47.2.1 o47.2.2))
def Vz [An A Rq](L:Nat)(p69_0:List Yb)(p69_1:Ac)(rec:Int->Int->List Yb->List Bool->A)(Zk:Int)(Abb:Int)(Ri:List Yb)(Rj:List Bool)(nx96:Int->(List Yb)->(List Bool)->Int->A):A:=
 (lw Abb p69_0
 (nx96 Abb Ri Rj Zk)
 (lf (1,Zk,Abb,Ri,Rj)))
def Abr [An A Rq](p69_0:List Yb)(p69_1:Ac)(rec:Int->Int->List Yb->List Bool->A)(Zk:Int)(Abb:Int)(Ri:List Yb)(Rj:List Bool):A:=Vz L p69_0 p69_1 rec Zk Abb Ri Rj (λAbb Ri Rj Zk=>bd (Nw L (gD p69_0 Abb) p69_1 Ri Rj) λo47=>Vg L Abb Zk rec o47)
def Mn(L:Nat)(p69_0:List Yb)(p69_1:Ac):Nat->Int->Int->List Yb->List Bool->Option Rq
 |0,_,_,_,_=>none
 |n+1,Zk,Abb,Ri,Rj=>Abr L p69_0 p69_1 (Mn L p69_0 p69_1 n) Zk Abb Ri Rj
theorem Bno(p69_0:List Yb)(p69_1:Ac):LP (EV (Gi L) (L+24) 5 Bag.w.l.u.l.l) [0,1,2,6,14,15,16] [1,3,4,5] (Bpk p69_0 p69_1) [.ret,.exit 0] (λn v=>Mn L p69_0 p69_1 n v.1 v.2.1 v.2.2.1 v.2.2.2) K:=lE (λ_=>rfl) λn v ih=>eE (Vz L p69_0 p69_1 (λZk Abb Ri Rj=>re (ih (Zk,Abb,Ri,Rj))) v.1 v.2.1 v.2.2.1 v.2.2.2 (λAbb Ri Rj Zk=>hq (Bge L (Rn (Gi L) (L+24) 5 1 3 Bag.w.l.u.l.l.w.l.l.u.l ⟨[(21,S (gD p69_0 Abb)),(20,A1p),(2,A1p),(6,I Zk),(8,S (gD p69_0 Abb)),(14,lv (.t9 p69_0)),(15,I (p69_0.length:Int)),(16,I Abb),(17,B (decide (Abb<(p69_0.length:Int)))),(18,.ref [S (gD p69_0 Abb)]),(19,S (gD p69_0 Abb))],[(1,(Af p69_1)),Qc,Qb,(5,[.aP false false (.t9 Ri) (.t4 Rj)])],1006⟩ (some 22) (kN (KA (Gi L) (L+24) 5 Bag.w.l.u.l.l (rl [4,2,2,1]) (Jz (M8 (EV (Gi L) (L+24) 5 Bag.w.l.u.l.l) [0,1,2,6,14,15,16] [1,3,4,5] n) [0,1,2,6,14,15,16] [1,3,4,5] K)))) (gD p69_0 Abb) p69_1 Ri Rj) λo47=>Vg L Abb Zk (λZk Abb Ri Rj=>re (ih (Zk,Abb,Ri,Rj))) o47))
def Azg(p69_0:List Yb)(p69_1:Ac)(p69_2:List Yb)(p69_3:List Bool)(k:Ei):Dq->Prop:=λo=>k (I o.1) [(1,(Af p69_1)),Qc,Qb,(5,[.aP false false (.t9 o.2.1) (.t4 o.2.2)])]
def Ag7 [An A Dq](L:Nat)(o48:Nat×Tu3):A:=
 (sl o48.1 [(lf (o48.2.1,o48.2.2.2.1,o48.2.2.2.2)),
 (lf (0,o48.2.2.2.1,o48.2.2.2.2))])
def Ahk [An A Dq](L:Nat)(p69_0:List Yb)(p69_1:Ac)(p69_2:List Yb)(p69_3:List Bool)(nx97:A):A:=
 (cn (decide ((p69_0.length:Int)>32))
 (lf (6,p69_2,p69_3))
 nx97)
def Aqm [An A Dq](p69_0:List Yb)(p69_1:Ac)(p69_2:List Yb)(p69_3:List Bool):A:=Ahk L p69_0 p69_1 p69_2 p69_3 (bd (Mn L p69_0 p69_1 (L+24) 0 0 p69_2 p69_3) λo48=>Ag7 L o48)
def Kk(p69_0:List Yb)(p69_1:Ac)(p69_2:List Yb)(p69_3:List Bool):Option Dq:=Aqm L p69_0 p69_1 p69_2 p69_3
theorem Aoj(p69_0:List Yb)(p69_1:Ac)(p69_2:List Yb)(p69_3:List Bool):YO (Gi L) (L+24) 6 128 [lv (.t9 p69_0),I 32,A1p] [(1,(Af p69_1)),Qc,Qb,(5,[.aP false false (.t9 p69_2) (.t4 p69_3)])] k=ob (Kk L p69_0 p69_1 p69_2 p69_3) (Azg p69_0 p69_1 p69_2 p69_3 k):=(Dj _ _ _ jn4 _ _ _ _ _ _ _).trans (eE (Ahk L p69_0 p69_1 p69_2 p69_3 (hq (Bno L (KA (Gi L) (L+24) 5 Bag (rl [4,1,2,1]) (KJ Tryz.f128 k)) p69_0 p69_1 (L+24) (0,0,p69_2,p69_3)) λo48=>Ag7 L o48)))
def Bej(p78_0:Yb)(p78_1:Ac)(p78_2:List Yb)(p78_3:List Bool)(p78_4:Al)(p78_5:Al)(k:Ei):Dq->Prop:=λo=>k (I o.1) [(1,(Af p78_1)),Qc,Qb,(5,[.aP false false (.t9 o.2.1) (.t4 o.2.2)]),(1014,(C6 p78_4)),(2017,(C6 p78_5))]
def Agn [An A Dq](p78_0:Yb)(p78_1:Ac)(p78_2:List Yb)(p78_3:List Bool)(p78_4:Al)(p78_5:Al):A:=
 (bd (Dk L p78_0) λr54=>
 (cn (r54 != 0)
 (lf (r54,p78_2,p78_3))
 (fq (p78_2.findIdx? λb=>p78_0 == b) (λi55=>
 (cn (p78_3.getD i55 default)
 (lf (4,p78_2,p78_3))
 (fq (p78_2.findIdx? λb=>p78_0 == b) (λi56=>
 (lf (0,p78_2,(p78_3.set i56 true))))
 (lf (0,(p78_2++ [p78_0]),(p78_3++ [true]))))))
 (fq (p78_2.findIdx? λb=>p78_0 == b) (λi57=>
 (lf (0,p78_2,(p78_3.set i57 true))))
 (lf (0,(p78_2++ [p78_0]),(p78_3++ [true])))))))
def k6(p78_0:Yb)(p78_1:Ac)(p78_2:List Yb)(p78_3:List Bool)(p78_4:Al)(p78_5:Al):Option Dq:=Agn L p78_0 p78_1 p78_2 p78_3 p78_4 p78_5
theorem Bgh(p78_0:Yb)(p78_1:Ac)(p78_2:List Yb)(p78_3:List Bool)(p78_4:Al)(p78_5:Al):YO (Gi L) (L+24) 5 79 [.mp 5,S p78_0] [(1,(Af p78_1)),Qc,Qb,(5,[.aP false false (.t9 p78_2) (.t4 p78_3)]),(1014,(C6 p78_4)),(2017,(C6 p78_5))] k=ob (k6 L p78_0 p78_1 p78_2 p78_3 p78_4 p78_5) (Bej p78_0 p78_1 p78_2 p78_3 p78_4 p78_5 k):=(Dj _ _ _ jn4 _ _ _ _ _ _ _).trans (eE (Agn L p78_0 p78_1 p78_2 p78_3 p78_4 p78_5))
def Bei(p76_0:Al)(p76_1:Ac)(p76_2:List Yb)(p76_3:List Bool)(p76_4:Al)(k:Ei):Dq->Prop:=λo=>k (I o.1) [(1,(Af p76_1)),Qc,Qb,(5,[.aP false false (.t9 o.2.1) (.t4 o.2.2)]),(1014,(C6 p76_4)),(2017,(C6 p76_0))]
def Zc [An A Dq](p76_0:Al)(o58:Dq):A:=
 (cn (o58.1 != 0)
 (lf (o58.1,o58.2.1,o58.2.2))
 (bd (Wk L p76_0) λr59=>
 (lf (r59,o58.2.1,o58.2.2))))
def Agm [An A Dq](p76_0:Al)(p76_1:Ac)(p76_2:List Yb)(p76_3:List Bool)(p76_4:Al):A:=(bd (k6 L p76_0.aG p76_1 p76_2 p76_3 p76_4 p76_0) λo58=>Zc L p76_0 o58)
def Nx(p76_0:Al)(p76_1:Ac)(p76_2:List Yb)(p76_3:List Bool)(p76_4:Al):Option Dq:=Agm L p76_0 p76_1 p76_2 p76_3 p76_4
theorem Bgg(p76_0:Al)(p76_1:Ac)(p76_2:List Yb)(p76_3:List Bool)(p76_4:Al):YO (Gi L) (L+24) 6 150 [.agg (C6 p76_0),.loc 3 0] [(1,(Af p76_1)),Qc,Qb,(5,[.aP false false (.t9 p76_2) (.t4 p76_3)]),(1014,(C6 p76_4))] k=ob (Nx L p76_0 p76_1 p76_2 p76_3 p76_4) (Bei p76_0 p76_1 p76_2 p76_3 p76_4 k):=(Dj _ _ _ jn4 _ _ _ _ _ _ _).trans (eE ((hq (Bgh L (Rn (Gi L) (L+24) 5 1 4 Brw.u.l.l ⟨[(7,S p76_0.aG),(6,A1r),(5,.mp 5),Apz,(2,A1r),(3,I 0)],[(1,(Af p76_1)),Qc,Qb,(5,[.aP false false (.t9 p76_2) (.t4 p76_3)]),(1014,(C6 p76_4)),(2017,(C6 p76_0))],2015⟩ (some 8) (kN (KA (Gi L) (L+24) 5 Brw (rl [2,2]) (KJ Tryz.f150 k)))) p76_0.aG p76_1 p76_2 p76_3 p76_4 p76_0) λo58=>Zc L p76_0 o58)))
def Bpl(p72_0:List Al)(p72_1:Ac)(v:Tu3):St:=⟨[(0,.any),(1,.any),(2,.bK 150 0 zq8),(6,I v.1),(14,lv (.t47 p72_0)),(15,I (p72_0.length:Int)),(16,I v.2.1)],[(1,(Af p72_1)),Qc,Qb,(5,[.aP false false (.t9 v.2.2.1) (.t4 v.2.2.2)])],1006⟩
def Tp [An A Rq](L:Nat)(Zu:Int)(Zl:Int)(rec:Int->Int->List Yb->List Bool->A)(o60:Dq):A:=
 (cn (o60.1 != 0)
 (lf (0,o60.1,Zu,o60.2.1,o60.2.2))
 (rec Zl (Bb (Zu+1)) o60.2.1 o60.2.2))
def Ty [An A Rq](L:Nat)(p72_0:List Al)(p72_1:Ac)(rec:Int->Int->List Yb->List Bool->A)(Zl:Int)(Zu:Int)(Rk:List Yb)(Rl:List Bool)(nx109:Int->(List Yb)->(List Bool)->Int->A):A:=
 (lw Zu p72_0
 (nx109 Zu Rk Rl Zl)
 (lf (1,Zl,Zu,Rk,Rl)))
def Abs [An A Rq](p72_0:List Al)(p72_1:Ac)(rec:Int->Int->List Yb->List Bool->A)(Zl:Int)(Zu:Int)(Rk:List Yb)(Rl:List Bool):A:=Ty L p72_0 p72_1 rec Zl Zu Rk Rl (λZu Rk Rl Zl=>bd (Nx L (gD p72_0 Zu) p72_1 Rk Rl (gD p72_0 Zu)) λo60=>Tp L Zu Zl rec o60)
def Mo(L:Nat)(p72_0:List Al)(p72_1:Ac):Nat->Int->Int->List Yb->List Bool->Option Rq
 |0,_,_,_,_=>none
 |n+1,Zl,Zu,Rk,Rl=>Abs L p72_0 p72_1 (Mo L p72_0 p72_1 n) Zl Zu Rk Rl
theorem Bnp(p72_0:List Al)(p72_1:Ac):LP (EV (Gi L) (L+24) 6 Bak.w.l.u.l.l) [0,1,2,6,14,15,16] [1,3,4,5] (Bpl p72_0 p72_1) [.ret,.exit 0] (λn v=>Mo L p72_0 p72_1 n v.1 v.2.1 v.2.2.1 v.2.2.2) K:=lE (λ_=>rfl) λn v ih=>eE (Ty L p72_0 p72_1 (λZl Zu Rk Rl=>re (ih (Zl,Zu,Rk,Rl))) v.1 v.2.1 v.2.2.1 v.2.2.2 (λZu Rk Rl Zl=>hq (Bgg L (Rn (Gi L) (L+24) 6 1 3 Bak.w.l.u.l.l.w.l.l.u.l ⟨[(21,.agg (C6 (gD p72_0 Zu))),(20,.bK 150 0 zq8),(2,.bK 150 0 zq8),(6,I Zl),Bdo,(14,lv (.t47 p72_0)),(15,I (p72_0.length:Int)),(16,I Zu),(17,B (decide (Zu<(p72_0.length:Int)))),(18,.ref (C6 (gD p72_0 Zu))),(19,.agg (C6 (gD p72_0 Zu)))],[(1,(Af p72_1)),Qc,Qb,(5,[.aP false false (.t9 Rk) (.t4 Rl)]),(1014,(C6 (gD p72_0 Zu)))],1006⟩ (some 22) (kN (KA (Gi L) (L+24) 6 Bak.w.l.u.l.l (rl [4,2,2,1]) (Jz (M8 (EV (Gi L) (L+24) 6 Bak.w.l.u.l.l) [0,1,2,6,14,15,16] [1,3,4,5] n) [0,1,2,6,14,15,16] [1,3,4,5] K)))) (gD p72_0 Zu) p72_1 Rk Rl (gD p72_0 Zu)) λo60=>Tp L Zu Zl (λZl Zu Rk Rl=>re (ih (Zl,Zu,Rk,Rl))) o60))
def Beh(p72_0:List Al)(p72_1:Ac)(p72_2:List Yb)(p72_3:List Bool)(k:Ei):Dq->Prop:=λo=>k (I o.1) [(1,(Af p72_1)),Qc,Qb,(5,[.aP false false (.t9 o.2.1) (.t4 o.2.2)])]
def Aey [An A Dq](L:Nat)(o61:Nat×Tu3):A:=
 (sl o61.1 [(lf (o61.2.1,o61.2.2.2.1,o61.2.2.2.2)),
 (lf (0,o61.2.2.2.1,o61.2.2.2.2))])
def Ae4 [An A Dq](L:Nat)(p72_0:List Al)(p72_1:Ac)(p72_2:List Yb)(p72_3:List Bool)(nx110:A):A:=
 (cn (decide ((p72_0.length:Int)>16))
 (lf (6,p72_2,p72_3))
 nx110)
def Aqn [An A Dq](p72_0:List Al)(p72_1:Ac)(p72_2:List Yb)(p72_3:List Bool):A:=Ae4 L p72_0 p72_1 p72_2 p72_3 (bd (Mo L p72_0 p72_1 (L+24) 0 0 p72_2 p72_3) λo61=>Aey L o61)
def k4(p72_0:List Al)(p72_1:Ac)(p72_2:List Yb)(p72_3:List Bool):Option Dq:=Aqn L p72_0 p72_1 p72_2 p72_3
theorem Bgf(p72_0:List Al)(p72_1:Ac)(p72_2:List Yb)(p72_3:List Bool):YO (Gi L) (L+24) 7 149 [lv (.t47 p72_0),I 16,.bK 150 0 zq8] [(1,(Af p72_1)),Qc,Qb,(5,[.aP false false (.t9 p72_2) (.t4 p72_3)])] k=ob (k4 L p72_0 p72_1 p72_2 p72_3) (Beh p72_0 p72_1 p72_2 p72_3 k):=(Dj _ _ _ jn4 _ _ _ _ _ _ _).trans (eE (Ae4 L p72_0 p72_1 p72_2 p72_3 (hq (Bnp L (KA (Gi L) (L+24) 6 Bak (rl [4,1,2,1]) (KJ Tryz.f149 k)) p72_0 p72_1 (L+24) (0,0,p72_2,p72_3)) λo61=>Aey L o61)))
def Bpm(p79_0:List Bt)(p79_1:Ac)(p79_2:List Yb)(p79_3:List Bool)(v:Lw):St:=⟨[(0,.any),(1,.any),(2,.bK 154 0 At0),(6,I v.1),(14,lv (.cZ p79_0)),(15,I (p79_0.length:Int)),(16,I v.2)],[(1,(Af p79_1)),Qc,Qb,(5,[.aP false false (.t9 p79_2) (.t4 p79_3)])],1006⟩
def Wx [An A Rs](p79_0:List Bt)(p79_1:Ac)(p79_2:List Yb)(p79_3:List Bool)(rec:Int->Int->A)(Ajp:Int)(A1h:Int):A:=
 (lw A1h p79_0
 (bd (Sq L p79_1 (gD p79_0 A1h)) λr63=>
 (cn (r63 != 0)
 (lf (0,r63,A1h))
 (rec Ajp (Bb (A1h+1)))))
 (lf (1,Ajp,A1h)))
def Mp(L:Nat)(p79_0:List Bt)(p79_1:Ac)(p79_2:List Yb)(p79_3:List Bool):Nat->Int->Int->Option Rs
 |0,_,_=>none
 |n+1,Ajp,A1h=>Wx L p79_0 p79_1 p79_2 p79_3 (Mp L p79_0 p79_1 p79_2 p79_3 n) Ajp A1h
theorem Bnq(p79_0:List Bt)(p79_1:Ac)(p79_2:List Yb)(p79_3:List Bool):LP (EV (Gi L) (L+24) 6 Bry.w.l.u.l.l) [0,1,2,6,14,15,16] [1,3,4,5] (Bpm p79_0 p79_1 p79_2 p79_3) [.ret,.exit 0] (λn v=>Mp L p79_0 p79_1 p79_2 p79_3 n v.1 v.2) K:=lE (λ_=>rfl) λn v ih=>eE (Wx L p79_0 p79_1 p79_2 p79_3 (λAjp A1h=>re (ih (Ajp,A1h))) v.1 v.2)
def Bek(p79_0:List Bt)(p79_1:Ac)(p79_2:List Yb)(p79_3:List Bool)(k:Ei):Int->Prop:=λo=>k (I o) [(1,(Af p79_1)),Qc,Qb,(5,[.aP false false (.t9 p79_2) (.t4 p79_3)])]
def Ae0 [An A Int](L:Nat)(o64:Nat×Lw):A:=
 (sl o64.1 [(lf o64.2.1),
 (lf 0)])
def Ae5 [An A Int](L:Nat)(p79_0:List Bt)(p79_1:Ac)(p79_2:List Yb)(p79_3:List Bool)(nx113:A):A:=
 (cn (decide ((p79_0.length:Int)>32))
 (lf 6)
 nx113)
def Aqo [An A Int](p79_0:List Bt)(p79_1:Ac)(p79_2:List Yb)(p79_3:List Bool):A:=Ae5 L p79_0 p79_1 p79_2 p79_3 (bd (Mp L p79_0 p79_1 p79_2 p79_3 (L+24) 0 0) λo64=>Ae0 L o64)
def k7(p79_0:List Bt)(p79_1:Ac)(p79_2:List Yb)(p79_3:List Bool):Option Int:=Aqo L p79_0 p79_1 p79_2 p79_3
theorem Bgi(p79_0:List Bt)(p79_1:Ac)(p79_2:List Yb)(p79_3:List Bool):YO (Gi L) (L+24) 7 153 [lv (.cZ p79_0),I 32,.bK 154 0 At0] [(1,(Af p79_1)),Qc,Qb,(5,[.aP false false (.t9 p79_2) (.t4 p79_3)])] k=ob (k7 L p79_0 p79_1 p79_2 p79_3) (Bek p79_0 p79_1 p79_2 p79_3 k):=(Dj _ _ _ jn4 _ _ _ _ _ _ _).trans (eE (Ae5 L p79_0 p79_1 p79_2 p79_3 (hq (Bnq L (KA (Gi L) (L+24) 6 Bry (rl [4,1,2,1]) (KJ Tryz.f153 k)) p79_0 p79_1 p79_2 p79_3 (L+24) (0,0)) λo64=>Ae0 L o64)))
def Azf(p1_0:Ac)(k:Ei):Dq->Prop:=λo=>k (I o.1) [(1,(Af p1_0)),Qc,Qb,(5,[.aP false false (.t9 o.2.1) (.t4 o.2.2)])]
def Zd [An A Dq](o62:Dq)(p1_0:Ac)(o65:Int):A:=
 (cn (o65 != 0)
 (lf (o65,o62.2.1,o62.2.2))
 (gq ((0:Int)<=11)
 (gq (11<((12:Nat):Int))
 (bd (Aci L p1_0) λr66=>
 (cn (r66 != 0)
 (lf (r66,o62.2.1,o62.2.2))
 (lf (0,o62.2.1,o62.2.2)))))))
def Zr [An A Dq](L:Nat)(p1_0:Ac)(o62:Dq)(nx114:Dq->A):A:=
 (cn (o62.1 != 0)
 (lf (o62.1,o62.2.1,o62.2.2))
 (gq ((0:Int)<=10)
 (gq (10<((12:Nat):Int))
 (nx114 o62))))
def Aez [An A Dq](p1_0:Ac)(o62:Dq):A:=Zr L p1_0 o62 (λo62=>bd (k7 L p1_0.aZ p1_0 o62.2.1 o62.2.2) λo65=>Zd L o62 p1_0 o65)
def Zq [An A Dq](L:Nat)(p1_0:Ac)(o53:Dq)(nx111:Dq->A):A:=
 (cn (o53.1 != 0)
 (lf (o53.1,o53.2.1,o53.2.2))
 (gq ((0:Int)<=9)
 (gq (9<((12:Nat):Int))
 (nx111 o53))))
def Zb [An A Dq](p1_0:Ac)(o53:Dq):A:=Zq L p1_0 o53 (λo53=>bd (k4 L p1_0.aA p1_0 o53.2.1 o53.2.2) λo62=>Aez L p1_0 o62)
def A2w(p1_0:Ac)(o52:Dq):Ei:=(Rn (Gi L) (L+24) 6 1 4 Aw5.u.l ⟨[(6,A1p),(5,.mp 5),(4,lv (.t9 p1_0.aU)),(0,lv (.t9 p1_0.aU)),Apz,(3,I 0)],[(1,(Af p1_0)),Qc,Qb,(5,[.aP false false (.t9 o52.2.1) (.t4 o52.2.2)])],1006⟩ (some 7) (kN (KA (Gi L) (L+24) 6 Aw5 (rl [2,1]) (KJ Tryz.f127 (Rn (Gi L) (L+24) 7 1 4 Bru.u.l ⟨[(5,lv (.t9 p1_0.aU)),(4,.loc 1 9),(3,.bK 127 0 zq8),(0,.loc 4 0),Ajq,(2,I 0)],[(1,(Af p1_0)),Qc,Qb,(5,[.aP false false (.t9 o52.2.1) (.t4 o52.2.2)])],1006⟩ (some 6) (kN (KA (Gi L) (L+24) 7 Bru (rl [2,1]) (KJ Tryz.f147 (Rn (Gi L) (L+24) 8 1 2 Lq.u.l.u.l.l.w.l.l.u.l ⟨[(12,.bK 147 0 zq6),(2,I 0),(4,.bK 147 0 zq6),(6,.sl false 200 1 zq1),(7,I 12),(8,I 8),Awz,(10,.ref [.bK 147 0 zq6]),(11,.bK 147 0 zq6)],[(1,(Af p1_0)),Qc,Qb,(5,[.aP false false (.t9 o52.2.1) (.t4 o52.2.2)])],1006⟩ (some 13) (kN (Pt (EV (Gi L) (L+24) 8 Lq.u.l.u.l.l.w.l.l.u.r) (Gc 1 (Pt (EV (Gi L) (L+24) 8 Lq.u.l.u.l.l.w.r) (Jz (M8 (EV (Gi L) (L+24) 8 Lq.u.l.u.l.l) [0,2,6,7,8] [1,3,4,5] (L+15)) [0,2,6,7,8] [1,3,4,5] (A48 L k)))))))))))))))
theorem Bhl(p1_0:Ac)(o52:Dq)(o53:Dq):Azg p1_0.aU p1_0 o52.2.1 o52.2.2 (A2w L k p1_0 o52) o53=ob (Zb L p1_0 o53) (Azf p1_0 k):=eE (Zq L p1_0 o53 (λo53=>hq (Bgf L (Rn (Gi L) (L+24) 7 1 4 Brv.u.l ⟨[(5,.bK 150 0 zq8),(4,lv (.t47 p1_0.aA)),(3,.loc 1 10),(0,.loc 1 0),Apz,(2,I 0)],[(1,(Af p1_0)),Qc,Qb,(5,[.aP false false (.t9 o53.2.1) (.t4 o53.2.2)])],1006⟩ (some 6) (kN (KA (Gi L) (L+24) 7 Brv (rl [2,1]) (KJ Tryz.f148 (Rn (Gi L) (L+24) 8 1 2 Lq.u.l.u.l.l.w.l.l.u.l ⟨[(12,.bK 148 0 zq7),(2,I 0),(4,.bK 148 0 zq7),(6,.sl false 200 1 zq1),(7,I 12),(8,I 9),Awz,(10,.ref [.bK 148 0 zq7]),(11,.bK 148 0 zq7)],[(1,(Af p1_0)),Qc,Qb,(5,[.aP false false (.t9 o53.2.1) (.t4 o53.2.2)])],1006⟩ (some 13) (kN (Pt (EV (Gi L) (L+24) 8 Lq.u.l.u.l.l.w.l.l.u.r) (Gc 1 (Pt (EV (Gi L) (L+24) 8 Lq.u.l.u.l.l.w.r) (Jz (M8 (EV (Gi L) (L+24) 8 Lq.u.l.u.l.l) [0,2,6,7,8] [1,3,4,5] (L+14)) [0,2,6,7,8] [1,3,4,5] (Gc 0 (Pt (EV (Gi L) (L+24) 8 Lq.u.r) (KJ Tryz.f129 k))))))))))))) p1_0.aA p1_0 o53.2.1 o53.2.2) λo62=>Zr L p1_0 o62 (λo62=>hq (Bgi L (Rn (Gi L) (L+24) 7 1 4 Brx.u.l ⟨[(4,.bK 154 0 At0),(3,lv (.cZ p1_0.aZ)),(2,.loc 1 11),(0,.loc 1 0),(1,I 0)],[(1,(Af p1_0)),Qc,Qb,(5,[.aP false false (.t9 o62.2.1) (.t4 o62.2.2)])],1006⟩ (some 5) (kN (KA (Gi L) (L+24) 7 Brx (rl [2,1]) (KJ Tryz.f152 (Rn (Gi L) (L+24) 8 1 2 Lq.u.l.u.l.l.w.l.l.u.l ⟨[(12,.bK 152 0 At0),(2,I 0),(4,.bK 152 0 At0),(6,.sl false 200 1 zq1),(7,I 12),(8,I 10),Awz,(10,.ref [.bK 152 0 At0]),(11,.bK 152 0 At0)],[(1,(Af p1_0)),Qc,Qb,(5,[.aP false false (.t9 o62.2.1) (.t4 o62.2.2)])],1006⟩ (some 13) (kN (Pt (EV (Gi L) (L+24) 8 Lq.u.l.u.l.l.w.l.l.u.r) (Gc 1 (Pt (EV (Gi L) (L+24) 8 Lq.u.l.u.l.l.w.r) (Jz (M8 (EV (Gi L) (L+24) 8 Lq.u.l.u.l.l) [0,2,6,7,8] [1,3,4,5] (L+13)) [0,2,6,7,8] [1,3,4,5] (Gc 0 (Pt (EV (Gi L) (L+24) 8 Lq.u.r) (KJ Tryz.f129 k))))))))))))) p1_0.aZ p1_0 o62.2.1 o62.2.2) λo65=>Zd L o62 p1_0 o65)))
def Zp [An A Dq](L:Nat)(p1_0:Ac)(o52:Dq)(nx102:Dq->A):A:=
 (cn (o52.1 != 0)
 (lf (o52.1,o52.2.1,o52.2.2))
 (gq ((0:Int)<=8)
 (gq (8<((12:Nat):Int))
 (nx102 o52))))
def Aex [An A Dq](p1_0:Ac)(o52:Dq):A:=Zp L p1_0 o52 (λo52=>bd (Kk L p1_0.aU p1_0 o52.2.1 o52.2.2) λo53=>Zb L p1_0 o53)
def Zo [An A Dq](L:Nat)(p1_0:Ac)(o51:Dq)(nx101:Dq->A):A:=
 (cn (o51.1 != 0)
 (lf (o51.1,o51.2.1,o51.2.2))
 (gq ((0:Int)<=7)
 (gq (7<((12:Nat):Int))
 (nx101 o51))))
def Aew [An A Dq](p1_0:Ac)(o51:Dq):A:=Zo L p1_0 o51 (λo51=>bd (Kk L p1_0.bA p1_0 o51.2.1 o51.2.2) λo52=>Aex L p1_0 o52)
def Zn [An A Dq](L:Nat)(p1_0:Ac)(o50:Dq)(nx100:Dq->A):A:=
 (cn (o50.1 != 0)
 (lf (o50.1,o50.2.1,o50.2.2))
 (gq ((0:Int)<=6)
 (gq (6<((12:Nat):Int))
 (nx100 o50))))
def v7 [An A Dq](p1_0:Ac)(o50:Dq):A:=Zn L p1_0 o50 (λo50=>bd (Kk L p1_0.aT p1_0 o50.2.1 o50.2.2) λo51=>Aew L p1_0 o51)
def A65(p1_0:Ac)(o49:Dq):Ei:=(Rn (Gi L) (L+24) 6 1 4 Aw5.u.l ⟨[(6,A1p),(5,.mp 5),(4,lv (.t9 p1_0.aR)),(0,lv (.t9 p1_0.aR)),Apz,(3,I 0)],[(1,(Af p1_0)),Qc,Qb,(5,[.aP false false (.t9 o49.2.1) (.t4 o49.2.2)])],1006⟩ (some 7) (kN (KA (Gi L) (L+24) 6 Aw5 (rl [2,1]) (KJ Tryz.f127 (Rn (Gi L) (L+24) 7 1 4 Brr.u.l ⟨[(5,lv (.t9 p1_0.aR)),(4,.loc 1 6),(3,.bK 127 0 zq8),(0,.loc 4 0),Ajq,(2,I 0)],[(1,(Af p1_0)),Qc,Qb,(5,[.aP false false (.t9 o49.2.1) (.t4 o49.2.2)])],1006⟩ (some 6) (kN (KA (Gi L) (L+24) 7 Brr (rl [2,1]) (KJ Tryz.f144 (Rn (Gi L) (L+24) 8 1 2 Lq.u.l.u.l.l.w.l.l.u.l ⟨[(12,.bK 144 0 zq6),(2,I 0),(4,.bK 144 0 zq6),(6,.sl false 200 1 zq1),(7,I 12),(8,I 5),Awz,(10,.ref [.bK 144 0 zq6]),(11,.bK 144 0 zq6)],[(1,(Af p1_0)),Qc,Qb,(5,[.aP false false (.t9 o49.2.1) (.t4 o49.2.2)])],1006⟩ (some 13) (kN (Pt (EV (Gi L) (L+24) 8 Lq.u.l.u.l.l.w.l.l.u.r) (Gc 1 (Pt (EV (Gi L) (L+24) 8 Lq.u.l.u.l.l.w.r) (Jz (M8 (EV (Gi L) (L+24) 8 Lq.u.l.u.l.l) [0,2,6,7,8] [1,3,4,5] (L+18)) [0,2,6,7,8] [1,3,4,5] (A48 L k)))))))))))))))
theorem Boe(p1_0:Ac)(o49:Dq)(o50:Dq):Azg p1_0.aR p1_0 o49.2.1 o49.2.2 (A65 L k p1_0 o49) o50=ob (v7 L p1_0 o50) (Azf p1_0 k):=eE (Zn L p1_0 o50 (λo50=>hq (Aoj L (Rn (Gi L) (L+24) 6 1 4 Aw5.u.l ⟨[(6,A1p),(5,.mp 5),(4,lv (.t9 p1_0.aT)),(0,lv (.t9 p1_0.aT)),Apz,(3,I 0)],[(1,(Af p1_0)),Qc,Qb,(5,[.aP false false (.t9 o50.2.1) (.t4 o50.2.2)])],1006⟩ (some 7) (kN (KA (Gi L) (L+24) 6 Aw5 (rl [2,1]) (KJ Tryz.f127 (Rn (Gi L) (L+24) 7 1 4 Brs.u.l ⟨[(5,lv (.t9 p1_0.aT)),(4,.loc 1 7),(3,.bK 127 0 zq8),(0,.loc 4 0),Ajq,(2,I 0)],[(1,(Af p1_0)),Qc,Qb,(5,[.aP false false (.t9 o50.2.1) (.t4 o50.2.2)])],1006⟩ (some 6) (kN (KA (Gi L) (L+24) 7 Brs (rl [2,1]) (KJ Tryz.f145 (Rn (Gi L) (L+24) 8 1 2 Lq.u.l.u.l.l.w.l.l.u.l ⟨[(12,.bK 145 0 zq6),(2,I 0),(4,.bK 145 0 zq6),(6,.sl false 200 1 zq1),(7,I 12),(8,I 6),Awz,(10,.ref [.bK 145 0 zq6]),(11,.bK 145 0 zq6)],[(1,(Af p1_0)),Qc,Qb,(5,[.aP false false (.t9 o50.2.1) (.t4 o50.2.2)])],1006⟩ (some 13) (kN (Pt (EV (Gi L) (L+24) 8 Lq.u.l.u.l.l.w.l.l.u.r) (Gc 1 (Pt (EV (Gi L) (L+24) 8 Lq.u.l.u.l.l.w.r) (Jz (M8 (EV (Gi L) (L+24) 8 Lq.u.l.u.l.l) [0,2,6,7,8] [1,3,4,5] (L+17)) [0,2,6,7,8] [1,3,4,5] (Gc 0 (Pt (EV (Gi L) (L+24) 8 Lq.u.r) (KJ Tryz.f129 k))))))))))))))))) p1_0.aT p1_0 o50.2.1 o50.2.2) λo51=>Zo L p1_0 o51 (λo51=>hq (Aoj L (Rn (Gi L) (L+24) 6 1 4 Aw5.u.l ⟨[(6,A1p),(5,.mp 5),(4,lv (.t9 p1_0.bA)),(0,lv (.t9 p1_0.bA)),Apz,(3,I 0)],[(1,(Af p1_0)),Qc,Qb,(5,[.aP false false (.t9 o51.2.1) (.t4 o51.2.2)])],1006⟩ (some 7) (kN (KA (Gi L) (L+24) 6 Aw5 (rl [2,1]) (KJ Tryz.f127 (Rn (Gi L) (L+24) 7 1 4 Brt.u.l ⟨[(5,lv (.t9 p1_0.bA)),(4,.loc 1 8),(3,.bK 127 0 zq8),(0,.loc 4 0),Ajq,(2,I 0)],[(1,(Af p1_0)),Qc,Qb,(5,[.aP false false (.t9 o51.2.1) (.t4 o51.2.2)])],1006⟩ (some 6) (kN (KA (Gi L) (L+24) 7 Brt (rl [2,1]) (KJ Tryz.f146 (Rn (Gi L) (L+24) 8 1 2 Lq.u.l.u.l.l.w.l.l.u.l ⟨[(12,.bK 146 0 zq6),(2,I 0),(4,.bK 146 0 zq6),(6,.sl false 200 1 zq1),(7,I 12),(8,I 7),Awz,(10,.ref [.bK 146 0 zq6]),(11,.bK 146 0 zq6)],[(1,(Af p1_0)),Qc,Qb,(5,[.aP false false (.t9 o51.2.1) (.t4 o51.2.2)])],1006⟩ (some 13) (kN (Pt (EV (Gi L) (L+24) 8 Lq.u.l.u.l.l.w.l.l.u.r) (Gc 1 (Pt (EV (Gi L) (L+24) 8 Lq.u.l.u.l.l.w.r) (Jz (M8 (EV (Gi L) (L+24) 8 Lq.u.l.u.l.l) [0,2,6,7,8] [1,3,4,5] (L+16)) [0,2,6,7,8] [1,3,4,5] (Gc 0 (Pt (EV (Gi L) (L+24) 8 Lq.u.r) (KJ Tryz.f129 k))))))))))))))))) p1_0.bA p1_0 o51.2.1 o51.2.2) λo52=>Zp L p1_0 o52 (λo52=>ho (Aoj L (A2w L k p1_0 o52) p1_0.aU p1_0 o52.2.1 o52.2.2) λo53=>Bhl L k p1_0 o52 o53))))
def y9 [An A Dq](L:Nat)(p1_0:Ac)(o49:Dq)(nx99:Dq->A):A:=
 (cn (o49.1 != 0)
 (lf (o49.1,o49.2.1,o49.2.2))
 (gq ((0:Int)<=5)
 (gq (5<((12:Nat):Int))
 (nx99 o49))))
def Ag8 [An A Dq](p1_0:Ac)(o49:Dq):A:=y9 L p1_0 o49 (λo49=>bd (Kk L p1_0.aR p1_0 o49.2.1 o49.2.2) λo50=>v7 L p1_0 o50)
def y8 [An A Dq](L:Nat)(p1_0:Ac)(o42:Dq)(nx98:Dq->A):A:=
 (cn (o42.1 != 0)
 (lf (o42.1,o42.2.1,o42.2.2))
 (gq ((0:Int)<=4)
 (gq (4<((12:Nat):Int))
 (nx98 o42))))
def Ag6 [An A Dq](p1_0:Ac)(o42:Dq):A:=y8 L p1_0 o42 (λo42=>bd (Kk L p1_0.aX p1_0 o42.2.1 o42.2.2) λo49=>Ag8 L p1_0 o49)
def y7 [An A Dq](L:Nat)(p1_0:Ac)(o31:Dq)(nx93:Dq->A):A:=
 (cn (o31.1 != 0)
 (lf (o31.1,o31.2.1,o31.2.2))
 (gq ((0:Int)<=3)
 (gq (3<((12:Nat):Int))
 (nx93 o31))))
def v5 [An A Dq](p1_0:Ac)(o31:Dq):A:=y7 L p1_0 o31 (λo31=>bd (j8 L p1_0.bH p1_0 o31.2.1 o31.2.2) λo42=>Ag6 L p1_0 o42)
def A64(p1_0:Ac)(o21:Dq):Ei:=(Rn (Gi L) (L+24) 7 1 4 Brm.u.l ⟨[(5,.bK 139 0 zq8),(4,lv (.t213 p1_0.aO)),(3,.loc 1 3),(0,.loc 1 0),Apz,(2,I 0)],[(1,(Af p1_0)),Qc,Qb,(5,[.aP false false (.t9 o21.2.1) (.t4 o21.2.2)])],1006⟩ (some 6) (kN (KA (Gi L) (L+24) 7 Brm (rl [2,1]) (KJ Tryz.f137 (Rn (Gi L) (L+24) 8 1 2 Lq.u.l.u.l.l.w.l.l.u.l ⟨[(12,.bK 137 0 zq7),(2,I 0),(4,.bK 137 0 zq7),(6,.sl false 200 1 zq1),(7,I 12),(8,I 2),Awz,(10,.ref [.bK 137 0 zq7]),(11,.bK 137 0 zq7)],[(1,(Af p1_0)),Qc,Qb,(5,[.aP false false (.t9 o21.2.1) (.t4 o21.2.2)])],1006⟩ (some 13) (kN (Pt (EV (Gi L) (L+24) 8 Lq.u.l.u.l.l.w.l.l.u.r) (Gc 1 (Pt (EV (Gi L) (L+24) 8 Lq.u.l.u.l.l.w.r) (Jz (M8 (EV (Gi L) (L+24) 8 Lq.u.l.u.l.l) [0,2,6,7,8] [1,3,4,5] (L+21)) [0,2,6,7,8] [1,3,4,5] (A48 L k)))))))))))
theorem Bod(p1_0:Ac)(o21:Dq)(o31:Dq):A6k p1_0.aO p1_0 o21.2.1 o21.2.2 (A64 L k p1_0 o21) o31=ob (v5 L p1_0 o31) (Azf p1_0 k):=eE (y7 L p1_0 o31 (λo31=>hq (Bgb L (Rn (Gi L) (L+24) 7 1 4 Bro.u.l ⟨[(5,.bK 142 0 zq8),(4,lv (.bY p1_0.bH)),(3,.loc 1 4),(0,.loc 1 0),Apz,(2,I 0)],[(1,(Af p1_0)),Qc,Qb,(5,[.aP false false (.t9 o31.2.1) (.t4 o31.2.2)])],1006⟩ (some 6) (kN (KA (Gi L) (L+24) 7 Bro (rl [2,1]) (KJ Tryz.f140 (Rn (Gi L) (L+24) 8 1 2 Lq.u.l.u.l.l.w.l.l.u.l ⟨[(12,.bK 140 0 zq7),(2,I 0),(4,.bK 140 0 zq7),(6,.sl false 200 1 zq1),(7,I 12),(8,I 3),Awz,(10,.ref [.bK 140 0 zq7]),(11,.bK 140 0 zq7)],[(1,(Af p1_0)),Qc,Qb,(5,[.aP false false (.t9 o31.2.1) (.t4 o31.2.2)])],1006⟩ (some 13) (kN (Pt (EV (Gi L) (L+24) 8 Lq.u.l.u.l.l.w.l.l.u.r) (Gc 1 (Pt (EV (Gi L) (L+24) 8 Lq.u.l.u.l.l.w.r) (Jz (M8 (EV (Gi L) (L+24) 8 Lq.u.l.u.l.l) [0,2,6,7,8] [1,3,4,5] (L+20)) [0,2,6,7,8] [1,3,4,5] (Gc 0 (Pt (EV (Gi L) (L+24) 8 Lq.u.r) (KJ Tryz.f129 k))))))))))))) p1_0.bH p1_0 o31.2.1 o31.2.2) λo42=>y8 L p1_0 o42 (λo42=>hq (Aoj L (Rn (Gi L) (L+24) 6 1 4 Aw5.u.l ⟨[(6,A1p),(5,.mp 5),(4,lv (.t9 p1_0.aX)),(0,lv (.t9 p1_0.aX)),Apz,(3,I 0)],[(1,(Af p1_0)),Qc,Qb,(5,[.aP false false (.t9 o42.2.1) (.t4 o42.2.2)])],1006⟩ (some 7) (kN (KA (Gi L) (L+24) 6 Aw5 (rl [2,1]) (KJ Tryz.f127 (Rn (Gi L) (L+24) 7 1 4 Brq.u.l ⟨[(5,lv (.t9 p1_0.aX)),(4,.loc 1 5),(3,.bK 127 0 zq8),(0,.loc 4 0),Ajq,(2,I 0)],[(1,(Af p1_0)),Qc,Qb,(5,[.aP false false (.t9 o42.2.1) (.t4 o42.2.2)])],1006⟩ (some 6) (kN (KA (Gi L) (L+24) 7 Brq (rl [2,1]) (KJ Tryz.f143 (Rn (Gi L) (L+24) 8 1 2 Lq.u.l.u.l.l.w.l.l.u.l ⟨[(12,.bK 143 0 zq6),(2,I 0),(4,.bK 143 0 zq6),(6,.sl false 200 1 zq1),(7,I 12),(8,I 4),Awz,(10,.ref [.bK 143 0 zq6]),(11,.bK 143 0 zq6)],[(1,(Af p1_0)),Qc,Qb,(5,[.aP false false (.t9 o42.2.1) (.t4 o42.2.2)])],1006⟩ (some 13) (kN (Pt (EV (Gi L) (L+24) 8 Lq.u.l.u.l.l.w.l.l.u.r) (Gc 1 (Pt (EV (Gi L) (L+24) 8 Lq.u.l.u.l.l.w.r) (Jz (M8 (EV (Gi L) (L+24) 8 Lq.u.l.u.l.l) [0,2,6,7,8] [1,3,4,5] (L+19)) [0,2,6,7,8] [1,3,4,5] (Gc 0 (Pt (EV (Gi L) (L+24) 8 Lq.u.r) (KJ Tryz.f129 k))))))))))))))))) p1_0.aX p1_0 o42.2.1 o42.2.2) λo49=>y9 L p1_0 o49 (λo49=>ho (Aoj L (A65 L k p1_0 o49) p1_0.aR p1_0 o49.2.1 o49.2.2) λo50=>Boe L k p1_0 o49 o50))))
def y6 [An A Dq](L:Nat)(p1_0:Ac)(o21:Dq)(nx84:Dq->A):A:=
 (cn (o21.1 != 0)
 (lf (o21.1,o21.2.1,o21.2.2))
 (gq ((0:Int)<=2)
 (gq (2<((12:Nat):Int))
 (nx84 o21))))
def Ag3 [An A Dq](p1_0:Ac)(o21:Dq):A:=y6 L p1_0 o21 (λo21=>bd (j6 L p1_0.aO p1_0 o21.2.1 o21.2.2) λo31=>v5 L p1_0 o31)
def y5 [An A Dq](L:Nat)(p1_0:Ac)(o10:Dq)(nx75:Dq->A):A:=
 (cn (o10.1 != 0)
 (lf (o10.1,o10.2.1,o10.2.2))
 (gq ((0:Int)<=1)
 (gq (1<((12:Nat):Int))
 (nx75 o10))))
def Ag1 [An A Dq](p1_0:Ac)(o10:Dq):A:=y5 L p1_0 o10 (λo10=>bd (j4 L p1_0.aM p1_0 o10.2.1 o10.2.2) λo21=>Ag3 L p1_0 o21)
def x9 [An A Dq](L:Nat)(p1_0:Ac)(nx66:A):A:=
 (gq ((0:Int)<=0)
 (gq (0<((12:Nat):Int))
 nx66))
def Ai8 [An A Dq](p1_0:Ac):A:=x9 L p1_0 (bd (f8 L p1_0.bG p1_0) λo10=>Ag1 L p1_0 o10)
def Wq(p1_0:Ac):Option Dq:=Ai8 L p1_0
theorem Bme(p1_0:Ac):YO (Gi L) (L+24) 9 129 [.sl false 200 1 zq1] [(1,(Af p1_0)),Qc,Qb,(5,zq5)] k=ob (Wq L p1_0) (Azf p1_0 k):=(Dj _ _ _ jn4 _ _ _ _ _ _ _).trans (eE (x9 L p1_0 (hq (Bf2 L (Rn (Gi L) (L+24) 6 1 4 c76.u.l ⟨[(7,Bdn),(6,.mp 5),(5,lv (.t83 p1_0.bG)),(0,.mp 5),(1,lv (.t83 p1_0.bG)),(4,I 0)],[(1,(Af p1_0)),Qc,Qb,(5,zq5)],1006⟩ (some 8) (kN (KA (Gi L) (L+24) 6 c76 (rl [2,1]) (KJ Tryz.f76 (Rn (Gi L) (L+24) 7 1 4 Bri.u.l ⟨[(5,lv (.t83 p1_0.bG)),(4,.loc 1 1),(3,.mp 5),(0,.loc 3 0),Ajq,(2,I 0)],[(1,(Af p1_0)),Qc,Qb,(5,zq5)],1006⟩ (some 6) (kN (KA (Gi L) (L+24) 7 Bri (rl [2,1]) (KJ Tryz.f130 (Rn (Gi L) (L+24) 8 1 2 Lq.u.l.u.l.l.w.l.l.u.l ⟨[(12,.bK 130 0 Ans),(2,I 0),(4,.bK 130 0 Ans),(6,.sl false 200 1 zq1),(7,I 12),(8,I 0),Awz,(10,.ref [.bK 130 0 Ans]),(11,.bK 130 0 Ans)],[(1,(Af p1_0)),Qc,Qb,(5,zq5)],1006⟩ (some 13) (kN (Pt (EV (Gi L) (L+24) 8 Lq.u.l.u.l.l.w.l.l.u.r) (Gc 1 (Pt (EV (Gi L) (L+24) 8 Lq.u.l.u.l.l.w.r) (Jz (M8 (EV (Gi L) (L+24) 8 Lq.u.l.u.l.l) [0,2,6,7,8] [1,3,4,5] (L+23)) [0,2,6,7,8] [1,3,4,5] (Gc 0 (Pt (EV (Gi L) (L+24) 8 Lq.u.r) (KJ Tryz.f129 k))))))))))))))))) p1_0.bG p1_0) λo10=>y5 L p1_0 o10 (λo10=>hq (Bf5 L (Rn (Gi L) (L+24) 7 1 4 Brj.u.l ⟨[(5,.bK 133 0 Ans),(4,lv (.t206 p1_0.aM)),(3,.loc 1 2),(0,.loc 1 0),Apz,(2,I 0)],[(1,(Af p1_0)),Qc,Qb,(5,[.aP false false (.t9 o10.2.1) (.t4 o10.2.2)])],1006⟩ (some 6) (kN (KA (Gi L) (L+24) 7 Brj (rl [2,1]) (KJ Tryz.f131 (Rn (Gi L) (L+24) 8 1 2 Lq.u.l.u.l.l.w.l.l.u.l ⟨[(12,.bK 131 0 zq7),(2,I 0),(4,.bK 131 0 zq7),(6,.sl false 200 1 zq1),(7,I 12),(8,I 1),Awz,(10,.ref [.bK 131 0 zq7]),(11,.bK 131 0 zq7)],[(1,(Af p1_0)),Qc,Qb,(5,[.aP false false (.t9 o10.2.1) (.t4 o10.2.2)])],1006⟩ (some 13) (kN (Pt (EV (Gi L) (L+24) 8 Lq.u.l.u.l.l.w.l.l.u.r) (Gc 1 (Pt (EV (Gi L) (L+24) 8 Lq.u.l.u.l.l.w.r) (Jz (M8 (EV (Gi L) (L+24) 8 Lq.u.l.u.l.l) [0,2,6,7,8] [1,3,4,5] (L+22)) [0,2,6,7,8] [1,3,4,5] (Gc 0 (Pt (EV (Gi L) (L+24) 8 Lq.u.r) (KJ Tryz.f129 k))))))))))))) p1_0.aM p1_0 o10.2.1 o10.2.2) λo21=>y6 L p1_0 o21 (λo21=>ho (Bf8 L (A64 L k p1_0 o21) p1_0.aO p1_0 o21.2.1 o21.2.2) λo31=>Bod L k p1_0 o21 o31)))))
def Tq [An A Int](L:Nat)(o67:Dq):A:=
 (lf o67.1)
def An1 [An A Int](a0:Ac):A:=(bd (Wq L a0) λo67=>Tq L o67)
def Acj(a0:Ac):Option Int:=An1 L a0
def X80:N1:=E1 I 80 Ie (Acj L) λa0 r h=>hF Tryz.func80 (C:=Gi L) (oS _) (L+24) (λkk=>eE ((hq (Bme L (Rn (Gi L) (L+24) 9 1 14 c80.w.u.l ⟨[(19,.sl true 200 1 zq1),(18,.bK 156 0 At0),(17,.bK 152 0 At0),(16,.bK 148 0 zq7),(15,.bK 147 0 zq6),(14,.bK 146 0 zq6),(13,.bK 145 0 zq6),(12,.bK 144 0 zq6),(11,.bK 143 0 zq6),(10,.bK 140 0 zq7),(9,.bK 137 0 zq7),(8,.bK 131 0 zq7),(7,.bK 130 0 Ans),Ajq,(2,I 0),zq9,(4,.loc 4 0)],[(1,(Af a0)),Qc,Qb,(5,zq5)],0⟩ (some 20) (kN (KA (Gi L) (L+24) 9 c80 (rl [6,1]) (KE Tryz.f80 kk)))) a0) λo67=>Tq L o67))) h
end
end Go.Proofs.YtgacplpjamkieaaGreat.Ev
