import Derived.Test.YthjhkpgonleelaaGreatDoorDG1
import Derived.Test.YthjhkpgonleelaaGreatDoorDG2
import Derived.Test.YthjhkpgonleelaaGreatDoorDG4
set_option maxRecDepth 100000
set_option maxHeartbeats 4000000
set_option linter.unusedVariables false
set_option linter.unusedSimpArgs false
set_option linter.unnecessarySimpa false
namespace Go.Proofs.YthjhkpgonleelaaGreatDoor.Ev
open Go An
noncomputable section
variable {A:Type} (L n:Nat) (kk:Lr) (K:Ei) (k:Dj)
def B7z:=CC Tryz.f159
def B7s:=CC Tryz.f121
def Bk9(L:Nat):Bc:=oL []
def Bxf(p1_0:List Aa)(p1_1:Aj)(p1_2:Yb)(v:Js):St:=⟨[(0,lv (.t66 p1_0)),(1,.bK 160 0 Agj),(4,I v.1),(7,I (p1_0.length:Int)),(8,I v.2)],[(2,(Bu p1_1)),(3,[S p1_2])],1004⟩
def Yn [An A C3](L:Nat)(p1_0:List Aa)(p1_1:Aj)(p1_2:Yb)(rec:Int->Int->A)(Ag:Int)(Af:Int):A:=
 (lw Af p1_0
 (cn ((gD p1_0 Af).aF.toList == p1_2.toList)
 (lf (0,Af,Af))
 (rec Ag (Bs (Af+1))))
 (lf (1,Ag,Af)))
def Kv(L:Nat)(p1_0:List Aa)(p1_1:Aj)(p1_2:Yb):Nat->Int->Int->Option C3
 |0,_,_=>none
 |n+1,Ag,Af=>Yn L p1_0 p1_1 p1_2 (Kv L p1_0 p1_1 p1_2 n) Ag Af
theorem Bvq(p1_0:List Aa)(p1_1:Aj)(p1_2:Yb):LP (EV (Bk9 L) L 8 B7z.u.l.u.l.l) [0,1,4,7,8] [2,3] (Bxf p1_0 p1_1 p1_2) [.ret,.exit 0] (λn v=>Kv L p1_0 p1_1 p1_2 n v.1 v.2) K:=lE (λ_=>rfl) λn v ih=>eE (Yn L p1_0 p1_1 p1_2 (λAg Af=>re (ih (Ag,Af))) v.1 v.2)
def Brx(p1_0:List Aa)(p1_1:Aj)(p1_2:Yb)(k:Dj):Int->Prop:=λo=>k (I o) [(2,(Bu p1_1)),(3,[S p1_2])]
def Ahb [An A Int](L:Nat)(o1:Nat×Js):A:=
 (sl o1.1 [(lf o1.2.1),
 (lf (-1))])
def Ap8 [An A Int](p1_0:List Aa)(p1_1:Aj)(p1_2:Yb):A:=(bd (Kv L p1_0 p1_1 p1_2 L 0 0) λo1=>Ahb L o1)
def Yg(p1_0:List Aa)(p1_1:Aj)(p1_2:Yb):Option Int:=Ap8 L p1_0 p1_1 p1_2
theorem Bus(p1_0:List Aa)(p1_1:Aj)(p1_2:Yb):YO (Bk9 L) L 9 159 [lv (.t66 p1_0),.bK 160 0 Agj] [(2,(Bu p1_1)),(3,[S p1_2])] k=ob (Yg L p1_0 p1_1 p1_2) (Brx p1_0 p1_1 p1_2 k):=(C4 _ _ _ jn4 _ _ _ _ _ _ _).trans (eE ((hq (Bvq L (KA (Bk9 L) L 8 B7z (rl [2,1,2,1]) (KJ Tryz.f159 k)) p1_0 p1_1 p1_2 L (0,0)) λo1=>Ahb L o1)))
def Y2 [An A Int](L:Nat)(o2:Int):A:=
 (lf o2)
def Av8 [An A Int](a0:Aj)(a1:Yb):A:=(bd (Yg L a0.aA a0 a1) λo2=>Y2 L o2)
def m6(a0:Aj)(a1:Yb):Option Int:=Av8 L a0 a1
def Ca6:F6:=E2 I 121 V6 cS (m6 L) λa0 a1 r h=>hF Tryz.func121 (C:=Bk9 L) (oS _) L (λkk=>eE ((hq (Bus L (Mx (Bk9 L) L 9 1 4 B7s.u.l ⟨[(7,.bK 160 0 Agj),(6,lv (.t66 a0.aA)),(5,.loc 2 2),Tp,T4,(4,I 0)],[(2,(Bu a0)),(3,[S a1])],0⟩ (some 8) (kN (KA (Bk9 L) L 9 B7s (rl [2,1]) (KE Tryz.f121 kk)))) a0.aA a0 a1) λo2=>Y2 L o2))) h
def Bnv:=CC Tryz.f119
def c61:=CC Tryz.f61
def O61:Bc:=oL [X95 L,Ca6 L]
def B0b(p3_0:B9)(p3_1:Aj)(p3_2:List Bp)(p3_3:List Bool)(p3_4:B9)(k:Dj):A7b->Prop:=λo=>k (I o.1) [(1,(Bu p3_1)),Amj,(4,[.aQ true false (.eU o.2.1) (.t4 o.2.2)]),(1013,(P9 p3_4)),(2017,(P9 p3_0)),(2019,[S p3_0.aV,S p3_0.To])]
def Ac5 [An A A7b](p3_0:B9)(p3_1:Aj)(p3_2:List Bp)(p3_3:List Bool)(p3_4:B9):A:=
 (bd (m6 L p3_1 p3_0.aV) λr1=>
 (jb (.cn (decide (r1<0))
 (.lf true)
 (.bd (m6 L p3_1 p3_0.To) λr3=>
 (.lf (decide (r3<0))))) (λb2=>
 (cn b2
 (lf (5,p3_2,p3_3))
 (cn (p3_0.aV.toList == p3_0.To.toList)
 (lf (1,p3_2,p3_3))
 (bd (Be L p3_0.bU 1 1000000000) λr4=>
 (cn (!r4)
 (lf (2,p3_2,p3_3))
 (fq (p3_2.findIdx? λb=>(p3_0.aV == b.a0 && (p3_0.To == b.a1))) (λi5=>
 (cn (p3_3.getD i5 default)
 (lf (4,p3_2,p3_3))
 (fq (p3_2.findIdx? λb=>(p3_0.aV == b.a0 && (p3_0.To == b.a1))) (λi6=>
 (lf (0,p3_2,(p3_3.set i6 true))))
 (lf (0,(p3_2++ [(⟨p3_0.aV,p3_0.To⟩:Bp)]),(p3_3++ [true]))))))
 (fq (p3_2.findIdx? λb=>(p3_0.aV == b.a0 && (p3_0.To == b.a1))) (λi7=>
 (lf (0,p3_2,(p3_3.set i7 true))))
 (lf (0,(p3_2++ [(⟨p3_0.aV,p3_0.To⟩:Bp)]),(p3_3++ [true]))))))))))))
def Rm(p3_0:B9)(p3_1:Aj)(p3_2:List Bp)(p3_3:List Bool)(p3_4:B9):Option A7b:=Ac5 L p3_0 p3_1 p3_2 p3_3 p3_4
theorem B2a(p3_0:B9)(p3_1:Aj)(p3_2:List Bp)(p3_3:List Bool)(p3_4:B9):YO (O61 L) L 8 120 [.agg (P9 p3_0),.loc 1 0,.loc 3 0] [(1,(Bu p3_1)),Amj,(4,[.aQ true false (.eU p3_2) (.t4 p3_3)]),(1013,(P9 p3_4))] k=ob (Rm L p3_0 p3_1 p3_2 p3_3 p3_4) (B0b p3_0 p3_1 p3_2 p3_3 p3_4 k):=(C4 _ _ _ jn4 _ _ _ _ _ _ _).trans (eE (Ac5 L p3_0 p3_1 p3_2 p3_3 p3_4))
def B5w(p1_0:List B9)(p1_1:Aj)(v:Int×Int×List Bp×List Bool):St:=⟨[(0,.any),(1,.any),(2,.bK 120 0 Ahh),(6,I v.1),(14,lv (.t156 p1_0)),(15,I (p1_0.length:Int)),(16,I v.2.1)],[(1,(Bu p1_1)),Amj,(4,[.aQ true false (.eU v.2.2.1) (.t4 v.2.2.2)])],1005⟩
def Wx [An A (Nat×Int×Int×List Bp×List Bool)](L:Nat)(Af:Int)(Ai:Int)(rec:Int->Int->List Bp->List Bool->A)(o8:A7b):A:=
 (cn (o8.1 != 0)
 (lf (0,o8.1,Af,o8.2.1,o8.2.2))
 (rec Ai (Bs (Af+1)) o8.2.1 o8.2.2))
def Xf [An A (Nat×Int×Int×List Bp×List Bool)](L:Nat)(p1_0:List B9)(p1_1:Aj)(rec:Int->Int->List Bp->List Bool->A)(Ai:Int)(Af:Int)(Br:List Bp)(Eh:List Bool)(nx3:Int->(List Bp)->(List Bool)->Int->A):A:=
 (lw Af p1_0
 (nx3 Af Br Eh Ai)
 (lf (1,Ai,Af,Br,Eh)))
def Ads [An A (Nat×Int×Int×List Bp×List Bool)](p1_0:List B9)(p1_1:Aj)(rec:Int->Int->List Bp->List Bool->A)(Ai:Int)(Af:Int)(Br:List Bp)(Eh:List Bool):A:=Xf L p1_0 p1_1 rec Ai Af Br Eh (λAf Br Eh Ai=>bd (Rm L (gD p1_0 Af) p1_1 Br Eh (gD p1_0 Af)) λo8=>Wx L Af Ai rec o8)
def Jk(L:Nat)(p1_0:List B9)(p1_1:Aj):Nat->Int->Int->List Bp->List Bool->Option (Nat×Int×Int×List Bp×List Bool)
 |0,_,_,_,_=>none
 |n+1,Ai,Af,Br,Eh=>Ads L p1_0 p1_1 (Jk L p1_0 p1_1 n) Ai Af Br Eh
theorem B3v(p1_0:List B9)(p1_1:Aj):LP (EV (O61 L) L 8 Bnv.w.l.u.l.l) [0,1,2,6,14,15,16] [1,3,4] (B5w p1_0 p1_1) [.ret,.exit 0] (λn v=>Jk L p1_0 p1_1 n v.1 v.2.1 v.2.2.1 v.2.2.2) K:=lE (λ_=>rfl) λn v ih=>eE (Xf L p1_0 p1_1 (λAi Af Br Eh=>re (ih (Ai,Af,Br,Eh))) v.1 v.2.1 v.2.2.1 v.2.2.2 (λAf Br Eh Ai=>hq (B2a L (Mx (O61 L) L 8 1 3 Bnv.w.l.u.l.l.w.l.l.u.l ⟨[(21,.agg (P9 (gD p1_0 Af))),(20,.bK 120 0 Ahh),(2,.bK 120 0 Ahh),(6,I Ai),(8,.loc 1013 0),(14,lv (.t156 p1_0)),(15,I (p1_0.length:Int)),(16,I Af),(17,B (decide (Af<(p1_0.length:Int)))),(18,.ref (P9 (gD p1_0 Af))),(19,.agg (P9 (gD p1_0 Af)))],[(1,(Bu p1_1)),Amj,(4,[.aQ true false (.eU Br) (.t4 Eh)]),(1013,(P9 (gD p1_0 Af)))],1005⟩ (some 22) (kN (KA (O61 L) L 8 Bnv.w.l.u.l.l (rl [4,2,2,1]) (Hm (I2 (EV (O61 L) L 8 Bnv.w.l.u.l.l) [0,1,2,6,14,15,16] [1,3,4] n) [0,1,2,6,14,15,16] [1,3,4] K)))) (gD p1_0 Af) p1_1 Br Eh (gD p1_0 Af)) λo8=>Wx L Af Ai (λAi Af Br Eh=>re (ih (Ai,Af,Br,Eh))) o8))
def B0a(p1_0:List B9)(p1_1:Aj)(k:Dj):A7b->Prop:=λo=>k (I o.1) [(1,(Bu p1_1)),Amj,(4,[.aQ true false (.eU o.2.1) (.t4 o.2.2)])]
def Ady [An A A7b](L:Nat)(o9:Nat×Int×Int×List Bp×List Bool):A:=
 (sl o9.1 [(lf (o9.2.1,o9.2.2.2.1,o9.2.2.2.2)),
 (lf (0,o9.2.2.2.1,o9.2.2.2.2))])
def Ad9 [An A A7b](L:Nat)(p1_0:List B9)(p1_1:Aj)(nx4:A):A:=
 (cn (decide ((p1_0.length:Int)>32))
 (lf (6,[],[]))
 nx4)
def Am4 [An A A7b](p1_0:List B9)(p1_1:Aj):A:=Ad9 L p1_0 p1_1 (bd (Jk L p1_0 p1_1 L 0 0 [] []) λo9=>Ady L o9)
def Adc(p1_0:List B9)(p1_1:Aj):Option A7b:=Am4 L p1_0 p1_1
theorem B19(p1_0:List B9)(p1_1:Aj):YO (O61 L) L 9 119 [lv (.t156 p1_0),I 32,.bK 120 0 Ahh] [(1,(Bu p1_1)),Amj,(4,[.aQ true false (.eU []) (.t4 [])])] k=ob (Adc L p1_0 p1_1) (B0a p1_0 p1_1 k):=(C4 _ _ _ jn4 _ _ _ _ _ _ _).trans (eE (Ad9 L p1_0 p1_1 (hq (B3v L (KA (O61 L) L 8 Bnv (rl [4,1,2,1]) (KJ Tryz.f119 k)) p1_0 p1_1 L (0,0,[],[])) λo9=>Ady L o9)))
def Wy [An A Int](L:Nat)(o10:A7b):A:=
 (lf o10.1)
def Atx [An A Int](a0:Aj):A:=(bd (Adc L a0.aH a0) λo10=>Wy L o10)
def Ael(a0:Aj):Option Int:=Atx L a0
def X61:F6:=E1 I 61 V6 (Ael L) λa0 r h=>hF Tryz.func61 (C:=O61 L) (oS _) L (λkk=>eE ((hq (B19 L (Mx (O61 L) L 9 1 4 c61.w.l ⟨[(7,.bK 120 0 Ahh),(6,lv (.t156 a0.aH)),(5,.loc 1 3),zq7,(2,I 0),T4],[(1,(Bu a0)),Amj,(4,[.aQ true false (.eU []) (.t4 [])])],0⟩ (some 8) (kN (KA (O61 L) L 9 c61 (rl [4,1]) (KE Tryz.f61 kk)))) a0.aH a0) λo10=>Wy L o10))) h
def c57:=CC Tryz.f57
def c58:=CC Tryz.f58
def c36:=CC Tryz.f36
def O36:Bc:=oL [X35 L,X60 L,X61 L,B02 L,B03 L]
def Bz7(p7_0:Yb)(p7_1:Aj)(p7_2:List Yb)(p7_3:List Bool)(p7_4:Aw)(p7_5:Aw)(k:Dj):Df->Prop:=λo=>k (I o.1) [(1,(Bu p7_1)),(13,[.aQ false false (.t9 o.2.1) (.t4 o.2.2)]),(1022,(Ck p7_4)),(2026,(Ck p7_5))]
def Am2 [An A Df](p7_0:Yb)(p7_1:Aj)(p7_2:List Yb)(p7_3:List Bool)(p7_4:Aw)(p7_5:Aw):A:=
 (bd (Cw L p7_0) λr2=>
 (cn (r2 != 0)
 (lf (r2,p7_2,p7_3))
 (fq (p7_2.findIdx? λb=>p7_0 == b) (λi3=>
 (cn (p7_3.getD i3 default)
 (lf (4,p7_2,p7_3))
 (fq (p7_2.findIdx? λb=>p7_0 == b) (λi4=>
 (lf (0,p7_2,(p7_3.set i4 true))))
 (lf (0,(p7_2++ [p7_0]),(p7_3++ [true]))))))
 (fq (p7_2.findIdx? λb=>p7_0 == b) (λi5=>
 (lf (0,p7_2,(p7_3.set i5 true))))
 (lf (0,(p7_2++ [p7_0]),(p7_3++ [true])))))))
def Ac8(p7_0:Yb)(p7_1:Aj)(p7_2:List Yb)(p7_3:List Bool)(p7_4:Aw)(p7_5:Aw):Option Df:=Am2 L p7_0 p7_1 p7_2 p7_3 p7_4 p7_5
theorem B15(p7_0:Yb)(p7_1:Aj)(p7_2:List Yb)(p7_3:List Bool)(p7_4:Aw)(p7_5:Aw):YO (O36 L) L 6 59 [.mp 13,S p7_0] [(1,(Bu p7_1)),(13,[.aQ false false (.t9 p7_2) (.t4 p7_3)]),(1022,(Ck p7_4)),(2026,(Ck p7_5))] k=ob (Ac8 L p7_0 p7_1 p7_2 p7_3 p7_4 p7_5) (Bz7 p7_0 p7_1 p7_2 p7_3 p7_4 p7_5 k):=(C4 _ _ _ jn4 _ _ _ _ _ _ _).trans (eE (Am2 L p7_0 p7_1 p7_2 p7_3 p7_4 p7_5))
def Bz6(p5_0:Aw)(p5_1:Aj)(p5_2:List Yb)(p5_3:List Bool)(p5_4:Aw)(k:Dj):Df->Prop:=λo=>k (I o.1) [(1,(Bu p5_1)),(13,[.aQ false false (.t9 o.2.1) (.t4 o.2.2)]),(1022,(Ck p5_4)),(2026,(Ck p5_0))]
def Adv [An A Df](p5_0:Aw)(o6:Df):A:=
 (cn (o6.1 != 0)
 (lf (o6.1,o6.2.1,o6.2.2))
 (bd (Ju L p5_0.bO) λr7=>
 (cn (!r7)
 (lf (1,o6.2.1,o6.2.2))
 (bd (Sl L p5_0.bO p5_0.N) λr8=>
 (cn (!r8)
 (lf (2,o6.2.1,o6.2.2))
 (lf (0,o6.2.1,o6.2.2)))))))
def Am1 [An A Df](p5_0:Aw)(p5_1:Aj)(p5_2:List Yb)(p5_3:List Bool)(p5_4:Aw):A:=(bd (Ac8 L p5_0.aF p5_1 p5_2 p5_3 p5_4 p5_0) λo6=>Adv L p5_0 o6)
def Ml(p5_0:Aw)(p5_1:Aj)(p5_2:List Yb)(p5_3:List Bool)(p5_4:Aw):Option Df:=Am1 L p5_0 p5_1 p5_2 p5_3 p5_4
theorem B14(p5_0:Aw)(p5_1:Aj)(p5_2:List Yb)(p5_3:List Bool)(p5_4:Aw):YO (O36 L) L 7 87 [.mp 13,.agg (Ck p5_0)] [(1,(Bu p5_1)),(13,[.aQ false false (.t9 p5_2) (.t4 p5_3)]),(1022,(Ck p5_4))] k=ob (Ml L p5_0 p5_1 p5_2 p5_3 p5_4) (Bz6 p5_0 p5_1 p5_2 p5_3 p5_4 k):=(C4 _ _ _ jn4 _ _ _ _ _ _ _).trans (eE ((hq (B15 L (Mx (O36 L) L 6 1 4 c87.u.l.l ⟨[(8,S p5_0.aF),(7,.loc 2026 0),(6,.mp 13),(0,.mp 13),(3,.loc 2026 0),(4,I 0)],[(1,(Bu p5_1)),(13,[.aQ false false (.t9 p5_2) (.t4 p5_3)]),(1022,(Ck p5_4)),(2026,(Ck p5_0))],2023⟩ (some 9) (kN (KA (O36 L) L 6 c87 (rl [2,2]) (KJ Tryz.f87 k)))) p5_0.aF p5_1 p5_2 p5_3 p5_4 p5_0) λo6=>Adv L p5_0 o6)))
def B5d(p1_0:List Aw)(p1_1:Aj)(v:Tu4):St:=⟨[(0,.any),(1,.any),(2,Bq3),(6,I v.1),(14,lv (.dO p1_0)),(15,I (p1_0.length:Int)),(16,I v.2.1)],[(1,(Bu p1_1)),(13,[.aQ false false (.t9 v.2.2.1) (.t4 v.2.2.2)])],1014⟩
def Wu [An A P8](L:Nat)(Af:Int)(Ai:Int)(rec:Int->Int->List Yb->List Bool->A)(o9:Df):A:=
 (cn (o9.1 != 0)
 (lf (0,o9.1,Af,o9.2.1,o9.2.2))
 (rec Ai (Bs (Af+1)) o9.2.1 o9.2.2))
def Xc [An A P8](L:Nat)(p1_0:List Aw)(p1_1:Aj)(rec:Int->Int->List Yb->List Bool->A)(Ai:Int)(Af:Int)(Br:List Yb)(Eh:List Bool)(nx7:Int->(List Yb)->(List Bool)->Int->A):A:=
 (lw Af p1_0
 (nx7 Af Br Eh Ai)
 (lf (1,Ai,Af,Br,Eh)))
def Adq [An A P8](p1_0:List Aw)(p1_1:Aj)(rec:Int->Int->List Yb->List Bool->A)(Ai:Int)(Af:Int)(Br:List Yb)(Eh:List Bool):A:=Xc L p1_0 p1_1 rec Ai Af Br Eh (λAf Br Eh Ai=>bd (Ml L (gD p1_0 Af) p1_1 Br Eh (gD p1_0 Af)) λo9=>Wu L Af Ai rec o9)
def Ji(L:Nat)(p1_0:List Aw)(p1_1:Aj):Nat->Int->Int->List Yb->List Bool->Option P8
 |0,_,_,_,_=>none
 |n+1,Ai,Af,Br,Eh=>Adq L p1_0 p1_1 (Ji L p1_0 p1_1 n) Ai Af Br Eh
theorem B3c(p1_0:List Aw)(p1_1:Aj):LP (EV (O36 L) L 7 c86.w.l.u.l.l) [0,1,2,6,14,15,16] [1,13] (B5d p1_0 p1_1) [.ret,.exit 0] (λn v=>Ji L p1_0 p1_1 n v.1 v.2.1 v.2.2.1 v.2.2.2) K:=lE (λ_=>rfl) λn v ih=>eE (Xc L p1_0 p1_1 (λAi Af Br Eh=>re (ih (Ai,Af,Br,Eh))) v.1 v.2.1 v.2.2.1 v.2.2.2 (λAf Br Eh Ai=>hq (B14 L (Mx (O36 L) L 7 1 3 c86.w.l.u.l.l.w.l.l.u.l ⟨[(21,.agg (Ck (gD p1_0 Af))),(20,Bq3),(2,Bq3),(6,I Ai),(8,.loc 1022 0),(14,lv (.dO p1_0)),(15,I (p1_0.length:Int)),(16,I Af),(17,B (decide (Af<(p1_0.length:Int)))),(18,.ref (Ck (gD p1_0 Af))),(19,.agg (Ck (gD p1_0 Af)))],[(1,(Bu p1_1)),(13,[.aQ false false (.t9 Br) (.t4 Eh)]),(1022,(Ck (gD p1_0 Af)))],1014⟩ (some 22) (kN (KA (O36 L) L 7 c86.w.l.u.l.l (rl [4,2,2,1]) (Hm (I2 (EV (O36 L) L 7 c86.w.l.u.l.l) [0,1,2,6,14,15,16] [1,13] n) [0,1,2,6,14,15,16] [1,13] K)))) (gD p1_0 Af) p1_1 Br Eh (gD p1_0 Af)) λo9=>Wu L Af Ai (λAi Af Br Eh=>re (ih (Ai,Af,Br,Eh))) o9))
def Bz5(p1_0:List Aw)(p1_1:Aj)(k:Dj):Df->Prop:=λo=>k (I o.1) [(1,(Bu p1_1)),(13,[.aQ false false (.t9 o.2.1) (.t4 o.2.2)])]
def Anl [An A Df](L:Nat)(o10:Nat×Tu4):A:=
 (sl o10.1 [(lf (o10.2.1,o10.2.2.2.1,o10.2.2.2.2)),
 (lf (0,o10.2.2.2.1,o10.2.2.2.2))])
def An3 [An A Df](L:Nat)(p1_0:List Aw)(p1_1:Aj)(nx8:A):A:=
 (cn (decide ((p1_0.length:Int)>32))
 (lf (6,[],[]))
 nx8)
def Ayx [An A Df](p1_0:List Aw)(p1_1:Aj):A:=An3 L p1_0 p1_1 (bd (Ji L p1_0 p1_1 L 0 0 [] []) λo10=>Anl L o10)
def Ac7(p1_0:List Aw)(p1_1:Aj):Option Df:=Ayx L p1_0 p1_1
theorem B13(p1_0:List Aw)(p1_1:Aj):YO (O36 L) L 8 86 [lv (.dO p1_0),I 32,Bq3] [(1,(Bu p1_1)),(13,zq8)] k=ob (Ac7 L p1_0 p1_1) (Bz5 p1_0 p1_1 k):=(C4 _ _ _ jn4 _ _ _ _ _ _ _).trans (eE (An3 L p1_0 p1_1 (hq (B3c L (KA (O36 L) L 7 c86 (rl [4,1,2,1]) (KJ Tryz.f86 k)) p1_0 p1_1 L (0,0,[],[])) λo10=>Anl L o10)))
def Br4(p14_0:Yb)(p14_1:Aj)(p14_2:List Yb)(p14_3:List Bool)(p14_4:List Yb)(p14_5:List Bool)(p14_6:Aa)(p14_7:Aa)(k:Dj):Df->Prop:=λo=>k (I o.1) [(1,(Bu p14_1)),A8r,(13,[.aQ false false (.t9 p14_2) (.t4 p14_3)]),(24,[.aQ false false (.t9 o.2.1) (.t4 o.2.2)]),(1033,(Ae p14_6)),(2036,(Ae p14_7))]
def Akq [An A Df](p14_0:Yb)(p14_1:Aj)(p14_2:List Yb)(p14_3:List Bool)(p14_4:List Yb)(p14_5:List Bool)(p14_6:Aa)(p14_7:Aa):A:=
 (bd (Cw L p14_0) λr12=>
 (cn (r12 != 0)
 (lf (r12,p14_4,p14_5))
 (fq (p14_4.findIdx? λb=>p14_0 == b) (λi13=>
 (cn (p14_5.getD i13 default)
 (lf (4,p14_4,p14_5))
 (fq (p14_4.findIdx? λb=>p14_0 == b) (λi14=>
 (lf (0,p14_4,(p14_5.set i14 true))))
 (lf (0,(p14_4++ [p14_0]),(p14_5++ [true]))))))
 (fq (p14_4.findIdx? λb=>p14_0 == b) (λi15=>
 (lf (0,p14_4,(p14_5.set i15 true))))
 (lf (0,(p14_4++ [p14_0]),(p14_5++ [true])))))))
def t6(p14_0:Yb)(p14_1:Aj)(p14_2:List Yb)(p14_3:List Bool)(p14_4:List Yb)(p14_5:List Bool)(p14_6:Aa)(p14_7:Aa):Option Df:=Akq L p14_0 p14_1 p14_2 p14_3 p14_4 p14_5 p14_6 p14_7
theorem Bux(p14_0:Yb)(p14_1:Aj)(p14_2:List Yb)(p14_3:List Bool)(p14_4:List Yb)(p14_5:List Bool)(p14_6:Aa)(p14_7:Aa):YO (O36 L) L 7 59 [.mp 24,S p14_0] [(1,(Bu p14_1)),A8r,(13,[.aQ false false (.t9 p14_2) (.t4 p14_3)]),(24,[.aQ false false (.t9 p14_4) (.t4 p14_5)]),(1033,(Ae p14_6)),(2036,(Ae p14_7))] k=ob (t6 L p14_0 p14_1 p14_2 p14_3 p14_4 p14_5 p14_6 p14_7) (Br4 p14_0 p14_1 p14_2 p14_3 p14_4 p14_5 p14_6 p14_7 k):=(C4 _ _ _ jn4 _ _ _ _ _ _ _).trans (eE (Akq L p14_0 p14_1 p14_2 p14_3 p14_4 p14_5 p14_6 p14_7))
def Br3(p12_0:Aa)(p12_1:Aj)(p12_2:List Yb)(p12_3:List Bool)(p12_4:List Yb)(p12_5:List Bool)(p12_6:Aa)(k:Dj):Df->Prop:=λo=>k (I o.1) [(1,(Bu p12_1)),A8r,(13,[.aQ false false (.t9 p12_2) (.t4 p12_3)]),(24,[.aQ false false (.t9 o.2.1) (.t4 o.2.2)]),(1033,(Ae p12_6)),(2036,(Ae p12_0))]
def Abi [An A Df](p12_0:Aa)(o16:Df):A:=
 (cn (o16.1 != 0)
 (lf (o16.1,o16.2.1,o16.2.2))
 (bd (Aht L p12_0) λr17=>
 (lf (r17,o16.2.1,o16.2.2))))
def Akp [An A Df](p12_0:Aa)(p12_1:Aj)(p12_2:List Yb)(p12_3:List Bool)(p12_4:List Yb)(p12_5:List Bool)(p12_6:Aa):A:=(bd (t6 L p12_0.aF p12_1 p12_2 p12_3 p12_4 p12_5 p12_6 p12_0) λo16=>Abi L p12_0 o16)
def Kk(p12_0:Aa)(p12_1:Aj)(p12_2:List Yb)(p12_3:List Bool)(p12_4:List Yb)(p12_5:List Bool)(p12_6:Aa):Option Df:=Akp L p12_0 p12_1 p12_2 p12_3 p12_4 p12_5 p12_6
theorem Buw(p12_0:Aa)(p12_1:Aj)(p12_2:List Yb)(p12_3:List Bool)(p12_4:List Yb)(p12_5:List Bool)(p12_6:Aa):YO (O36 L) L 8 58 [.agg (Ae p12_0),.loc 5 0] [(1,(Bu p12_1)),A8r,(13,[.aQ false false (.t9 p12_2) (.t4 p12_3)]),(24,[.aQ false false (.t9 p12_4) (.t4 p12_5)]),(1033,(Ae p12_6))] k=ob (Kk L p12_0 p12_1 p12_2 p12_3 p12_4 p12_5 p12_6) (Br3 p12_0 p12_1 p12_2 p12_3 p12_4 p12_5 p12_6 k):=(C4 _ _ _ jn4 _ _ _ _ _ _ _).trans (eE ((hq (Bux L (Mx (O36 L) L 7 1 4 c58.u.l.l ⟨[(7,S p12_0.aF),(6,.loc 2036 0),(5,.mp 24),(1,.loc 5 0),(2,.loc 2036 0),(3,I 0)],[(1,(Bu p12_1)),A8r,(13,[.aQ false false (.t9 p12_2) (.t4 p12_3)]),(24,[.aQ false false (.t9 p12_4) (.t4 p12_5)]),(1033,(Ae p12_6)),(2036,(Ae p12_0))],2034⟩ (some 8) (kN (KA (O36 L) L 7 c58 (rl [2,2]) (KJ Tryz.f58 k)))) p12_0.aF p12_1 p12_2 p12_3 p12_4 p12_5 p12_6 p12_0) λo16=>Abi L p12_0 o16)))
def B5e(p8_0:List Aa)(p8_1:Aj)(p8_2:List Yb)(p8_3:List Bool)(v:Tu4):St:=⟨[(0,.any),(1,.any),(2,Bq2),(6,I v.1),(14,lv (.t66 p8_0)),(15,I (p8_0.length:Int)),(16,I v.2.1)],[(1,(Bu p8_1)),A8r,(13,[.aQ false false (.t9 p8_2) (.t4 p8_3)]),(24,[.aQ false false (.t9 v.2.2.1) (.t4 v.2.2.2)])],1025⟩
def Ux [An A P8](L:Nat)(Bq:Int)(Bz:Int)(rec:Int->Int->List Yb->List Bool->A)(o18:Df):A:=
 (cn (o18.1 != 0)
 (lf (0,o18.1,Bq,o18.2.1,o18.2.2))
 (rec Bz (Bs (Bq+1)) o18.2.1 o18.2.2))
def U6 [An A P8](L:Nat)(p8_0:List Aa)(p8_1:Aj)(p8_2:List Yb)(p8_3:List Bool)(rec:Int->Int->List Yb->List Bool->A)(Bz:Int)(Bq:Int)(Rt:List Yb)(Ru:List Bool)(nx16:Int->(List Yb)->(List Bool)->Int->A):A:=
 (lw Bq p8_0
 (nx16 Bq Rt Ru Bz)
 (lf (1,Bz,Bq,Rt,Ru)))
def Adr [An A P8](p8_0:List Aa)(p8_1:Aj)(p8_2:List Yb)(p8_3:List Bool)(rec:Int->Int->List Yb->List Bool->A)(Bz:Int)(Bq:Int)(Rt:List Yb)(Ru:List Bool):A:=U6 L p8_0 p8_1 p8_2 p8_3 rec Bz Bq Rt Ru (λBq Rt Ru Bz=>bd (Kk L (gD p8_0 Bq) p8_1 p8_2 p8_3 Rt Ru (gD p8_0 Bq)) λo18=>Ux L Bq Bz rec o18)
def Jj(L:Nat)(p8_0:List Aa)(p8_1:Aj)(p8_2:List Yb)(p8_3:List Bool):Nat->Int->Int->List Yb->List Bool->Option P8
 |0,_,_,_,_=>none
 |n+1,Bz,Bq,Rt,Ru=>Adr L p8_0 p8_1 p8_2 p8_3 (Jj L p8_0 p8_1 p8_2 p8_3 n) Bz Bq Rt Ru
theorem B3d(p8_0:List Aa)(p8_1:Aj)(p8_2:List Yb)(p8_3:List Bool):LP (EV (O36 L) L 8 c57.w.l.u.l.l) [0,1,2,6,14,15,16] [1,5,13,24] (B5e p8_0 p8_1 p8_2 p8_3) [.ret,.exit 0] (λn v=>Jj L p8_0 p8_1 p8_2 p8_3 n v.1 v.2.1 v.2.2.1 v.2.2.2) K:=lE (λ_=>rfl) λn v ih=>eE (U6 L p8_0 p8_1 p8_2 p8_3 (λBz Bq Rt Ru=>re (ih (Bz,Bq,Rt,Ru))) v.1 v.2.1 v.2.2.1 v.2.2.2 (λBq Rt Ru Bz=>hq (Buw L (Mx (O36 L) L 8 1 3 c57.w.l.u.l.l.w.l.l.u.l ⟨[(21,.agg (Ae (gD p8_0 Bq))),(20,Bq2),(2,Bq2),(6,I Bz),(8,.loc 1033 0),(14,lv (.t66 p8_0)),(15,I (p8_0.length:Int)),(16,I Bq),(17,B (decide (Bq<(p8_0.length:Int)))),(18,.ref (Ae (gD p8_0 Bq))),(19,.agg (Ae (gD p8_0 Bq)))],[(1,(Bu p8_1)),A8r,(13,[.aQ false false (.t9 p8_2) (.t4 p8_3)]),(24,[.aQ false false (.t9 Rt) (.t4 Ru)]),(1033,(Ae (gD p8_0 Bq)))],1025⟩ (some 22) (kN (KA (O36 L) L 8 c57.w.l.u.l.l (rl [4,2,2,1]) (Hm (I2 (EV (O36 L) L 8 c57.w.l.u.l.l) [0,1,2,6,14,15,16] [1,5,13,24] n) [0,1,2,6,14,15,16] [1,5,13,24] K)))) (gD p8_0 Bq) p8_1 p8_2 p8_3 Rt Ru (gD p8_0 Bq)) λo18=>Ux L Bq Bz (λBz Bq Rt Ru=>re (ih (Bz,Bq,Rt,Ru))) o18))
def Bz8(p8_0:List Aa)(p8_1:Aj)(p8_2:List Yb)(p8_3:List Bool)(k:Dj):Df->Prop:=λo=>k (I o.1) [(1,(Bu p8_1)),A8r,(13,[.aQ false false (.t9 p8_2) (.t4 p8_3)]),(24,[.aQ false false (.t9 o.2.1) (.t4 o.2.2)])]
def Ak2 [An A Df](L:Nat)(o19:Nat×Tu4):A:=
 (sl o19.1 [(lf (o19.2.1,o19.2.2.2.1,o19.2.2.2.2)),
 (lf (0,o19.2.2.2.1,o19.2.2.2.2))])
def Ak9 [An A Df](L:Nat)(p8_0:List Aa)(p8_1:Aj)(p8_2:List Yb)(p8_3:List Bool)(nx17:A):A:=
 (cn (decide ((p8_0.length:Int)>16))
 (lf (6,[],[]))
 nx17)
def Ayy [An A Df](p8_0:List Aa)(p8_1:Aj)(p8_2:List Yb)(p8_3:List Bool):A:=Ak9 L p8_0 p8_1 p8_2 p8_3 (bd (Jj L p8_0 p8_1 p8_2 p8_3 L 0 0 [] []) λo19=>Ak2 L o19)
def Ac9(p8_0:List Aa)(p8_1:Aj)(p8_2:List Yb)(p8_3:List Bool):Option Df:=Ayy L p8_0 p8_1 p8_2 p8_3
theorem B16(p8_0:List Aa)(p8_1:Aj)(p8_2:List Yb)(p8_3:List Bool):YO (O36 L) L 9 57 [lv (.t66 p8_0),I 16,Bq2] [(1,(Bu p8_1)),A8r,(13,[.aQ false false (.t9 p8_2) (.t4 p8_3)]),(24,zq8)] k=ob (Ac9 L p8_0 p8_1 p8_2 p8_3) (Bz8 p8_0 p8_1 p8_2 p8_3 k):=(C4 _ _ _ jn4 _ _ _ _ _ _ _).trans (eE (Ak9 L p8_0 p8_1 p8_2 p8_3 (hq (B3d L (KA (O36 L) L 8 c57 (rl [4,1,2,1]) (KJ Tryz.f57 k)) p8_0 p8_1 p8_2 p8_3 L (0,0,[],[])) λo19=>Ak2 L o19)))
def Uy [An A Int](a0:Aj)(o20:Df):A:=
 (cn (o20.1 != 0)
 (lf o20.1)
 (bd (Ael L a0) λr21=>
 (lf r21)))
def U7 [An A Int](L:Nat)(a0:Aj)(o11:Df)(nx18:Df->A):A:=
 (cn (o11.1 != 0)
 (lf o11.1)
 (cn ((a0.aA.length:Int) == 0)
 (lf 7)
 (nx18 o11)))
def Adw [An A Int](a0:Aj)(o11:Df):A:=U7 L a0 o11 (λo11=>bd (Ac9 L a0.aA a0 o11.2.1 o11.2.2) λo20=>Uy L a0 o20)
def Xd [An A Int](a0:Aj)(nx9:A):A:=
 (bd (Cw L a0.aF) λr1=>
 (cn (r1 != 0)
 (lf r1)
 nx9))
def Atw [An A Int](a0:Aj):A:=Xd L a0 (bd (Ac7 L a0.aJ a0) λo11=>Adw L a0 o11)
def Tq(a0:Aj):Option Int:=Atw L a0
def X36:F6:=E1 I 36 V6 (Tq L) λa0 r h=>hF Tryz.func36 (C:=O36 L) (oS _) L (λkk=>eE (Xd L a0 (hq (B13 L (Mx (O36 L) L 8 1 4 c56.u.l ⟨[(7,Bq3),(6,.mp 13),(5,lv (.dO a0.aJ)),(0,.mp 13),(1,lv (.dO a0.aJ)),(4,I 0)],[(1,(Bu a0)),(13,zq8)],1014⟩ (some 8) (kN (KA (O36 L) L 8 c56 (rl [2,1]) (KJ Tryz.f56 (Mx (O36 L) L 9 1 4 c36.w.l.l ⟨[(15,lv (.dO a0.aJ)),(14,.loc 1 1),(13,.mp 13),zq7,(2,I 0)],[(13,zq8),(1,(Bu a0))],0⟩ (some 16) (kN (KA (O36 L) L 9 c36 (rl [4,2]) (KE Tryz.f36 kk)))))))) a0.aJ a0) λo11=>U7 L a0 o11 (λo11=>hq (B16 L (Mx (O36 L) L 9 1 4 c36.x.u.l ⟨[(27,Bq2),(26,lv (.t66 a0.aA)),(25,.loc 1 2),zq7,(2,I 0),Bja],[(1,(Bu a0)),A8r,(13,[.aQ false false (.t9 o11.2.1) (.t4 o11.2.2)]),(24,zq8)],0⟩ (some 28) (kN (KA (O36 L) L 9 c36 (rl [10,1]) (KE Tryz.f36 kk)))) a0.aA a0 o11.2.1 o11.2.2) λo20=>Uy L a0 o20)))) h
def c62:=CC Tryz.f62
def c37:=CC Tryz.f37
def O37(L:Nat):Bc:=oL []
def B5f(p1_1:List Am)(p1_0:List Aq)(p1_2:A9)(v:Tu5):St:=⟨[(0,.any),(1,lv (.t93 p1_1)),(2,.bK 63 0 []),(6,B v.1),(15,lv (.t78 p1_0)),(16,I (p1_0.length:Int)),(17,I v.2)],[(1,(My p1_2))],1002⟩
def Wf [An A (Nat×Tu5)](L:Nat)(p1_1:List Am)(p1_0:List Aq)(p1_2:A9)(rec:Bool->Int->A)(Ag:Bool)(Bj:Int):A:=
 (lw Bj p1_0
 (gi Bj p1_1
 (jp (.cn ((gD p1_0 Bj).aF.toList == (gD p1_1 Bj).aF.toList)
 (.lf ((gD p1_0 Bj).aJ == ((gD p1_1 Bj).aJ.length:Int)))
 (.lf false)) (λb1=>
 (jp (.cn b1
 (.lf (((gD p1_1 Bj).bE.length:Int) == 0))
 (.lf false)) (λb2=>
 (cn (!b2)
 (lf (0,false,Bj))
 (rec Ag (Bs (Bj+1)))))))))
 (lf (1,Ag,Bj)))
def Jg(L:Nat)(p1_1:List Am)(p1_0:List Aq)(p1_2:A9):Nat->Bool->Int->Option (Nat×Tu5)
 |0,_,_=>none
 |n+1,Ag,Bj=>Wf L p1_1 p1_0 p1_2 (Jg L p1_1 p1_0 p1_2 n) Ag Bj
theorem B3e(p1_1:List Am)(p1_0:List Aq)(p1_2:A9):LP (EV (O37 L) L 8 c62.w.l.u.l.l) [0,1,2,6,15,16,17] [1] (B5f p1_1 p1_0 p1_2) [.ret,.exit 0] (λn v=>Jg L p1_1 p1_0 p1_2 n v.1 v.2) K:=lE (λ_=>rfl) λn v ih=>eE (Wf L p1_1 p1_0 p1_2 (λAg Bj=>re (ih (Ag,Bj))) v.1 v.2)
def Bz9(p1_0:List Aq)(p1_1:List Am)(p1_2:A9)(k:Dj):Bool->Prop:=λo=>k (B o) [(1,(My p1_2))]
def Wr [An A Bool](L:Nat)(o3:Nat×Tu5):A:=
 (sl o3.1 [(lf o3.2.1),
 (lf true)])
def Xb [An A Bool](L:Nat)(p1_0:List Aq)(p1_1:List Am)(p1_2:A9)(nx2:A):A:=
 (cn ((p1_0.length:Int) != (p1_1.length:Int))
 (lf false)
 nx2)
def Amz [An A Bool](p1_0:List Aq)(p1_1:List Am)(p1_2:A9):A:=Xb L p1_0 p1_1 p1_2 (bd (Jg L p1_1 p1_0 p1_2 L false 0) λo3=>Wr L o3)
def V8(p1_0:List Aq)(p1_1:List Am)(p1_2:A9):Option Bool:=Amz L p1_0 p1_1 p1_2
theorem B17(p1_0:List Aq)(p1_1:List Am)(p1_2:A9):YO (O37 L) L 9 62 [lv (.t78 p1_0),lv (.t93 p1_1),.bK 63 0 []] [(1,(My p1_2))] k=ob (V8 L p1_0 p1_1 p1_2) (Bz9 p1_0 p1_1 p1_2 k):=(C4 _ _ _ jn4 _ _ _ _ _ _ _).trans (eE (Xb L p1_0 p1_1 p1_2 (hq (B3e L (KA (O37 L) L 8 c62 (rl [4,1,2,1]) (KJ Tryz.f62 k)) p1_1 p1_0 p1_2 L (false,0)) λo3=>Wr L o3)))
def Ws [An A Bool](L:Nat)(o4:Bool):A:=
 (lf o4)
def Atu [An A Bool](a0:A9):A:=(bd (V8 L a0.aD a0.aL.aD a0) λo4=>Ws L o4)
def L5(a0:A9):Option Bool:=Atu L a0
def X37:F6:=E1 B 37 Ap6 (L5 L) λa0 r h=>hF Tryz.func37 (C:=O37 L) (oS _) L (λkk=>eE ((hq (B17 L (Mx (O37 L) L 9 1 6 c37.u.l ⟨[(7,lv (.t93 a0.aL.aD)),(6,.loc 1 10),(5,.loc 1 0),(4,lv (.t78 a0.aD)),(3,.loc 1 13),zq7,(2,B false)],[(1,(My a0))],0⟩ (some 8) (kN (KA (O37 L) L 9 c37 (rl [2,1]) (KE Tryz.f37 kk)))) a0.aD a0.aL.aD a0) λo4=>Ws L o4))) h
def c38:=CC Tryz.f38
def O38(L:Nat):Bc:=oL []
def B5g(a0:Ac)(v:Int×Int×List Ec×List Bool):St:=⟨[(0,.any),zq7,(2,I v.1),(3,.mp 11),(13,lv (.t127 a0.aH)),(14,I (a0.aH.length:Int)),(15,I v.2.1)],[(1,(Cm a0)),(11,[.aQ true false (.fG v.2.2.1) (.t4 v.2.2.2)])],0⟩
def Aaf [An A (Nat×Int×Int×List Ec×List Bool)](L:Nat)(a0:Ac)(rec:Int->Int->List Ec->List Bool->A)(Ai:Int)(Af:Int)(Dg:List Ec)(Br:List Bool):A:=
 (lw Af a0.aH
 (jp (.cn (decide ((if(gD a0.aH Af).To<(gD a0.aH Af).aV then(gD a0.aH Af).To else(gD a0.aH Af).aV)<0))
 (.lf true)
 (.lf (decide ((if(gD a0.aH Af).To>(gD a0.aH Af).aV then(gD a0.aH Af).To else(gD a0.aH Af).aV)>=(a0.aA.length:Int))))) (λb1=>
 (jp (.cn b1
 (.lf true)
 (.lf ((gD a0.aH Af).aV == (gD a0.aH Af).To))) (λb2=>
 (cn b2
 (cn b2
 (lf (0,2,Af,Dg,Br))
 (fq (Dg.findIdx? λb=>((gD a0.aH Af).aV == b.a0 && ((gD a0.aH Af).To == b.a1))) (λi3=>
 (cn (Br.getD i3 default)
 (lf (0,4,Af,Dg,Br))
 (fq (Dg.findIdx? λb=>((gD a0.aH Af).aV == b.a0 && ((gD a0.aH Af).To == b.a1))) (λi4=>
 (rec Ai (Bs (Af+1)) Dg (Br.set i4 true)))
 (rec Ai (Bs (Af+1)) (Dg++ [(⟨(gD a0.aH Af).aV,(gD a0.aH Af).To⟩:Ec)]) (Br++ [true])))))
 (fq (Dg.findIdx? λb=>((gD a0.aH Af).aV == b.a0 && ((gD a0.aH Af).To == b.a1))) (λi5=>
 (rec Ai (Bs (Af+1)) Dg (Br.set i5 true)))
 (rec Ai (Bs (Af+1)) (Dg++ [(⟨(gD a0.aH Af).aV,(gD a0.aH Af).To⟩:Ec)]) (Br++ [true])))))
 (jp (.cn (decide ((gD a0.aH Af).bU<1))
 (.lf true)
 (.lf (decide ((gD a0.aH Af).bU>1000000000)))) (λb6=>
 (cn b6
 (lf (0,2,Af,Dg,Br))
 (fq (Dg.findIdx? λb=>((gD a0.aH Af).aV == b.a0 && ((gD a0.aH Af).To == b.a1))) (λi7=>
 (cn (Br.getD i7 default)
 (lf (0,4,Af,Dg,Br))
 (fq (Dg.findIdx? λb=>((gD a0.aH Af).aV == b.a0 && ((gD a0.aH Af).To == b.a1))) (λi8=>
 (rec Ai (Bs (Af+1)) Dg (Br.set i8 true)))
 (rec Ai (Bs (Af+1)) (Dg++ [(⟨(gD a0.aH Af).aV,(gD a0.aH Af).To⟩:Ec)]) (Br++ [true])))))
 (fq (Dg.findIdx? λb=>((gD a0.aH Af).aV == b.a0 && ((gD a0.aH Af).To == b.a1))) (λi9=>
 (rec Ai (Bs (Af+1)) Dg (Br.set i9 true)))
 (rec Ai (Bs (Af+1)) (Dg++ [(⟨(gD a0.aH Af).aV,(gD a0.aH Af).To⟩:Ec)]) (Br++ [true]))))))))))))
 (lf (1,Ai,Af,Dg,Br)))
def Nm(L:Nat)(a0:Ac):Nat->Int->Int->List Ec->List Bool->Option (Nat×Int×Int×List Ec×List Bool)
 |0,_,_,_,_=>none
 |n+1,Ai,Af,Dg,Br=>Aaf L a0 (Nm L a0 n) Ai Af Dg Br
theorem B3f(a0:Ac):LP (EV (O38 L) L 9 c38.w.u.l.u.l.l) [0,1,2,3,13,14,15] [1,11] (B5g a0) [.ret,.exit 0] (λn v=>Nm L a0 n v.1 v.2.1 v.2.2.1 v.2.2.2) K:=lE (λ_=>rfl) λn v ih=>eE (Aaf L a0 (λAi Af Dg Br=>re (ih (Ai,Af,Dg,Br))) v.1 v.2.1 v.2.2.1 v.2.2.2)
def Abg [An A Int](L:Nat)(o10:Nat×Int×Int×List Ec×List Bool):A:=
 (sl o10.1 [(lf o10.2.1),
 (lf 0)])
def Acb [An A Int](L:Nat)(a0:Ac)(nx1:A):A:=
 (cn (decide ((a0.aH.length:Int)>32))
 (lf 6)
 nx1)
def A09 [An A Int](a0:Ac):A:=Acb L a0 (bd (Nm L a0 L 0 0 [] []) λo10=>Abg L o10)
def Afr(a0:Ac):Option Int:=A09 L a0
def X38:F6:=E1 I 38 B7 (Afr L) λa0 r h=>hF Tryz.func38 (C:=O38 L) (oS _) L (λkk=>eE (Acb L a0 (hq (B3f L (KA (O38 L) L 9 c38 (rl [6,1,2,1]) (KE Tryz.f38 kk)) a0 L (0,0,[],[])) λo10=>Abg L o10))) h
def Aow [An A Bool](L:Nat)(a0:Int):A:=
 (jp (.cn (decide (a0>=1))
 (.lf (decide (a0<=19)))
 (.lf false)) (λb1=>
 (lf b1)))
def m0(a0:Int):Option Bool:=Aow L a0
def B6s:F6:=E1 B 122 (cI .i64) (m0 L) λa0 r h=>hF Tryz.func122 (oS []) L (λkk=>eE (Aow L a0)) h
def Arr [An A Bool](a0:Ab):A:=
 (bd (L7 L (Ab.cp a0) (Ab.mk 0 (⟨#[]⟩:Yb) 0 [])) λr1=>
 (lf r1))
def Afs(a0:Ab):Option Bool:=Arr L a0
def Cbp:F6:=E1 B 161 Bi (Afs L) λa0 r h=>hF Tryz.func161 (oS [B6y L]) L (λkk=>eE (Arr L a0)) h
def Aov [An A Bool](a0:Ar):A:=
 (gi a0.Op gl0
 (jp (.cn ((gD gl0 a0.Op).gB != 0)
 (.lf true)
 (.lf (a0.A == 0))) (λb1=>
 (jp (.cn b1
 (.cn ((gD gl0 a0.Op).gF != 0)
 (.lf true)
 (.lf (a0.B == 0)))
 (.lf false)) (λb2=>
 (jp (.cn b2
 (.cn ((gD gl0 a0.Op).u_c)
 (.lf true)
 (.lf (a0.C == 0)))
 (.lf false)) (λb3=>
 (jb (.cn b3
 (.cn ((gD gl0 a0.Op).fI)
 (.lf true)
 (.bd (Afs L (Ab.cp a0.E)) λr5=>
 (.lf r5)))
 (.lf false)) (λb4=>
 (jb (.cn b4
 (.cn ((gD gl0 a0.Op).fP)
 (.lf true)
 (.bd (Afs L (Ab.cp a0.F)) λr7=>
 (.lf r7)))
 (.lf false)) (λb6=>
 (jp (.cn b6
 (.cn ((gD gl0 a0.Op).dF)
 (.lf true)
 (.lf ((a0.aP.length:Int) == 0)))
 (.lf false)) (λb8=>
 (cn b8
 (cn ((gD gl0 a0.Op).bR)
 (nq (jp (.cn ((gD gl0 a0.Op).dV)
 (.lf true)
 (.lf (!a0.bY))) (λb9=>
 (lf b9))))
 (bd (L6 L a0.bF (⟨0,0,0,0,[],[]⟩:Bk)) λr10=>
 (nq (jp (.cn r10
 (.cn ((gD gl0 a0.Op).dV)
 (.lf true)
 (.lf (!a0.bY)))
 (.lf false)) (λb11=>
 (lf b11))))))
 (nq (nq (lf false)))))))))))))))))
def j9(a0:Ar):Option Bool:=Aov L a0
def Ca7:F6:=E1 B 123 Oz (j9 L) λa0 r h=>hF Tryz.func123 (oS [B04 L,Cbp L]) L (λkk=>eE (Aov L a0)) h
def m9 [An A Int](L:Nat)(a0:Av)(a1:Int)(a2:Int):A:=
 (gi a0.aS a0.bM.aA
 (cn (a1 == 1)
 (lf a0.u_c.dD)
 (cn (a1 == 2)
 (lf ((gD a0.bM.aA a0.aS).aL.bX.length:Int))
 (cn (a1 == 3)
 (lf ((gD a0.bM.aA a0.aS).aL.aZ.length:Int))
 (cn (a1 == 4)
 (lf (a0.u_c.aR.length:Int))
 (cn (a1 == 5)
 (lf ((gD a0.bM.aA a0.aS).aL.aG.length:Int))
 (cn (a1 == 6)
 (lf ((gD a0.bM.aA a0.aS).aL.aM.length:Int))
 (cn (a1 == 7)
 (lf ((gD a0.bM.aA a0.aS).aL.bL.length:Int))
 (cn (a1 == 8)
 (lf ((gD a0.bM.aA a0.aS).aL.bJ.length:Int))
 (cn (a1 == 9)
 (lf (a0.bM.aA.length:Int))
 (cn (a1 == 10)
 (gi a2 a0.bM.aA
 (lf ((gD a0.bM.aA a2).aD.length:Int)))
 (cn (a1 == 11)
 (lf ((gD a0.bM.aA a0.aS).aL.bH.length:Int))
 (cn (a1 == 12)
 (lf ((gD a0.bM.aA a0.aS).aL.bP.length:Int))
 (cn (a1 == 13)
 (lf ((gD a0.bM.aA a0.aS).aL.bD.length:Int))
 (lf 1)))))))))))))))
def Hj(a0:Av)(a1:Int)(a2:Int):Option Int:=m9 L a0 a1 a2
def B06:F6:=E3 I 162 Ts (cI .i64) (cI .i64) (Hj L) λa0 a1 a2 r h=>hF Tryz.func162 (oS []) L (λkk=>eE (m9 L a0 a1 a2)) h
def Acw [An A Bool](a0:Av)(a1:Int)(a2:Int)(a3:Int):A:=
 (jb (.cn (decide (a2>=0))
 (.bd (Hj L (⟨(⟨a0.bM.aF,a0.bM.aA,a0.bM.aH⟩:Ac),a0.aS,a0.u_c⟩:Av) a1 a3) λr2=>
 (.lf (decide (a2<r2))))
 (.lf false)) (λb1=>
 (lf b1)))
def C0(a0:Av)(a1:Int)(a2:Int)(a3:Int):Option Bool:=Acw L a0 a1 a2 a3
def B0y:F6:=E4 B 124 Ts (cI .i64) (cI .i64) (cI .i64) (C0 L) λa0 a1 a2 a3 r h=>hF Tryz.func124 (oS [B06 L]) L (λkk=>eE (Acw L a0 a1 a2 a3)) h
def B70:=CC Tryz.f163
def B7t:=CC Tryz.f125
def Bla(L:Nat):Bc:=oL []
def Bxg(p1_0:List Dt)(p1_1:Ac)(p1_2:Int)(p1_3:Int)(v:Js):St:=⟨[(0,lv (.t127 p1_0)),(1,B6d),(4,I v.1),(7,I (p1_0.length:Int)),(8,I v.2)],[(3,(Cm p1_1)),(4,[I p1_2]),(5,[I p1_3])],1006⟩
def Aez [An A C3](L:Nat)(p1_0:List Dt)(p1_1:Ac)(p1_2:Int)(p1_3:Int)(rec:Int->Int->A)(Ag:Int)(Af:Int):A:=
 (lw Af p1_0
 (jp (.cn ((gD p1_0 Af).aV == p1_2)
 (.lf ((gD p1_0 Af).To == p1_3))
 (.lf false)) (λb1=>
 (cn b1
 (lf (0,Af,Af))
 (rec Ag (Bs (Af+1))))))
 (lf (1,Ag,Af)))
def Qj(L:Nat)(p1_0:List Dt)(p1_1:Ac)(p1_2:Int)(p1_3:Int):Nat->Int->Int->Option C3
 |0,_,_=>none
 |n+1,Ag,Af=>Aez L p1_0 p1_1 p1_2 p1_3 (Qj L p1_0 p1_1 p1_2 p1_3 n) Ag Af
theorem Bvs(p1_0:List Dt)(p1_1:Ac)(p1_2:Int)(p1_3:Int):LP (EV (Bla L) L 8 B70.u.l.u.l.l) [0,1,4,7,8] [3,4,5] (Bxg p1_0 p1_1 p1_2 p1_3) [.ret,.exit 0] (λn v=>Qj L p1_0 p1_1 p1_2 p1_3 n v.1 v.2) K:=lE (λ_=>rfl) λn v ih=>eE (Aez L p1_0 p1_1 p1_2 p1_3 (λAg Af=>re (ih (Ag,Af))) v.1 v.2)
def Bry(p1_0:List Dt)(p1_1:Ac)(p1_2:Int)(p1_3:Int)(k:Dj):Int->Prop:=λo=>k (I o) [(3,(Cm p1_1)),(4,[I p1_2]),(5,[I p1_3])]
def Al7 [An A Int](L:Nat)(o2:Nat×Js):A:=
 (sl o2.1 [(lf o2.2.1),
 (lf (-1))])
def At3 [An A Int](p1_0:List Dt)(p1_1:Ac)(p1_2:Int)(p1_3:Int):A:=(bd (Qj L p1_0 p1_1 p1_2 p1_3 L 0 0) λo2=>Al7 L o2)
def Aen(p1_0:List Dt)(p1_1:Ac)(p1_2:Int)(p1_3:Int):Option Int:=At3 L p1_0 p1_1 p1_2 p1_3
theorem But(p1_0:List Dt)(p1_1:Ac)(p1_2:Int)(p1_3:Int):YO (Bla L) L 9 163 [lv (.t127 p1_0),B6d] [(3,(Cm p1_1)),(4,[I p1_2]),(5,[I p1_3])] k=ob (Aen L p1_0 p1_1 p1_2 p1_3) (Bry p1_0 p1_1 p1_2 p1_3 k):=(C4 _ _ _ jn4 _ _ _ _ _ _ _).trans (eE ((hq (Bvs L (KA (Bla L) L 8 B70 (rl [2,1,2,1]) (KJ Tryz.f163 k)) p1_0 p1_1 p1_2 p1_3 L (0,0)) λo2=>Al7 L o2)))
def Afc [An A (Int×Bool)](L:Nat)(a0:Ac)(o3:Int):A:=
 (cn (decide (o3<0))
 (lf (0,false))
 (gi o3 a0.aH
 (lf ((gD a0.aH o3).bU,true))))
def A4h [An A (Int×Bool)](a0:Ac)(a1:Int)(a2:Int):A:=(bd (Aen L a0.aH a0 a1 a2) λo3=>Afc L a0 o3)
def Aip(a0:Ac)(a1:Int)(a2:Int):Option (Int×Bool):=A4h L a0 a1 a2
def Ca8:F6:=E3 (λ(x:Int×Bool)=>.cK [I x.1,B x.2]) 125 B7 (cI .i64) (cI .i64) (Aip L) λa0 a1 a2 r h=>hF Tryz.func125 (C:=Bla L) (oS _) L (λkk=>eE ((hq (But L (Mx (Bla L) L 9 1 4 B7t.u.l ⟨[(11,B6d),(10,lv (.t127 a0.aH)),(9,.loc 3 2),T4,Bgt,Bja,(6,I 0),(7,B false)],[(3,(Cm a0)),(4,[I a1]),(5,[I a2])],0⟩ (some 12) (kN (KA (Bla L) L 9 B7t (rl [2,1]) (KE Tryz.f125 kk)))) a0.aH a0 a1 a2) λo3=>Afc L a0 o3))) h
def Zr [An A (List Ab)](a0:Ar):A:=
 (bd (m0 L a0.Op) λr1=>
 (cn (!r1)
 (lf [])
 (gi a0.Op gl0
 (cn ((gD gl0 a0.Op).fI)
 (gq ((0+ [(Ab.cp a0.E)].length)*56<=140737488355328)
 (gq (0+ [(Ab.cp a0.E)].length<=maxLen)
 (cn ((gD gl0 a0.Op).fP)
 (gq (([(Ab.cp a0.E)].length+ [(Ab.cp a0.F)].length)*56<=140737488355328)
 (gq ([(Ab.cp a0.E)].length+ [(Ab.cp a0.F)].length<=maxLen)
 (cn ((gD gl0 a0.Op).dF)
 (gq ((([(Ab.cp a0.E)]++ [(Ab.cp a0.F)]).length+a0.aP.length)*56<=140737488355328)
 (gq (([(Ab.cp a0.E)]++ [(Ab.cp a0.F)]).length+a0.aP.length<=maxLen)
 (lf (([(Ab.cp a0.E)]++ [(Ab.cp a0.F)])++a0.aP))))
 (lf ([(Ab.cp a0.E)]++ [(Ab.cp a0.F)])))))
 (cn ((gD gl0 a0.Op).dF)
 (gq (([(Ab.cp a0.E)].length+a0.aP.length)*56<=140737488355328)
 (gq ([(Ab.cp a0.E)].length+a0.aP.length<=maxLen)
 (lf ([(Ab.cp a0.E)]++a0.aP))))
 (lf [(Ab.cp a0.E)])))))
 (cn ((gD gl0 a0.Op).fP)
 (gq ((0+ [(Ab.cp a0.F)].length)*56<=140737488355328)
 (gq (0+ [(Ab.cp a0.F)].length<=maxLen)
 (cn ((gD gl0 a0.Op).dF)
 (gq (([(Ab.cp a0.F)].length+a0.aP.length)*56<=140737488355328)
 (gq ([(Ab.cp a0.F)].length+a0.aP.length<=maxLen)
 (lf ([(Ab.cp a0.F)]++a0.aP))))
 (lf [(Ab.cp a0.F)]))))
 (cn ((gD gl0 a0.Op).dF)
 (gq ((0+a0.aP.length)*56<=140737488355328)
 (gq (0+a0.aP.length<=maxLen)
 (lf a0.aP)))
 (lf [])))))))
def Es(a0:Ar):Option (List Ab):=Zr L a0
def Ca9:F6:=E1 (λ(x:List Ab)=>lv (.dU x)) 126 Oz (Es L) λa0 r h=>hF Tryz.func126 (oS [B6s L]) L (λkk=>eE (Zr L a0)) h
def Acx [An A Int](a0:Ab):A:=
 (bd (Oq L (⟨true⟩:Bm) (Ab.cp a0)) λr1=>
 (lf r1))
def I7(a0:Ab):Option Int:=Acx L a0
def Cba:F6:=E1 I 127 Bi (I7 L) λa0 r h=>hF Tryz.func127 (oS [B6x L]) L (λkk=>eE (Acx L a0)) h
end
end Go.Proofs.YthjhkpgonleelaaGreatDoor.Ev
