import Derived.Test.YtgacplpjamkieaaGreatZG1
import Derived.Test.YtgacplpjamkieaaGreatZG2
import Derived.Test.YtgacplpjamkieaaGreatZG3
import Derived.Test.YtgacplpjamkieaaGreatZG4
set_option maxRecDepth 100000
set_option maxHeartbeats 4000000
set_option linter.unusedVariables false
set_option linter.unusedSimpArgs false
set_option linter.unnecessarySimpa false
namespace Go.Proofs.YtgacplpjamkieaaGreat.Ev
open Go An
noncomputable section
variable {A:Type} (L n:Nat) (kk:Tb) (K:Hp) (k:Ei)
def c73:=CC Tryz.f73
def c49:=CC Tryz.f49
def O49(L:Nat):Bj:=oL []
def Bo6(p1_0:List Ac)(p1_1:Ag)(p1_2:Yb)(v:Lw):St:=⟨[(0,lv (.t36 p1_0)),(1,.bK 74 0 zq8),(4,I v.1),(7,I (p1_0.length:Int)),(8,I v.2)],[(2,(Br p1_1)),(3,[S p1_2])],1004⟩
def Wv [An A Rs](L:Nat)(p1_0:List Ac)(p1_1:Ag)(p1_2:Yb)(rec:Int->Int->A)(Aq:Int)(Ak:Int):A:=
 (lw Ak p1_0
 (cn ((gD p1_0 Ak).aG.toList == p1_2.toList)
 (lf (0,Ak,Ak))
 (rec Aq (Bb (Ak+1))))
 (lf (1,Aq,Ak)))
def Mg(L:Nat)(p1_0:List Ac)(p1_1:Ag)(p1_2:Yb):Nat->Int->Int->Option Rs
 |0,_,_=>none
 |n+1,Aq,Ak=>Wv L p1_0 p1_1 p1_2 (Mg L p1_0 p1_1 p1_2 n) Aq Ak
theorem Bnb(p1_0:List Ac)(p1_1:Ag)(p1_2:Yb):LP (EV (O49 L) L 8 c73.u.l.u.l.l) [0,1,4,7,8] [2,3] (Bo6 p1_0 p1_1 p1_2) [.ret,.exit 0] (λn v=>Mg L p1_0 p1_1 p1_2 n v.1 v.2) K:=lE (λ_=>rfl) λn v ih=>eE (Wv L p1_0 p1_1 p1_2 (λAq Ak=>re (ih (Aq,Ak))) v.1 v.2)
def Bj1(p1_0:List Ac)(p1_1:Ag)(p1_2:Yb)(k:Ei):Int->Prop:=λo=>k (I o) [(2,(Br p1_1)),(3,[S p1_2])]
def Ab4 [An A Int](L:Nat)(o1:Nat×Lw):A:=
 (sl o1.1 [(lf o1.2.1),
 (lf (-1))])
def Ai6 [An A Int](p1_0:List Ac)(p1_1:Ag)(p1_2:Yb):A:=(bd (Mg L p1_0 p1_1 p1_2 L 0 0) λo1=>Ab4 L o1)
def Wp(p1_0:List Ac)(p1_1:Ag)(p1_2:Yb):Option Int:=Ai6 L p1_0 p1_1 p1_2
theorem Bl9(p1_0:List Ac)(p1_1:Ag)(p1_2:Yb):YO (O49 L) L 9 73 [lv (.t36 p1_0),.bK 74 0 zq8] [(2,(Br p1_1)),(3,[S p1_2])] k=ob (Wp L p1_0 p1_1 p1_2) (Bj1 p1_0 p1_1 p1_2 k):=(Dj _ _ _ jn4 _ _ _ _ _ _ _).trans (eE ((hq (Bnb L (KA (O49 L) L 8 c73 (rl [2,1,2,1]) (KJ Tryz.f73 k)) p1_0 p1_1 p1_2 L (0,0)) λo1=>Ab4 L o1)))
def Xa [An A Int](L:Nat)(o2:Int):A:=
 (lf o2)
def Anz [An A Int](a0:Ag)(a1:Yb):A:=(bd (Wp L a0.aD a0 a1) λo2=>Xa L o2)
def Rx(a0:Ag)(a1:Yb):Option Int:=Anz L a0 a1
def X49:N1:=E2 I 49 Pq cS (Rx L) λa0 a1 r h=>hF Tryz.func49 (C:=O49 L) (oS _) L (λkk=>eE ((hq (Bl9 L (Rn (O49 L) L 9 1 4 c49.u.l ⟨[(7,.bK 74 0 zq8),(6,lv (.t36 a0.aD)),(5,.loc 2 2),Ab9,zq9,(4,I 0)],[(2,(Br a0)),(3,[S a1])],0⟩ (some 8) (kN (KA (O49 L) L 9 c49 (rl [2,1]) (KE Tryz.f49 kk)))) a0.aD a0 a1) λo2=>Xa L o2))) h
def Bam:=CC Tryz.f158
def c81:=CC Tryz.f81
def O81:Bj:=oL [X49 L,A73 L]
def Bj7(p3_0:Bf)(p3_1:Ag)(p3_2:List Bv)(p3_3:List Bool)(p3_4:Bf)(k:Ei):Tu6->Prop:=λo=>k (I o.1) [(1,(Br p3_1)),Afs,(4,[.aP true false (.t228 o.2.1) (.t4 o.2.2)]),(1013,(P2 p3_4)),(2017,(P2 p3_0)),(2019,[S p3_0.dA,S p3_0.To])]
def b0 [An A Tu6](p3_0:Bf)(p3_1:Ag)(p3_2:List Bv)(p3_3:List Bool)(p3_4:Bf):A:=
 (bd (Rx L p3_1 p3_0.dA) λr1=>
 (jb (.cn (decide (r1<0))
 (.lf true)
 (.bd (Rx L p3_1 p3_0.To) λr3=>
 (.lf (decide (r3<0))))) (λb2=>
 (cn b2
 (lf (5,p3_2,p3_3))
 (cn (p3_0.dA.toList == p3_0.To.toList)
 (lf (1,p3_2,p3_3))
 (bd (Bh L p3_0.fA 1 1000000000) λr4=>
 (cn (!r4)
 (lf (2,p3_2,p3_3))
 (fq (p3_2.findIdx? λb=>(p3_0.dA == b.a0 && (p3_0.To == b.a1))) (λi5=>
 (cn (p3_3.getD i5 default)
 (lf (4,p3_2,p3_3))
 (fq (p3_2.findIdx? λb=>(p3_0.dA == b.a0 && (p3_0.To == b.a1))) (λi6=>
 (lf (0,p3_2,(p3_3.set i6 true))))
 (lf (0,(p3_2++ [(⟨p3_0.dA,p3_0.To⟩:Bv)]),(p3_3++ [true]))))))
 (fq (p3_2.findIdx? λb=>(p3_0.dA == b.a0 && (p3_0.To == b.a1))) (λi7=>
 (lf (0,p3_2,(p3_3.set i7 true))))
 (lf (0,(p3_2++ [(⟨p3_0.dA,p3_0.To⟩:Bv)]),(p3_3++ [true]))))))))))))
def Qt(p3_0:Bf)(p3_1:Ag)(p3_2:List Bv)(p3_3:List Bool)(p3_4:Bf):Option Tu6:=b0 L p3_0 p3_1 p3_2 p3_3 p3_4
theorem Bmg(p3_0:Bf)(p3_1:Ag)(p3_2:List Bv)(p3_3:List Bool)(p3_4:Bf):YO (O81 L) L 8 159 [.agg (P2 p3_0),.loc 1 0,.loc 3 0] [(1,(Br p3_1)),Afs,(4,[.aP true false (.t228 p3_2) (.t4 p3_3)]),(1013,(P2 p3_4))] k=ob (Qt L p3_0 p3_1 p3_2 p3_3 p3_4) (Bj7 p3_0 p3_1 p3_2 p3_3 p3_4 k):=(Dj _ _ _ jn4 _ _ _ _ _ _ _).trans (eE (b0 L p3_0 p3_1 p3_2 p3_3 p3_4))
def Bpn(p1_0:List Bf)(p1_1:Ag)(v:Int×Int×List Bv×List Bool):St:=⟨[(0,.any),(1,.any),(2,.bK 159 0 zq7),(6,I v.1),(14,lv (.dF p1_0)),(15,I (p1_0.length:Int)),(16,I v.2.1)],[(1,(Br p1_1)),Afs,(4,[.aP true false (.t228 v.2.2.1) (.t4 v.2.2.2)])],1005⟩
def U9 [An A (Nat×Int×Int×List Bv×List Bool)](L:Nat)(Ak:Int)(Av:Int)(rec:Int->Int->List Bv->List Bool->A)(o8:Tu6):A:=
 (cn (o8.1 != 0)
 (lf (0,o8.1,Ak,o8.2.1,o8.2.2))
 (rec Av (Bb (Ak+1)) o8.2.1 o8.2.2))
def Vs [An A (Nat×Int×Int×List Bv×List Bool)](L:Nat)(p1_0:List Bf)(p1_1:Ag)(rec:Int->Int->List Bv->List Bool->A)(Av:Int)(Ak:Int)(C4:List Bv)(C5:List Bool)(nx3:Int->(List Bv)->(List Bool)->Int->A):A:=
 (lw Ak p1_0
 (nx3 Ak C4 C5 Av)
 (lf (1,Av,Ak,C4,C5)))
def l6 [An A (Nat×Int×Int×List Bv×List Bool)](p1_0:List Bf)(p1_1:Ag)(rec:Int->Int->List Bv->List Bool->A)(Av:Int)(Ak:Int)(C4:List Bv)(C5:List Bool):A:=Vs L p1_0 p1_1 rec Av Ak C4 C5 (λAk C4 C5 Av=>bd (Qt L (gD p1_0 Ak) p1_1 C4 C5 (gD p1_0 Ak)) λo8=>U9 L Ak Av rec o8)
def Kr(L:Nat)(p1_0:List Bf)(p1_1:Ag):Nat->Int->Int->List Bv->List Bool->Option (Nat×Int×Int×List Bv×List Bool)
 |0,_,_,_,_=>none
 |n+1,Av,Ak,C4,C5=>l6 L p1_0 p1_1 (Kr L p1_0 p1_1 n) Av Ak C4 C5
theorem Bnr(p1_0:List Bf)(p1_1:Ag):LP (EV (O81 L) L 8 Bam.w.l.u.l.l) [0,1,2,6,14,15,16] [1,3,4] (Bpn p1_0 p1_1) [.ret,.exit 0] (λn v=>Kr L p1_0 p1_1 n v.1 v.2.1 v.2.2.1 v.2.2.2) K:=lE (λ_=>rfl) λn v ih=>eE (Vs L p1_0 p1_1 (λAv Ak C4 C5=>re (ih (Av,Ak,C4,C5))) v.1 v.2.1 v.2.2.1 v.2.2.2 (λAk C4 C5 Av=>hq (Bmg L (Rn (O81 L) L 8 1 3 Bam.w.l.u.l.l.w.l.l.u.l ⟨[(21,.agg (P2 (gD p1_0 Ak))),(20,.bK 159 0 zq7),(2,.bK 159 0 zq7),(6,I Av),(8,.loc 1013 0),(14,lv (.dF p1_0)),(15,I (p1_0.length:Int)),(16,I Ak),(17,B (decide (Ak<(p1_0.length:Int)))),(18,.ref (P2 (gD p1_0 Ak))),(19,.agg (P2 (gD p1_0 Ak)))],[(1,(Br p1_1)),Afs,(4,[.aP true false (.t228 C4) (.t4 C5)]),(1013,(P2 (gD p1_0 Ak)))],1005⟩ (some 22) (kN (KA (O81 L) L 8 Bam.w.l.u.l.l (rl [4,2,2,1]) (Jz (M8 (EV (O81 L) L 8 Bam.w.l.u.l.l) [0,1,2,6,14,15,16] [1,3,4] n) [0,1,2,6,14,15,16] [1,3,4] K)))) (gD p1_0 Ak) p1_1 C4 C5 (gD p1_0 Ak)) λo8=>U9 L Ak Av (λAv Ak C4 C5=>re (ih (Av,Ak,C4,C5))) o8))
def Bj6(p1_0:List Bf)(p1_1:Ag)(k:Ei):Tu6->Prop:=λo=>k (I o.1) [(1,(Br p1_1)),Afs,(4,[.aP true false (.t228 o.2.1) (.t4 o.2.2)])]
def p9 [An A Tu6](L:Nat)(o9:Nat×Int×Int×List Bv×List Bool):A:=
 (sl o9.1 [(lf (o9.2.1,o9.2.2.2.1,o9.2.2.2.2)),
 (lf (0,o9.2.2.2.1,o9.2.2.2.2))])
def x0 [An A Tu6](L:Nat)(p1_0:List Bf)(p1_1:Ag)(nx4:A):A:=
 (cn (decide ((p1_0.length:Int)>32))
 (lf (6,[],[]))
 nx4)
def Af8 [An A Tu6](p1_0:List Bf)(p1_1:Ag):A:=x0 L p1_0 p1_1 (bd (Kr L p1_0 p1_1 L 0 0 [] []) λo9=>p9 L o9)
def f7(p1_0:List Bf)(p1_1:Ag):Option Tu6:=Af8 L p1_0 p1_1
theorem Bmf(p1_0:List Bf)(p1_1:Ag):YO (O81 L) L 9 158 [lv (.dF p1_0),I 32,.bK 159 0 zq7] [(1,(Br p1_1)),Afs,(4,[.aP true false (.t228 []) (.t4 [])])] k=ob (f7 L p1_0 p1_1) (Bj6 p1_0 p1_1 k):=(Dj _ _ _ jn4 _ _ _ _ _ _ _).trans (eE (x0 L p1_0 p1_1 (hq (Bnr L (KA (O81 L) L 8 Bam (rl [4,1,2,1]) (KJ Tryz.f158 k)) p1_0 p1_1 L (0,0,[],[])) λo9=>p9 L o9)))
def Va [An A Int](L:Nat)(o10:Tu6):A:=
 (lf o10.1)
def Al3 [An A Int](a0:Ag):A:=(bd (f7 L a0.bC a0) λo10=>Va L o10)
def Aab(a0:Ag):Option Int:=Al3 L a0
def X81:N1:=E1 I 81 Pq (Aab L) λa0 r h=>hF Tryz.func81 (C:=O81 L) (oS _) L (λkk=>eE ((hq (Bmf L (Rn (O81 L) L 9 1 4 c81.w.l ⟨[(7,.bK 159 0 zq7),(6,lv (.dF a0.bC)),(5,.loc 1 3),Ajq,(2,I 0),zq9],[(1,(Br a0)),Afs,(4,[.aP true false (.t228 []) (.t4 [])])],0⟩ (some 8) (kN (KA (O81 L) L 9 c81 (rl [4,1]) (KE Tryz.f81 kk)))) a0.bC a0) λo10=>Va L o10))) h
def c77:=CC Tryz.f77
def c78:=CC Tryz.f78
def c50:=CC Tryz.f50
def O50:Bj:=oL [X75 L,X80 L,X81 L,Bkr L,Bks L]
def Bj4(p7_0:Yb)(p7_1:Ag)(p7_2:List Yb)(p7_3:List Bool)(p7_4:Ai)(p7_5:Ai)(k:Ei):Dq->Prop:=λo=>k (I o.1) [(1,(Br p7_1)),(13,[.aP false false (.t9 o.2.1) (.t4 o.2.2)]),(1022,(Cw p7_4)),(2026,(Cw p7_5))]
def Af6 [An A Dq](p7_0:Yb)(p7_1:Ag)(p7_2:List Yb)(p7_3:List Bool)(p7_4:Ai)(p7_5:Ai):A:=
 (bd (Dk L p7_0) λr2=>
 (cn (r2 != 0)
 (lf (r2,p7_2,p7_3))
 (fq (p7_2.findIdx? λb=>p7_0 == b) (λi3=>
 (cn (p7_3.getD i3 default)
 (lf (4,p7_2,p7_3))
 (fq (p7_2.findIdx? λb=>p7_0 == b) (λi4=>
 (lf (0,p7_2,(p7_3.set i4 true))))
 (lf (0,(p7_2++ [p7_0]),(p7_3++ [true]))))))
 (fq (p7_2.findIdx? λb=>p7_0 == b) (λi5=>
 (lf (0,p7_2,(p7_3.set i5 true))))
 (lf (0,(p7_2++ [p7_0]),(p7_3++ [true])))))))
def d7(p7_0:Yb)(p7_1:Ag)(p7_2:List Yb)(p7_3:List Bool)(p7_4:Ai)(p7_5:Ai):Option Dq:=Af6 L p7_0 p7_1 p7_2 p7_3 p7_4 p7_5
theorem Bmc(p7_0:Yb)(p7_1:Ag)(p7_2:List Yb)(p7_3:List Bool)(p7_4:Ai)(p7_5:Ai):YO (O50 L) L 6 79 [.mp 13,S p7_0] [(1,(Br p7_1)),(13,[.aP false false (.t9 p7_2) (.t4 p7_3)]),(1022,(Cw p7_4)),(2026,(Cw p7_5))] k=ob (d7 L p7_0 p7_1 p7_2 p7_3 p7_4 p7_5) (Bj4 p7_0 p7_1 p7_2 p7_3 p7_4 p7_5 k):=(Dj _ _ _ jn4 _ _ _ _ _ _ _).trans (eE (Af6 L p7_0 p7_1 p7_2 p7_3 p7_4 p7_5))
def Bj3(p5_0:Ai)(p5_1:Ag)(p5_2:List Yb)(p5_3:List Bool)(p5_4:Ai)(k:Ei):Dq->Prop:=λo=>k (I o.1) [(1,(Br p5_1)),(13,[.aP false false (.t9 o.2.1) (.t4 o.2.2)]),(1022,(Cw p5_4)),(2026,(Cw p5_0))]
def n7 [An A Dq](p5_0:Ai)(o6:Dq):A:=
 (cn (o6.1 != 0)
 (lf (o6.1,o6.2.1,o6.2.2))
 (bd (La L p5_0.bL) λr7=>
 (cn (!r7)
 (lf (1,o6.2.1,o6.2.2))
 (bd (Ry L p5_0.bL p5_0.N) λr8=>
 (cn (!r8)
 (lf (2,o6.2.1,o6.2.2))
 (lf (0,o6.2.1,o6.2.2)))))))
def Af5 [An A Dq](p5_0:Ai)(p5_1:Ag)(p5_2:List Yb)(p5_3:List Bool)(p5_4:Ai):A:=(bd (d7 L p5_0.aG p5_1 p5_2 p5_3 p5_4 p5_0) λo6=>n7 L p5_0 o6)
def Nr(p5_0:Ai)(p5_1:Ag)(p5_2:List Yb)(p5_3:List Bool)(p5_4:Ai):Option Dq:=Af5 L p5_0 p5_1 p5_2 p5_3 p5_4
theorem Bmb(p5_0:Ai)(p5_1:Ag)(p5_2:List Yb)(p5_3:List Bool)(p5_4:Ai):YO (O50 L) L 7 126 [.mp 13,.agg (Cw p5_0)] [(1,(Br p5_1)),(13,[.aP false false (.t9 p5_2) (.t4 p5_3)]),(1022,(Cw p5_4))] k=ob (Nr L p5_0 p5_1 p5_2 p5_3 p5_4) (Bj3 p5_0 p5_1 p5_2 p5_3 p5_4 k):=(Dj _ _ _ jn4 _ _ _ _ _ _ _).trans (eE ((hq (Bmc L (Rn (O50 L) L 6 1 4 Be4.u.l.l ⟨[(8,S p5_0.aG),(7,.loc 2026 0),(6,.mp 13),(0,.mp 13),(3,.loc 2026 0),(4,I 0)],[(1,(Br p5_1)),(13,[.aP false false (.t9 p5_2) (.t4 p5_3)]),(1022,(Cw p5_4)),(2026,(Cw p5_0))],2023⟩ (some 9) (kN (KA (O50 L) L 6 Be4 (rl [2,2]) (KJ Tryz.f126 k)))) p5_0.aG p5_1 p5_2 p5_3 p5_4 p5_0) λo6=>n7 L p5_0 o6)))
def Bo7(p1_0:List Ai)(p1_1:Ag)(v:Tu3):St:=⟨[(0,.any),(1,.any),(2,Bdm),(6,I v.1),(14,lv (.t83 p1_0)),(15,I (p1_0.length:Int)),(16,I v.2.1)],[(1,(Br p1_1)),(13,[.aP false false (.t9 v.2.2.1) (.t4 v.2.2.2)])],1014⟩
def U6 [An A Rq](L:Nat)(Ak:Int)(Av:Int)(rec:Int->Int->List Yb->List Bool->A)(o9:Dq):A:=
 (cn (o9.1 != 0)
 (lf (0,o9.1,Ak,o9.2.1,o9.2.2))
 (rec Av (Bb (Ak+1)) o9.2.1 o9.2.2))
def Vp [An A Rq](L:Nat)(p1_0:List Ai)(p1_1:Ag)(rec:Int->Int->List Yb->List Bool->A)(Av:Int)(Ak:Int)(C4:List Yb)(C5:List Bool)(nx7:Int->(List Yb)->(List Bool)->Int->A):A:=
 (lw Ak p1_0
 (nx7 Ak C4 C5 Av)
 (lf (1,Av,Ak,C4,C5)))
def l4 [An A Rq](p1_0:List Ai)(p1_1:Ag)(rec:Int->Int->List Yb->List Bool->A)(Av:Int)(Ak:Int)(C4:List Yb)(C5:List Bool):A:=Vp L p1_0 p1_1 rec Av Ak C4 C5 (λAk C4 C5 Av=>bd (Nr L (gD p1_0 Ak) p1_1 C4 C5 (gD p1_0 Ak)) λo9=>U6 L Ak Av rec o9)
def Ko(L:Nat)(p1_0:List Ai)(p1_1:Ag):Nat->Int->Int->List Yb->List Bool->Option Rq
 |0,_,_,_,_=>none
 |n+1,Av,Ak,C4,C5=>l4 L p1_0 p1_1 (Ko L p1_0 p1_1 n) Av Ak C4 C5
theorem Bnc(p1_0:List Ai)(p1_1:Ag):LP (EV (O50 L) L 7 Aw4.w.l.u.l.l) [0,1,2,6,14,15,16] [1,13] (Bo7 p1_0 p1_1) [.ret,.exit 0] (λn v=>Ko L p1_0 p1_1 n v.1 v.2.1 v.2.2.1 v.2.2.2) K:=lE (λ_=>rfl) λn v ih=>eE (Vp L p1_0 p1_1 (λAv Ak C4 C5=>re (ih (Av,Ak,C4,C5))) v.1 v.2.1 v.2.2.1 v.2.2.2 (λAk C4 C5 Av=>hq (Bmb L (Rn (O50 L) L 7 1 3 Aw4.w.l.u.l.l.w.l.l.u.l ⟨[(21,.agg (Cw (gD p1_0 Ak))),(20,Bdm),(2,Bdm),(6,I Av),(8,.loc 1022 0),(14,lv (.t83 p1_0)),(15,I (p1_0.length:Int)),(16,I Ak),(17,B (decide (Ak<(p1_0.length:Int)))),(18,.ref (Cw (gD p1_0 Ak))),(19,.agg (Cw (gD p1_0 Ak)))],[(1,(Br p1_1)),(13,[.aP false false (.t9 C4) (.t4 C5)]),(1022,(Cw (gD p1_0 Ak)))],1014⟩ (some 22) (kN (KA (O50 L) L 7 Aw4.w.l.u.l.l (rl [4,2,2,1]) (Jz (M8 (EV (O50 L) L 7 Aw4.w.l.u.l.l) [0,1,2,6,14,15,16] [1,13] n) [0,1,2,6,14,15,16] [1,13] K)))) (gD p1_0 Ak) p1_1 C4 C5 (gD p1_0 Ak)) λo9=>U6 L Ak Av (λAv Ak C4 C5=>re (ih (Av,Ak,C4,C5))) o9))
def Bj2(p1_0:List Ai)(p1_1:Ag)(k:Ei):Dq->Prop:=λo=>k (I o.1) [(1,(Br p1_1)),(13,[.aP false false (.t9 o.2.1) (.t4 o.2.2)])]
def Agw [An A Dq](L:Nat)(o10:Nat×Tu3):A:=
 (sl o10.1 [(lf (o10.2.1,o10.2.2.2.1,o10.2.2.2.2)),
 (lf (0,o10.2.2.2.1,o10.2.2.2.2))])
def Ahd [An A Dq](L:Nat)(p1_0:List Ai)(p1_1:Ag)(nx8:A):A:=
 (cn (decide ((p1_0.length:Int)>32))
 (lf (6,[],[]))
 nx8)
def Aqf [An A Dq](p1_0:List Ai)(p1_1:Ag):A:=Ahd L p1_0 p1_1 (bd (Ko L p1_0 p1_1 L 0 0 [] []) λo10=>Agw L o10)
def d6(p1_0:List Ai)(p1_1:Ag):Option Dq:=Aqf L p1_0 p1_1
theorem Bma(p1_0:List Ai)(p1_1:Ag):YO (O50 L) L 8 125 [lv (.t83 p1_0),I 32,Bdm] [(1,(Br p1_1)),(13,zq5)] k=ob (d6 L p1_0 p1_1) (Bj2 p1_0 p1_1 k):=(Dj _ _ _ jn4 _ _ _ _ _ _ _).trans (eE (Ahd L p1_0 p1_1 (hq (Bnc L (KA (O50 L) L 7 Aw4 (rl [4,1,2,1]) (KJ Tryz.f125 k)) p1_0 p1_1 L (0,0,[],[])) λo10=>Agw L o10)))
def Bd4(p14_0:Yb)(p14_1:Ag)(p14_2:List Yb)(p14_3:List Bool)(p14_4:List Yb)(p14_5:List Bool)(p14_6:Ac)(p14_7:Ac)(k:Ei):Dq->Prop:=λo=>k (I o.1) [(1,(Br p14_1)),Axy,(13,[.aP false false (.t9 p14_2) (.t4 p14_3)]),(24,[.aP false false (.t9 o.2.1) (.t4 o.2.2)]),(1033,(Af p14_6)),(2036,(Af p14_7))]
def Aen [An A Dq](p14_0:Yb)(p14_1:Ag)(p14_2:List Yb)(p14_3:List Bool)(p14_4:List Yb)(p14_5:List Bool)(p14_6:Ac)(p14_7:Ac):A:=
 (bd (Dk L p14_0) λr12=>
 (cn (r12 != 0)
 (lf (r12,p14_4,p14_5))
 (fq (p14_4.findIdx? λb=>p14_0 == b) (λi13=>
 (cn (p14_5.getD i13 default)
 (lf (4,p14_4,p14_5))
 (fq (p14_4.findIdx? λb=>p14_0 == b) (λi14=>
 (lf (0,p14_4,(p14_5.set i14 true))))
 (lf (0,(p14_4++ [p14_0]),(p14_5++ [true]))))))
 (fq (p14_4.findIdx? λb=>p14_0 == b) (λi15=>
 (lf (0,p14_4,(p14_5.set i15 true))))
 (lf (0,(p14_4++ [p14_0]),(p14_5++ [true])))))))
def Yy(p14_0:Yb)(p14_1:Ag)(p14_2:List Yb)(p14_3:List Bool)(p14_4:List Yb)(p14_5:List Bool)(p14_6:Ac)(p14_7:Ac):Option Dq:=Aen L p14_0 p14_1 p14_2 p14_3 p14_4 p14_5 p14_6 p14_7
theorem Bf1(p14_0:Yb)(p14_1:Ag)(p14_2:List Yb)(p14_3:List Bool)(p14_4:List Yb)(p14_5:List Bool)(p14_6:Ac)(p14_7:Ac):YO (O50 L) L 7 79 [.mp 24,S p14_0] [(1,(Br p14_1)),Axy,(13,[.aP false false (.t9 p14_2) (.t4 p14_3)]),(24,[.aP false false (.t9 p14_4) (.t4 p14_5)]),(1033,(Af p14_6)),(2036,(Af p14_7))] k=ob (Yy L p14_0 p14_1 p14_2 p14_3 p14_4 p14_5 p14_6 p14_7) (Bd4 p14_0 p14_1 p14_2 p14_3 p14_4 p14_5 p14_6 p14_7 k):=(Dj _ _ _ jn4 _ _ _ _ _ _ _).trans (eE (Aen L p14_0 p14_1 p14_2 p14_3 p14_4 p14_5 p14_6 p14_7))
def Bd3(p12_0:Ac)(p12_1:Ag)(p12_2:List Yb)(p12_3:List Bool)(p12_4:List Yb)(p12_5:List Bool)(p12_6:Ac)(k:Ei):Dq->Prop:=λo=>k (I o.1) [(1,(Br p12_1)),Axy,(13,[.aP false false (.t9 p12_2) (.t4 p12_3)]),(24,[.aP false false (.t9 o.2.1) (.t4 o.2.2)]),(1033,(Af p12_6)),(2036,(Af p12_0))]
def Y9 [An A Dq](p12_0:Ac)(o16:Dq):A:=
 (cn (o16.1 != 0)
 (lf (o16.1,o16.2.1,o16.2.2))
 (bd (Acj L p12_0) λr17=>
 (lf (r17,o16.2.1,o16.2.2))))
def Aem [An A Dq](p12_0:Ac)(p12_1:Ag)(p12_2:List Yb)(p12_3:List Bool)(p12_4:List Yb)(p12_5:List Bool)(p12_6:Ac):A:=(bd (Yy L p12_0.aG p12_1 p12_2 p12_3 p12_4 p12_5 p12_6 p12_0) λo16=>Y9 L p12_0 o16)
def Lz(p12_0:Ac)(p12_1:Ag)(p12_2:List Yb)(p12_3:List Bool)(p12_4:List Yb)(p12_5:List Bool)(p12_6:Ac):Option Dq:=Aem L p12_0 p12_1 p12_2 p12_3 p12_4 p12_5 p12_6
theorem Bf0(p12_0:Ac)(p12_1:Ag)(p12_2:List Yb)(p12_3:List Bool)(p12_4:List Yb)(p12_5:List Bool)(p12_6:Ac):YO (O50 L) L 8 78 [.agg (Af p12_0),.loc 5 0] [(1,(Br p12_1)),Axy,(13,[.aP false false (.t9 p12_2) (.t4 p12_3)]),(24,[.aP false false (.t9 p12_4) (.t4 p12_5)]),(1033,(Af p12_6))] k=ob (Lz L p12_0 p12_1 p12_2 p12_3 p12_4 p12_5 p12_6) (Bd3 p12_0 p12_1 p12_2 p12_3 p12_4 p12_5 p12_6 k):=(Dj _ _ _ jn4 _ _ _ _ _ _ _).trans (eE ((hq (Bf1 L (Rn (O50 L) L 7 1 4 c78.u.l.l ⟨[(7,S p12_0.aG),(6,.loc 2036 0),(5,.mp 24),(1,.loc 5 0),(2,.loc 2036 0),(3,I 0)],[(1,(Br p12_1)),Axy,(13,[.aP false false (.t9 p12_2) (.t4 p12_3)]),(24,[.aP false false (.t9 p12_4) (.t4 p12_5)]),(1033,(Af p12_6)),(2036,(Af p12_0))],2034⟩ (some 8) (kN (KA (O50 L) L 7 c78 (rl [2,2]) (KJ Tryz.f78 k)))) p12_0.aG p12_1 p12_2 p12_3 p12_4 p12_5 p12_6 p12_0) λo16=>Y9 L p12_0 o16)))
def Bo8(p8_0:List Ac)(p8_1:Ag)(p8_2:List Yb)(p8_3:List Bool)(v:Tu3):St:=⟨[(0,.any),(1,.any),(2,Bdl),(6,I v.1),(14,lv (.t36 p8_0)),(15,I (p8_0.length:Int)),(16,I v.2.1)],[(1,(Br p8_1)),Axy,(13,[.aP false false (.t9 p8_2) (.t4 p8_3)]),(24,[.aP false false (.t9 v.2.2.1) (.t4 v.2.2.2)])],1025⟩
def Tl [An A Rq](L:Nat)(C7:Int)(C3:Int)(rec:Int->Int->List Yb->List Bool->A)(o18:Dq):A:=
 (cn (o18.1 != 0)
 (lf (0,o18.1,C7,o18.2.1,o18.2.2))
 (rec C3 (Bb (C7+1)) o18.2.1 o18.2.2))
def Tv [An A Rq](L:Nat)(p8_0:List Ac)(p8_1:Ag)(p8_2:List Yb)(p8_3:List Bool)(rec:Int->Int->List Yb->List Bool->A)(C3:Int)(C7:Int)(Q0:List Yb)(Ra:List Bool)(nx16:Int->(List Yb)->(List Bool)->Int->A):A:=
 (lw C7 p8_0
 (nx16 C7 Q0 Ra C3)
 (lf (1,C3,C7,Q0,Ra)))
def l5 [An A Rq](p8_0:List Ac)(p8_1:Ag)(p8_2:List Yb)(p8_3:List Bool)(rec:Int->Int->List Yb->List Bool->A)(C3:Int)(C7:Int)(Q0:List Yb)(Ra:List Bool):A:=Tv L p8_0 p8_1 p8_2 p8_3 rec C3 C7 Q0 Ra (λC7 Q0 Ra C3=>bd (Lz L (gD p8_0 C7) p8_1 p8_2 p8_3 Q0 Ra (gD p8_0 C7)) λo18=>Tl L C7 C3 rec o18)
def Kq(L:Nat)(p8_0:List Ac)(p8_1:Ag)(p8_2:List Yb)(p8_3:List Bool):Nat->Int->Int->List Yb->List Bool->Option Rq
 |0,_,_,_,_=>none
 |n+1,C3,C7,Q0,Ra=>l5 L p8_0 p8_1 p8_2 p8_3 (Kq L p8_0 p8_1 p8_2 p8_3 n) C3 C7 Q0 Ra
theorem Bnd(p8_0:List Ac)(p8_1:Ag)(p8_2:List Yb)(p8_3:List Bool):LP (EV (O50 L) L 8 c77.w.l.u.l.l) [0,1,2,6,14,15,16] [1,5,13,24] (Bo8 p8_0 p8_1 p8_2 p8_3) [.ret,.exit 0] (λn v=>Kq L p8_0 p8_1 p8_2 p8_3 n v.1 v.2.1 v.2.2.1 v.2.2.2) K:=lE (λ_=>rfl) λn v ih=>eE (Tv L p8_0 p8_1 p8_2 p8_3 (λC3 C7 Q0 Ra=>re (ih (C3,C7,Q0,Ra))) v.1 v.2.1 v.2.2.1 v.2.2.2 (λC7 Q0 Ra C3=>hq (Bf0 L (Rn (O50 L) L 8 1 3 c77.w.l.u.l.l.w.l.l.u.l ⟨[(21,.agg (Af (gD p8_0 C7))),(20,Bdl),(2,Bdl),(6,I C3),(8,.loc 1033 0),(14,lv (.t36 p8_0)),(15,I (p8_0.length:Int)),(16,I C7),(17,B (decide (C7<(p8_0.length:Int)))),(18,.ref (Af (gD p8_0 C7))),(19,.agg (Af (gD p8_0 C7)))],[(1,(Br p8_1)),Axy,(13,[.aP false false (.t9 p8_2) (.t4 p8_3)]),(24,[.aP false false (.t9 Q0) (.t4 Ra)]),(1033,(Af (gD p8_0 C7)))],1025⟩ (some 22) (kN (KA (O50 L) L 8 c77.w.l.u.l.l (rl [4,2,2,1]) (Jz (M8 (EV (O50 L) L 8 c77.w.l.u.l.l) [0,1,2,6,14,15,16] [1,5,13,24] n) [0,1,2,6,14,15,16] [1,5,13,24] K)))) (gD p8_0 C7) p8_1 p8_2 p8_3 Q0 Ra (gD p8_0 C7)) λo18=>Tl L C7 C3 (λC3 C7 Q0 Ra=>re (ih (C3,C7,Q0,Ra))) o18))
def Bj5(p8_0:List Ac)(p8_1:Ag)(p8_2:List Yb)(p8_3:List Bool)(k:Ei):Dq->Prop:=λo=>k (I o.1) [(1,(Br p8_1)),Axy,(13,[.aP false false (.t9 p8_2) (.t4 p8_3)]),(24,[.aP false false (.t9 o.2.1) (.t4 o.2.2)])]
def Aev [An A Dq](L:Nat)(o19:Nat×Tu3):A:=
 (sl o19.1 [(lf (o19.2.1,o19.2.2.2.1,o19.2.2.2.2)),
 (lf (0,o19.2.2.2.1,o19.2.2.2.2))])
def Ae3 [An A Dq](L:Nat)(p8_0:List Ac)(p8_1:Ag)(p8_2:List Yb)(p8_3:List Bool)(nx17:A):A:=
 (cn (decide ((p8_0.length:Int)>16))
 (lf (6,[],[]))
 nx17)
def Aqg [An A Dq](p8_0:List Ac)(p8_1:Ag)(p8_2:List Yb)(p8_3:List Bool):A:=Ae3 L p8_0 p8_1 p8_2 p8_3 (bd (Kq L p8_0 p8_1 p8_2 p8_3 L 0 0 [] []) λo19=>Aev L o19)
def d8(p8_0:List Ac)(p8_1:Ag)(p8_2:List Yb)(p8_3:List Bool):Option Dq:=Aqg L p8_0 p8_1 p8_2 p8_3
theorem Bmd(p8_0:List Ac)(p8_1:Ag)(p8_2:List Yb)(p8_3:List Bool):YO (O50 L) L 9 77 [lv (.t36 p8_0),I 16,Bdl] [(1,(Br p8_1)),Axy,(13,[.aP false false (.t9 p8_2) (.t4 p8_3)]),(24,zq5)] k=ob (d8 L p8_0 p8_1 p8_2 p8_3) (Bj5 p8_0 p8_1 p8_2 p8_3 k):=(Dj _ _ _ jn4 _ _ _ _ _ _ _).trans (eE (Ae3 L p8_0 p8_1 p8_2 p8_3 (hq (Bnd L (KA (O50 L) L 8 c77 (rl [4,1,2,1]) (KJ Tryz.f77 k)) p8_0 p8_1 p8_2 p8_3 L (0,0,[],[])) λo19=>Aev L o19)))
def Tm [An A Int](a0:Ag)(o20:Dq):A:=
 (cn (o20.1 != 0)
 (lf o20.1)
 (bd (Aab L a0) λr21=>
 (lf r21)))
def Tw [An A Int](L:Nat)(a0:Ag)(o11:Dq)(nx18:Dq->A):A:=
 (cn (o11.1 != 0)
 (lf o11.1)
 (cn ((a0.aD.length:Int) == 0)
 (lf 7)
 (nx18 o11)))
def n8 [An A Int](a0:Ag)(o11:Dq):A:=Tw L a0 o11 (λo11=>bd (d8 L a0.aD a0 o11.2.1 o11.2.2) λo20=>Tm L a0 o20)
def Vq [An A Int](a0:Ag)(nx9:A):A:=
 (bd (Dk L a0.aG) λr1=>
 (cn (r1 != 0)
 (lf r1)
 nx9))
def Al2 [An A Int](a0:Ag):A:=Vq L a0 (bd (d6 L a0.aJ a0) λo11=>n8 L a0 o11)
def z8(a0:Ag):Option Int:=Al2 L a0
def X50:N1:=E1 I 50 Pq (z8 L) λa0 r h=>hF Tryz.func50 (C:=O50 L) (oS _) L (λkk=>eE (Vq L a0 (hq (Bma L (Rn (O50 L) L 8 1 4 c76.u.l ⟨[(7,Bdm),(6,.mp 13),(5,lv (.t83 a0.aJ)),(0,.mp 13),(1,lv (.t83 a0.aJ)),(4,I 0)],[(1,(Br a0)),(13,zq5)],1014⟩ (some 8) (kN (KA (O50 L) L 8 c76 (rl [2,1]) (KJ Tryz.f76 (Rn (O50 L) L 9 1 4 c50.w.l.l ⟨[(15,lv (.t83 a0.aJ)),(14,.loc 1 1),(13,.mp 13),Ajq,(2,I 0)],[(13,zq5),(1,(Br a0))],0⟩ (some 16) (kN (KA (O50 L) L 9 c50 (rl [4,2]) (KE Tryz.f50 kk)))))))) a0.aJ a0) λo11=>Tw L a0 o11 (λo11=>hq (Bmd L (Rn (O50 L) L 9 1 4 c50.x.u.l ⟨[(27,Bdl),(26,lv (.t36 a0.aD)),(25,.loc 1 2),Ajq,(2,I 0),(5,.loc 5 0)],[(1,(Br a0)),Axy,(13,[.aP false false (.t9 o11.2.1) (.t4 o11.2.2)]),(24,zq5)],0⟩ (some 28) (kN (KA (O50 L) L 9 c50 (rl [10,1]) (KE Tryz.f50 kk)))) a0.aD a0 o11.2.1 o11.2.2) λo20=>Tm L a0 o20)))) h
def Br7:=CC Tryz.f175
def Bkk(L:Nat):Bj:=oL []
def Bh9(a0:List Ap)(a1:Yb)(v:Int×Bool×Int):St:=⟨[(0,lv (.dW a0)),(1,S a1),(4,I v.1),(5,B v.2.1),(6,I v.2.2)],[],0⟩
def Pv [An A (Nat×Int×Bool×Int)](L:Nat)(a0:List Ap)(a1:Yb)(rec:Int->Bool->Int->A)(Bl:Int)(Ak:Bool)(Cs:Int):A:=
 (cn (decide (Cs>=0))
 (gi Cs a0
 (cn ((gD a0 Cs).aG.toList == a1.toList)
 (gi Cs a0
 (lf (0,(((gD a0 Cs).bL),true,Cs))))
 (rec Bl Ak (Bb (Cs-1)))))
 (lf (1,Bl,Ak,Cs)))
def Jl(L:Nat)(a0:List Ap)(a1:Yb):Nat->Int->Bool->Int->Option (Nat×Int×Bool×Int)
 |0,_,_,_=>none
 |n+1,Bl,Ak,Cs=>Pv L a0 a1 (Jl L a0 a1 n) Bl Ak Cs
theorem Bg0(a0:List Ap)(a1:Yb):LP (EV (Bkk L) L 9 Br7.u.l.u.l.l) [0,1,4,5,6] [] (Bh9 a0 a1) [.ret,.exit 0] (λn v=>Jl L a0 a1 n v.1 v.2.1 v.2.2) K:=lE (λ_=>rfl) λn v ih=>eE (Pv L a0 a1 (λBl Ak Cs=>re (ih (Bl,Ak,Cs))) v.1 v.2.1 v.2.2)
def Tt [An A (Int×Bool)](L:Nat)(o1:Nat×Int×Bool×Int):A:=
 (sl o1.1 [(lf (o1.2.1,o1.2.2.1)),
 (lf (0,false))])
def Aj8 [An A (Int×Bool)](a0:List Ap)(a1:Yb):A:=(bd (Jl L a0 a1 L 0 false (Bb ((a0.length:Int)-1))) λo1=>Tt L o1)
def N3(a0:List Ap)(a1:Yb):Option (Int×Bool):=Aj8 L a0 a1
def Bew:N1:=E2 (λ(x:Int×Bool)=>.bI [I x.1,B x.2]) 175 Bsp cS (N3 L) λa0 a1 r h=>hF Tryz.func175 (C:=Bkk L) (oS _) L (λkk=>eE ((hq (Bg0 L (KA (Bkk L) L 9 Br7 (rl [2,1,2,1]) (KE Tryz.f175 kk)) a0 a1 L (0,false,(Bb ((a0.length:Int)-1)))) λo1=>Tt L o1))) h
def c91:=CC Tryz.f91
def O91:Bj:=oL [Bew L]
def Bpt(a1:Yb)(a0:Az)(v:Int×Bool×Int):St:=⟨[(0,.any),(1,S a1),Ab9,(4,I v.1),(5,B v.2.1),(6,.any),(7,.any),(11,.any),(23,lv (.t83 a0.aI.bG)),(24,I (a0.aI.bG.length:Int)),(25,I v.2.2),(39,.any)],[(2,(Alg a0))],0⟩
def Uz [An A (Nat×Int×Bool×Int)](L:Nat)(a1:Yb)(a0:Az)(rec:Int->Bool->Int->A)(Aq:Int)(Bl:Bool)(Hs:Int):A:=
 (lw Hs a0.aI.bG
 (cn ((gD a0.aI.bG Hs).aG.toList == a1.toList)
 (lf (0,(((gD a0.aI.bG Hs).bL),true,Hs)))
 (rec Aq Bl (Bb (Hs+1))))
 (lf (1,Aq,Bl,Hs)))
def Ky(L:Nat)(a1:Yb)(a0:Az):Nat->Int->Bool->Int->Option (Nat×Int×Bool×Int)
 |0,_,_,_=>none
 |n+1,Aq,Bl,Hs=>Uz L a1 a0 (Ky L a1 a0 n) Aq Bl Hs
theorem Bnx(a1:Yb)(a0:Az):LP (EV (O91 L) L 9 c91.w.l.u.l.l) [0,1,2,4,5,6,7,11,23,24,25,39] [2] (Bpt a1 a0) [.ret,.exit 0] (λn v=>Ky L a1 a0 n v.1 v.2.1 v.2.2) K:=lE (λ_=>rfl) λn v ih=>eE (Uz L a1 a0 (λAq Bl Hs=>re (ih (Aq,Bl,Hs))) v.1 v.2.1 v.2.2)
def Bpu(a1:Yb)(a0:Az)(v:Int×Bool×Int):St:=⟨[(0,.any),(1,S a1),(2,.any),(4,I v.1),(5,B v.2.1),(6,.any),(7,.any),(9,.any),(25,.any),(37,lv (.t83 a0.aJ)),(38,I (a0.aJ.length:Int)),(39,I v.2.2)],[(2,(Alg a0))],0⟩
def U0 [An A (Nat×Int×Bool×Int)](L:Nat)(a1:Yb)(a0:Az)(rec:Int->Bool->Int->A)(I6:Int)(Lm:Bool)(Lv:Int):A:=
 (lw Lv a0.aJ
 (cn ((gD a0.aJ Lv).aG.toList == a1.toList)
 (lf (0,(((gD a0.aJ Lv).bL),true,Lv)))
 (rec I6 Lm (Bb (Lv+1))))
 (lf (1,I6,Lm,Lv)))
def Kz(L:Nat)(a1:Yb)(a0:Az):Nat->Int->Bool->Int->Option (Nat×Int×Bool×Int)
 |0,_,_,_=>none
 |n+1,I6,Lm,Lv=>U0 L a1 a0 (Kz L a1 a0 n) I6 Lm Lv
theorem Bny(a1:Yb)(a0:Az):LP (EV (O91 L) L 9 c91.w.u.l.u.l.l) [0,1,2,4,5,6,7,9,25,37,38,39] [2] (Bpu a1 a0) [.ret,.exit 2] (λn v=>Kz L a1 a0 n v.1 v.2.1 v.2.2) K:=lE (λ_=>rfl) λn v ih=>eE (U0 L a1 a0 (λI6 Lm Lv=>re (ih (I6,Lm,Lv))) v.1 v.2.1 v.2.2)
def Vl [An A (Int×Bool)](L:Nat)(o3:Nat×Int×Bool×Int):A:=
 (sl o3.1 [(lf (o3.2.1,o3.2.2.1)),
 (lf (0,false))])
def V3 [An A (Int×Bool)](L:Nat)(a1:Yb)(a0:Az)(o2:Nat×Int×Bool×Int)(nx2:(Nat×Int×Bool×Int)->A):A:=
 (sl o2.1 [(lf (o2.2.1,o2.2.2.1)),
 (nx2 o2)])
def v8 [An A (Int×Bool)](a1:Yb)(a0:Az)(o2:Nat×Int×Bool×Int):A:=V3 L a1 a0 o2 (λo2=>bd (Kz L a1 a0 L o2.2.1 o2.2.2.1 0) λo3=>Vl L o3)
def V2 [An A (Int×Bool)](a0:Az)(a1:Yb)(nx1:A):A:=
 (bd (N3 L a0.aL a1) λr1=>
 (cn r1.2
 (lf (r1.1,true))
 nx1))
def Al7 [An A (Int×Bool)](a0:Az)(a1:Yb):A:=V2 L a0 a1 (bd (Ky L a1 a0 L 0 false 0) λo2=>v8 L a1 a0 o2)
def Aad(a0:Az)(a1:Yb):Option (Int×Bool):=Al7 L a0 a1
def X91:N1:=E2 (λ(x:Int×Bool)=>.bI [I x.1,B x.2]) 91 Adm cS (Aad L) λa0 a1 r h=>hF Tryz.func91 (C:=O91 L) (oS _) L (λkk=>eE (V2 L a0 a1 (hq (Bnx L (KA (O91 L) L 9 c91 (rl [4,1,2,1]) (KE Tryz.f91 kk)) a1 a0 L (0,false,0)) λo2=>V3 L a1 a0 o2 (λo2=>hq (Bny L (KA (O91 L) L 9 c91 (rl [6,1,2,1]) (KE Tryz.f91 kk)) a1 a0 L (o2.2.1,o2.2.2.1,0)) λo3=>Vl L o3)))) h
def Be5:=CC Tryz.f170
def Br8:=CC Tryz.f178
def Br9:=CC Tryz.f182
def c96:=CC Tryz.f96
def O96:Bj:=oL [X90 L,Bq0 L]
def Bwn:(Yb×Int)->Prop:=λx=>kk ((λ(x:Yb×Int)=>.bI [S x.1,I x.2]) x)
def Bpv(p1_0:List Ai)(p1_1:Ac)(p1_2:Yb)(v:Lw):St:=⟨[(0,lv (.t83 p1_0)),(1,.bK 177 0 zq8),(4,I v.1),(7,I (p1_0.length:Int)),(8,I v.2)],[(2,(Af p1_1)),(3,[S p1_2])],1004⟩
def Uu [An A Rs](L:Nat)(p1_0:List Ai)(p1_1:Ac)(p1_2:Yb)(rec:Int->Int->A)(Aq:Int)(Ak:Int):A:=
 (lw Ak p1_0
 (cn ((gD p1_0 Ak).aG.toList == p1_2.toList)
 (lf (0,Ak,Ak))
 (rec Aq (Bb (Ak+1))))
 (lf (1,Aq,Ak)))
def Ks(L:Nat)(p1_0:List Ai)(p1_1:Ac)(p1_2:Yb):Nat->Int->Int->Option Rs
 |0,_,_=>none
 |n+1,Aq,Ak=>Uu L p1_0 p1_1 p1_2 (Ks L p1_0 p1_1 p1_2 n) Aq Ak
theorem Bnz(p1_0:List Ai)(p1_1:Ac)(p1_2:Yb):LP (EV (O96 L) L 8 Be5.u.l.u.l.l) [0,1,4,7,8] [2,3] (Bpv p1_0 p1_1 p1_2) [.ret,.exit 0] (λn v=>Ks L p1_0 p1_1 p1_2 n v.1 v.2) K:=lE (λ_=>rfl) λn v ih=>eE (Uu L p1_0 p1_1 p1_2 (λAq Ak=>re (ih (Aq,Ak))) v.1 v.2)
def Bka(p1_0:List Ai)(p1_1:Ac)(p1_2:Yb)(k:Ei):Int->Prop:=λo=>k (I o) [(2,(Af p1_1)),(3,[S p1_2])]
def q9 [An A Int](L:Nat)(o1:Nat×Lw):A:=
 (sl o1.1 [(lf o1.2.1),
 (lf (-1))])
def Af9 [An A Int](p1_0:List Ai)(p1_1:Ac)(p1_2:Yb):A:=(bd (Ks L p1_0 p1_1 p1_2 L 0 0) λo1=>q9 L o1)
def Un(p1_0:List Ai)(p1_1:Ac)(p1_2:Yb):Option Int:=Af9 L p1_0 p1_1 p1_2
theorem Bmj(p1_0:List Ai)(p1_1:Ac)(p1_2:Yb):YO (O96 L) L 9 170 [lv (.t83 p1_0),.bK 177 0 zq8] [(2,(Af p1_1)),(3,[S p1_2])] k=ob (Un L p1_0 p1_1 p1_2) (Bka p1_0 p1_1 p1_2 k):=(Dj _ _ _ jn4 _ _ _ _ _ _ _).trans (eE ((hq (Bnz L (KA (O96 L) L 8 Be5 (rl [2,1,2,1]) (KJ Tryz.f170 k)) p1_0 p1_1 p1_2 L (0,0)) λo1=>q9 L o1)))
def Bpw(p2_0:List Ah)(p2_1:Ac)(p2_2:Yb)(v:Lw):St:=⟨[(0,lv (.t206 p2_0)),(1,.bK 179 0 zq8),(4,I v.1),(7,I (p2_0.length:Int)),(8,I v.2)],[(2,(Af p2_1)),(3,[S p2_2])],1004⟩
def Uv [An A Rs](L:Nat)(p2_0:List Ah)(p2_1:Ac)(p2_2:Yb)(rec:Int->Int->A)(I6:Int)(C7:Int):A:=
 (lw C7 p2_0
 (cn ((gD p2_0 C7).aG.toList == p2_2.toList)
 (lf (0,C7,C7))
 (rec I6 (Bb (C7+1))))
 (lf (1,I6,C7)))
def Kt(L:Nat)(p2_0:List Ah)(p2_1:Ac)(p2_2:Yb):Nat->Int->Int->Option Rs
 |0,_,_=>none
 |n+1,I6,C7=>Uv L p2_0 p2_1 p2_2 (Kt L p2_0 p2_1 p2_2 n) I6 C7
theorem Bn0(p2_0:List Ah)(p2_1:Ac)(p2_2:Yb):LP (EV (O96 L) L 8 Br8.u.l.u.l.l) [0,1,4,7,8] [2,3] (Bpw p2_0 p2_1 p2_2) [.ret,.exit 0] (λn v=>Kt L p2_0 p2_1 p2_2 n v.1 v.2) K:=lE (λ_=>rfl) λn v ih=>eE (Uv L p2_0 p2_1 p2_2 (λI6 C7=>re (ih (I6,C7))) v.1 v.2)
def Bkb(p2_0:List Ah)(p2_1:Ac)(p2_2:Yb)(k:Ei):Int->Prop:=λo=>k (I o) [(2,(Af p2_1)),(3,[S p2_2])]
def s8 [An A Int](L:Nat)(o3:Nat×Lw):A:=
 (sl o3.1 [(lf o3.2.1),
 (lf (-1))])
def Aga [An A Int](p2_0:List Ah)(p2_1:Ac)(p2_2:Yb):A:=(bd (Kt L p2_0 p2_1 p2_2 L 0 0) λo3=>s8 L o3)
def Uo(p2_0:List Ah)(p2_1:Ac)(p2_2:Yb):Option Int:=Aga L p2_0 p2_1 p2_2
theorem Bmk(p2_0:List Ah)(p2_1:Ac)(p2_2:Yb):YO (O96 L) L 9 178 [lv (.t206 p2_0),.bK 179 0 zq8] [(2,(Af p2_1)),(3,[S p2_2])] k=ob (Uo L p2_0 p2_1 p2_2) (Bkb p2_0 p2_1 p2_2 k):=(Dj _ _ _ jn4 _ _ _ _ _ _ _).trans (eE ((hq (Bn0 L (KA (O96 L) L 8 Br8 (rl [2,1,2,1]) (KJ Tryz.f178 k)) p2_0 p2_1 p2_2 L (0,0)) λo3=>s8 L o3)))
def Bpx(p3_0:List Ao)(p3_1:Ac)(p3_2:Yb)(v:Lw):St:=⟨[(0,lv (.t213 p3_0)),(1,.bK 181 0 zq8),(4,I v.1),(7,I (p3_0.length:Int)),(8,I v.2)],[(2,(Af p3_1)),(3,[S p3_2])],1004⟩
def Uw [An A Rs](L:Nat)(p3_0:List Ao)(p3_1:Ac)(p3_2:Yb)(rec:Int->Int->A)(Ajn:Int)(Nl:Int):A:=
 (lw Nl p3_0
 (cn ((gD p3_0 Nl).aG.toList == p3_2.toList)
 (lf (0,Nl,Nl))
 (rec Ajn (Bb (Nl+1))))
 (lf (1,Ajn,Nl)))
def Ku(L:Nat)(p3_0:List Ao)(p3_1:Ac)(p3_2:Yb):Nat->Int->Int->Option Rs
 |0,_,_=>none
 |n+1,Ajn,Nl=>Uw L p3_0 p3_1 p3_2 (Ku L p3_0 p3_1 p3_2 n) Ajn Nl
theorem Bn1(p3_0:List Ao)(p3_1:Ac)(p3_2:Yb):LP (EV (O96 L) L 8 Be6.u.l.u.l.l) [0,1,4,7,8] [2,3] (Bpx p3_0 p3_1 p3_2) [.ret,.exit 0] (λn v=>Ku L p3_0 p3_1 p3_2 n v.1 v.2) K:=lE (λ_=>rfl) λn v ih=>eE (Uw L p3_0 p3_1 p3_2 (λAjn Nl=>re (ih (Ajn,Nl))) v.1 v.2)
def A94(p3_0:List Ao)(p3_1:Ac)(p3_2:Yb)(k:Ei):Int->Prop:=λo=>k (I o) [(2,(Af p3_1)),(3,[S p3_2])]
def u5 [An A Int](L:Nat)(o5:Nat×Lw):A:=
 (sl o5.1 [(lf o5.2.1),
 (lf (-1))])
def Agb [An A Int](p3_0:List Ao)(p3_1:Ac)(p3_2:Yb):A:=(bd (Ku L p3_0 p3_1 p3_2 L 0 0) λo5=>u5 L o5)
def Uq(p3_0:List Ao)(p3_1:Ac)(p3_2:Yb):Option Int:=Agb L p3_0 p3_1 p3_2
theorem Bml(p3_0:List Ao)(p3_1:Ac)(p3_2:Yb):YO (O96 L) L 9 180 [lv (.t213 p3_0),.bK 181 0 zq8] [(2,(Af p3_1)),(3,[S p3_2])] k=ob (Uq L p3_0 p3_1 p3_2) (A94 p3_0 p3_1 p3_2 k):=(Dj _ _ _ jn4 _ _ _ _ _ _ _).trans (eE ((hq (Bn1 L (KA (O96 L) L 8 Be6 (rl [2,1,2,1]) (KJ Tryz.f180 k)) p3_0 p3_1 p3_2 L (0,0)) λo5=>u5 L o5)))
def Bpy(p4_0:List Ar)(p4_1:Ac)(p4_2:Yb)(v:Lw):St:=⟨[(0,lv (.bY p4_0)),(1,.bK 183 0 zq8),(4,I v.1),(7,I (p4_0.length:Int)),(8,I v.2)],[(2,(Af p4_1)),(3,[S p4_2])],1004⟩
def Ux [An A Rs](L:Nat)(p4_0:List Ar)(p4_1:Ac)(p4_2:Yb)(rec:Int->Int->A)(Ajo:Int)(Sf:Int):A:=
 (lw Sf p4_0
 (cn ((gD p4_0 Sf).aG.toList == p4_2.toList)
 (lf (0,Sf,Sf))
 (rec Ajo (Bb (Sf+1))))
 (lf (1,Ajo,Sf)))
def Kv(L:Nat)(p4_0:List Ar)(p4_1:Ac)(p4_2:Yb):Nat->Int->Int->Option Rs
 |0,_,_=>none
 |n+1,Ajo,Sf=>Ux L p4_0 p4_1 p4_2 (Kv L p4_0 p4_1 p4_2 n) Ajo Sf
theorem Bn2(p4_0:List Ar)(p4_1:Ac)(p4_2:Yb):LP (EV (O96 L) L 8 Br9.u.l.u.l.l) [0,1,4,7,8] [2,3] (Bpy p4_0 p4_1 p4_2) [.ret,.exit 0] (λn v=>Kv L p4_0 p4_1 p4_2 n v.1 v.2) K:=lE (λ_=>rfl) λn v ih=>eE (Ux L p4_0 p4_1 p4_2 (λAjo Sf=>re (ih (Ajo,Sf))) v.1 v.2)
def Bkc(p4_0:List Ar)(p4_1:Ac)(p4_2:Yb)(k:Ei):Int->Prop:=λo=>k (I o) [(2,(Af p4_1)),(3,[S p4_2])]
def Za [An A Int](L:Nat)(o7:Nat×Lw):A:=
 (sl o7.1 [(lf o7.2.1),
 (lf (-1))])
def Agc [An A Int](p4_0:List Ar)(p4_1:Ac)(p4_2:Yb):A:=(bd (Kv L p4_0 p4_1 p4_2 L 0 0) λo7=>Za L o7)
def Ur(p4_0:List Ar)(p4_1:Ac)(p4_2:Yb):Option Int:=Agc L p4_0 p4_1 p4_2
theorem Bmm(p4_0:List Ar)(p4_1:Ac)(p4_2:Yb):YO (O96 L) L 9 182 [lv (.bY p4_0),.bK 183 0 zq8] [(2,(Af p4_1)),(3,[S p4_2])] k=ob (Ur L p4_0 p4_1 p4_2) (Bkc p4_0 p4_1 p4_2 k):=(Dj _ _ _ jn4 _ _ _ _ _ _ _).trans (eE ((hq (Bn2 L (KA (O96 L) L 8 Br9 (rl [2,1,2,1]) (KJ Tryz.f182 k)) p4_0 p4_1 p4_2 L (0,0)) λo7=>Za L o7)))
def Tn [An A (Yb×Int)](a0:Ac)(a1:Yb)(o8:Int):A:=
 (cn (decide (o8>=0))
 (lf ((⟨#[98,101,108,116]⟩:Yb),o8))
 (bd (D0 L a0.aX a1) λr9=>
 (cn (decide (r9>=0))
 (lf ((⟨#[113,117,101,117,101]⟩:Yb),r9))
 (bd (D0 L a0.aR a1) λr10=>
 (cn (decide (r10>=0))
 (lf ((⟨#[115,116,114,101,97,109]⟩:Yb),r10))
 (bd (D0 L a0.aT a1) λr11=>
 (cn (decide (r11>=0))
 (lf ((⟨#[116,97,108,108,121]⟩:Yb),r11))
 (bd (D0 L a0.bA a1) λr12=>
 (cn (decide (r12>=0))
 (lf ((⟨#[108,101,118,101,108]⟩:Yb),r12))
 (bd (D0 L a0.aU a1) λr13=>
 (cn (decide (r13>=0))
 (lf ((⟨#[99,111,117,110,116]⟩:Yb),r13))
 (bd (Ej L a0 a1) λr14=>
 (cn (decide (r14>=0))
 (lf ((⟨#[114,111,117,116,105,110,101]⟩:Yb),r14))
 (lf ((⟨#[]⟩:Yb),(-1))))))))))))))))
def Tx [An A (Yb×Int)](L:Nat)(a0:Ac)(a1:Yb)(o6:Int)(nx12:A):A:=
 (cn (decide (o6>=0))
 (lf ((⟨#[115,116,111,114,101]⟩:Yb),o6))
 nx12)
def Vb [An A (Yb×Int)](a0:Ac)(a1:Yb)(o6:Int):A:=Tx L a0 a1 o6 (bd (Ur L a0.bH a0 a1) λo8=>Tn L a0 a1 o8)
def Bbn(a0:Ac)(a1:Yb):Ei:=(Rn (O96 L) L 9 1 4 c96.w.u.l.l ⟨[(32,.bK 181 0 zq8),(31,lv (.t213 a0.aO)),(30,.loc 2 3),Ab9,zq9,(4,S (⟨#[]⟩:Yb)),(5,I 0)],[(2,(Af a0)),(3,[S a1])],0⟩ (some 33) (kN (KA (O96 L) L 9 c96 (rl [6,2]) (KE Tryz.f96 kk))))
theorem Bti(a0:Ac)(a1:Yb)(o6:Int):A94 a0.aO a0 a1 (Bbn L kk a0 a1) o6=ob (Vb L a0 a1 o6) (Bwn kk):=eE (Tx L a0 a1 o6 (hq (Bmm L (Rn (O96 L) L 9 1 4 c96.x.l.l ⟨[(39,.bK 183 0 zq8),(38,lv (.bY a0.bH)),(37,.loc 2 4),Ab9,zq9,(4,S (⟨#[]⟩:Yb)),(5,I 0)],[(2,(Af a0)),(3,[S a1])],0⟩ (some 40) (kN (KA (O96 L) L 9 c96 (rl [8,2]) (KE Tryz.f96 kk)))) a0.bH a0 a1) λo8=>Tn L a0 a1 o8))
def Vu [An A (Yb×Int)](L:Nat)(a0:Ac)(a1:Yb)(o4:Int)(nx9:A):A:=
 (cn (decide (o4>=0))
 (lf ((⟨#[114,101,115,111,117,114,99,101]⟩:Yb),o4))
 nx9)
def u4 [An A (Yb×Int)](a0:Ac)(a1:Yb)(o4:Int):A:=Vu L a0 a1 o4 (bd (Uq L a0.aO a0 a1) λo6=>Vb L a0 a1 o6)
def Vt [An A (Yb×Int)](L:Nat)(a0:Ac)(a1:Yb)(o2:Int)(nx6:A):A:=
 (cn (decide (o2>=0))
 (lf ((⟨#[118,97,114]⟩:Yb),o2))
 nx6)
def s7 [An A (Yb×Int)](a0:Ac)(a1:Yb)(o2:Int):A:=Vt L a0 a1 o2 (bd (Uo L a0.aM a0 a1) λo4=>u4 L a0 a1 o4)
def Al4 [An A (Yb×Int)](a0:Ac)(a1:Yb):A:=(bd (Un L a0.bG a0 a1) λo2=>s7 L a0 a1 o2)
def Wd(a0:Ac)(a1:Yb):Option (Yb×Int):=Al4 L a0 a1
def X96:N1:=E2 (λ(x:Yb×Int)=>.bI [S x.1,I x.2]) 96 Ie cS (Wd L) λa0 a1 r h=>hF Tryz.func96 (C:=O96 L) (oS _) L (λkk=>eE ((hq (Bmj L (Rn (O96 L) L 9 1 4 c96.u.l.l ⟨[(18,.bK 177 0 zq8),(17,lv (.t83 a0.bG)),(16,.loc 2 1),Ab9,zq9,(4,S (⟨#[]⟩:Yb)),(5,I 0)],[(2,(Af a0)),(3,[S a1])],0⟩ (some 19) (kN (KA (O96 L) L 9 c96 (rl [2,2]) (KE Tryz.f96 kk)))) a0.bG a0 a1) λo2=>Vt L a0 a1 o2 (hq (Bmk L (Rn (O96 L) L 9 1 4 c96.w.l.l ⟨[(25,.bK 179 0 zq8),(24,lv (.t206 a0.aM)),(23,.loc 2 2),Ab9,zq9,(4,S (⟨#[]⟩:Yb)),(5,I 0)],[(2,(Af a0)),(3,[S a1])],0⟩ (some 26) (kN (KA (O96 L) L 9 c96 (rl [4,2]) (KE Tryz.f96 kk)))) a0.aM a0 a1) λo4=>Vu L a0 a1 o4 (ho (Bml L (Bbn L kk a0 a1) a0.aO a0 a1) λo6=>Bti L kk a0 a1 o6))))) h
def Ahz [An A Yb](a0:Ac)(a1:Yb):A:=
 (bd (Wd L a0 a1) λr1=>
 (lf r1.1))
def Rw(a0:Ac)(a1:Yb):Option Yb:=Ahz L a0 a1
def X60:N1:=E2 S 60 Ie cS (Rw L) λa0 a1 r h=>hF Tryz.func60 (oS [X96 L]) L (λkk=>eE (Ahz L a0 a1)) h
def Abh [An A Bool](L:Nat)(a0:Int)(a1:Yb):A:=
 (cn (a0 == 22)
 (lf (a1.toList == (⟨#[114,101,115,111,117,114,99,101]⟩:Yb).toList))
 (cn (a0 == 23)
 (lf (a1.toList == (⟨#[115,116,111,114,101]⟩:Yb).toList))
 (jp (.cn (a1.toList == (⟨#[114,101,115,111,117,114,99,101]⟩:Yb).toList)
 (.lf true)
 (.lf (a1.toList == (⟨#[113,117,101,117,101]⟩:Yb).toList))) (λb1=>
 (lf b1)))))
def Wn(a0:Int)(a1:Yb):Option Bool:=Abh L a0 a1
def X92:N1:=E2 B 92 (cI .i64) cS (Wn L) λa0 a1 r h=>hF Tryz.func92 (oS []) L (λkk=>eE (Abh L a0 a1)) h
def Yn [An A Bool](L:Nat)(a0:Int):A:=
 (jp (.cn (a0 == 1)
 (.lf true)
 (.lf (a0 == 3))) (λb1=>
 (lf b1)))
def H1(a0:Int):Option Bool:=Yn L a0
def Bqz:N1:=E1 B 176 (cI .i64) (H1 L) λa0 r h=>hF Tryz.func176 (oS []) L (λkk=>eE (Yn L a0)) h
def Adi [An A Int](a0:Int)(a1:Int):A:=
 (jb (.cn (a0 == 5)
 (.bd (H1 L a1) λr2=>
 (.lf r2))
 (.lf false)) (λb1=>
 (cn b1
 (cn b1
 (lf a1)
 (jp (.cn (a0 == 7)
 (.lf (a1 == 1))
 (.lf false)) (λb3=>
 (cn b3
 (lf 3)
 (jp (.cn (a0 == 8)
 (.lf (a1 == 3))
 (.lf false)) (λb4=>
 (cn b4
 (lf 1)
 (lf 0))))))))
 (jp (.cn (a0 == 6)
 (.lf (a1 == 2))
 (.lf false)) (λb5=>
 (cn b5
 (lf a1)
 (jp (.cn (a0 == 7)
 (.lf (a1 == 1))
 (.lf false)) (λb6=>
 (cn b6
 (lf 3)
 (jp (.cn (a0 == 8)
 (.lf (a1 == 3))
 (.lf false)) (λb7=>
 (cn b7
 (lf 1)
 (lf 0)))))))))))))
def Yh(a0:Int)(a1:Int):Option Int:=Adi L a0 a1
def X93:N1:=E2 I 93 (cI .i64) (cI .i64) (Yh L) λa0 a1 r h=>hF Tryz.func93 (oS [Bqz L]) L (λkk=>eE (Adi L a0 a1)) h
end
end Go.Proofs.YtgacplpjamkieaaGreat.Ev
