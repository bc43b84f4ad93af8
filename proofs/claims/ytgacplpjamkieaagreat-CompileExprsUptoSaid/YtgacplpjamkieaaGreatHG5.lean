import Derived.Test.YtgacplpjamkieaaGreatHG1
import Derived.Test.YtgacplpjamkieaaGreatHG2
import Derived.Test.YtgacplpjamkieaaGreatHG4
set_option maxRecDepth 100000
set_option maxHeartbeats 4000000
set_option linter.unusedVariables false
set_option linter.unusedSimpArgs false
set_option linter.unnecessarySimpa false
namespace Go.Proofs.YtgacplpjamkieaaGreat.Ev
open Go An
noncomputable section
variable {A:Type} (L n:Nat) (kk:Hf) (K:De) (k:C3)
def c73:=CC Tryz.f73
def c49:=CC Tryz.f49
def O49(L:Nat):Ba:=oL []
def Bkd(p1_0:List Ab)(p1_1:Al)(p1_2:Yb)(v:Ef):St:=⟨[(0,lv (.t36 p1_0)),(1,.bA 74 0 Kz),(4,I v.1),(7,I (p1_0.length:Int)),(8,I v.2)],[(2,(Bi p1_1)),(3,[S p1_2])],1004⟩
def Ad2 [An A C0](L:Nat)(p1_0:List Ab)(p1_1:Al)(p1_2:Yb)(rec:Int->Int->A)(Aq:Int)(Aj:Int):A:=
 (lw Aj p1_0
 (cn ((gD p1_0 Aj).aD.toList == p1_2.toList)
 (lf (0,Aj,Aj))
 (rec Aq (Cp (Aj+1))))
 (lf (1,Aq,Aj)))
def Vk(L:Nat)(p1_0:List Ab)(p1_1:Al)(p1_2:Yb):Nat->Int->Int->Option C0
 |0,_,_=>none
 |n+1,Aq,Aj=>Ad2 L p1_0 p1_1 p1_2 (Vk L p1_0 p1_1 p1_2 n) Aq Aj
theorem Bix(p1_0:List Ab)(p1_1:Al)(p1_2:Yb):LP (EV (O49 L) L 8 c73.u.l.u.l.l) [0,1,4,7,8] [2,3] (Bkd p1_0 p1_1 p1_2) [.ret,.exit 0] (λn v=>Vk L p1_0 p1_1 p1_2 n v.1 v.2) K:=lE (λ_=>rfl) λn v ih=>eE (Ad2 L p1_0 p1_1 p1_2 (λAq Aj=>re (ih (Aq,Aj))) v.1 v.2)
def Bfp(p1_0:List Ab)(p1_1:Al)(p1_2:Yb)(k:C3):Int->Prop:=λo=>k (I o) [(2,(Bi p1_1)),(3,[S p1_2])]
def Aeh [An A Int](L:Nat)(o1:Nat×Ef):A:=
 (sl o1.1 [(lf o1.2.1),
 (lf (-1))])
def Aox [An A Int](p1_0:List Ab)(p1_1:Al)(p1_2:Yb):A:=(bd (Vk L p1_0 p1_1 p1_2 L 0 0) λo1=>Aeh L o1)
def Adx(p1_0:List Ab)(p1_1:Al)(p1_2:Yb):Option Int:=Aox L p1_0 p1_1 p1_2
theorem Bh2(p1_0:List Ab)(p1_1:Al)(p1_2:Yb):YO (O49 L) L 9 73 [lv (.t36 p1_0),.bA 74 0 Kz] [(2,(Bi p1_1)),(3,[S p1_2])] k=ob (Adx L p1_0 p1_1 p1_2) (Bfp p1_0 p1_1 p1_2 k):=(Cf _ _ _ Yr _ _ _ _ _ _ _).trans (eE ((hq (Bix L (KA (O49 L) L 8 c73 (rl [2,1,2,1]) (KJ Tryz.f73 k)) p1_0 p1_1 p1_2 L (0,0)) λo1=>Aeh L o1)))
def Aei [An A Int](L:Nat)(o2:Int):A:=
 (lf o2)
def Au7 [An A Int](a0:Al)(a1:Yb):A:=(bd (Adx L a0.aU a0 a1) λo2=>Aei L o2)
def Rc(a0:Al)(a1:Yb):Option Int:=Au7 L a0 a1
def X49:Fs:=E2 I 49 Lb cS (Rc L) λa0 a1 r h=>hF Tryz.func49 (C:=O49 L) (oS _) L (λkk=>eE ((hq (Bh2 L (K1 (O49 L) L 9 1 4 c49.u.l ⟨[(7,.bA 74 0 Kz),(6,lv (.t36 a0.aU)),(5,.loc 2 2),zq9,Qe,(4,I 0)],[(2,(Bi a0)),(3,[S a1])],0⟩ (some 8) (kN (KA (O49 L) L 9 c49 (rl [2,1]) (KE Tryz.f49 kk)))) a0.aU a0 a1) λo2=>Aei L o2))) h
def A52:=CC Tryz.f158
def c81:=CC Tryz.f81
def O81:Ba:=oL [X49 L,A3v L]
def Bfv(p3_0:Bs)(p3_1:Al)(p3_2:List Br)(p3_3:List Bool)(p3_4:Bs)(k:C3):Tu9->Prop:=λo=>k (I o.1) [(1,(Bi p3_1)),l7,(4,[.aL true false (.t228 o.2.1) (.t4 o.2.2)]),(1013,(Ld p3_4)),(2017,(Ld p3_0)),(2019,[S p3_0.fD,S p3_0.To])]
def n9 [An A Tu9](p3_0:Bs)(p3_1:Al)(p3_2:List Br)(p3_3:List Bool)(p3_4:Bs):A:=
 (bd (Rc L p3_1 p3_0.fD) λr1=>
 (jb (.cn (decide (r1<0))
 (.lf true)
 (.bd (Rc L p3_1 p3_0.To) λr3=>
 (.lf (decide (r3<0))))) (λb2=>
 (cn b2
 (lf (5,p3_2,p3_3))
 (cn (p3_0.fD.toList == p3_0.To.toList)
 (lf (1,p3_2,p3_3))
 (bd (Bd L p3_0.fT 1 1000000000) λr4=>
 (cn (!r4)
 (lf (2,p3_2,p3_3))
 (fq (p3_2.findIdx? λb=>(p3_0.fD == b.a0 && (p3_0.To == b.a1))) (λi5=>
 (cn (p3_3.getD i5 default)
 (lf (4,p3_2,p3_3))
 (fq (p3_2.findIdx? λb=>(p3_0.fD == b.a0 && (p3_0.To == b.a1))) (λi6=>
 (lf (0,p3_2,(p3_3.set i6 true))))
 (lf (0,(p3_2++ [(⟨p3_0.fD,p3_0.To⟩:Br)]),(p3_3++ [true]))))))
 (fq (p3_2.findIdx? λb=>(p3_0.fD == b.a0 && (p3_0.To == b.a1))) (λi7=>
 (lf (0,p3_2,(p3_3.set i7 true))))
 (lf (0,(p3_2++ [(⟨p3_0.fD,p3_0.To⟩:Br)]),(p3_3++ [true]))))))))))))
def y6(p3_0:Bs)(p3_1:Al)(p3_2:List Br)(p3_3:List Bool)(p3_4:Bs):Option Tu9:=n9 L p3_0 p3_1 p3_2 p3_3 p3_4
theorem Bh9(p3_0:Bs)(p3_1:Al)(p3_2:List Br)(p3_3:List Bool)(p3_4:Bs):YO (O81 L) L 8 159 [.agg (Ld p3_0),.loc 1 0,.loc 3 0] [(1,(Bi p3_1)),l7,(4,[.aL true false (.t228 p3_2) (.t4 p3_3)]),(1013,(Ld p3_4))] k=ob (y6 L p3_0 p3_1 p3_2 p3_3 p3_4) (Bfv p3_0 p3_1 p3_2 p3_3 p3_4 k):=(Cf _ _ _ Yr _ _ _ _ _ _ _).trans (eE (n9 L p3_0 p3_1 p3_2 p3_3 p3_4))
def Bku(p1_0:List Bs)(p1_1:Al)(v:Int×Int×List Br×List Bool):St:=⟨[(0,.any),(1,.any),(2,.bA 159 0 zq8),(6,I v.1),(14,lv (.bZ p1_0)),(15,I (p1_0.length:Int)),(16,I v.2.1)],[(1,(Bi p1_1)),l7,(4,[.aL true false (.t228 v.2.2.1) (.t4 v.2.2.2)])],1005⟩
def Aa2 [An A (Nat×Int×Int×List Br×List Bool)](L:Nat)(Aj:Int)(A9:Int)(rec:Int->Int->List Br->List Bool->A)(o8:Tu9):A:=
 (cn (o8.1 != 0)
 (lf (0,o8.1,Aj,o8.2.1,o8.2.2))
 (rec A9 (Cp (Aj+1)) o8.2.1 o8.2.2))
def Aby [An A (Nat×Int×Int×List Br×List Bool)](L:Nat)(p1_0:List Bs)(p1_1:Al)(rec:Int->Int->List Br->List Bool->A)(A9:Int)(Aj:Int)(D2:List Br)(D3:List Bool)(nx3:Int->(List Br)->(List Bool)->Int->A):A:=
 (lw Aj p1_0
 (nx3 Aj D2 D3 A9)
 (lf (1,A9,Aj,D2,D3)))
def Amc [An A (Nat×Int×Int×List Br×List Bool)](p1_0:List Bs)(p1_1:Al)(rec:Int->Int->List Br->List Bool->A)(A9:Int)(Aj:Int)(D2:List Br)(D3:List Bool):A:=Aby L p1_0 p1_1 rec A9 Aj D2 D3 (λAj D2 D3 A9=>bd (y6 L (gD p1_0 Aj) p1_1 D2 D3 (gD p1_0 Aj)) λo8=>Aa2 L Aj A9 rec o8)
def Tn(L:Nat)(p1_0:List Bs)(p1_1:Al):Nat->Int->Int->List Br->List Bool->Option (Nat×Int×Int×List Br×List Bool)
 |0,_,_,_,_=>none
 |n+1,A9,Aj,D2,D3=>Amc L p1_0 p1_1 (Tn L p1_0 p1_1 n) A9 Aj D2 D3
theorem Bjd(p1_0:List Bs)(p1_1:Al):LP (EV (O81 L) L 8 A52.w.l.u.l.l) [0,1,2,6,14,15,16] [1,3,4] (Bku p1_0 p1_1) [.ret,.exit 0] (λn v=>Tn L p1_0 p1_1 n v.1 v.2.1 v.2.2.1 v.2.2.2) K:=lE (λ_=>rfl) λn v ih=>eE (Aby L p1_0 p1_1 (λA9 Aj D2 D3=>re (ih (A9,Aj,D2,D3))) v.1 v.2.1 v.2.2.1 v.2.2.2 (λAj D2 D3 A9=>hq (Bh9 L (K1 (O81 L) L 8 1 3 A52.w.l.u.l.l.w.l.l.u.l ⟨[(21,.agg (Ld (gD p1_0 Aj))),(20,.bA 159 0 zq8),(2,.bA 159 0 zq8),(6,I A9),(8,.loc 1013 0),(14,lv (.bZ p1_0)),(15,I (p1_0.length:Int)),(16,I Aj),(17,B (decide (Aj<(p1_0.length:Int)))),(18,.ref (Ld (gD p1_0 Aj))),(19,.agg (Ld (gD p1_0 Aj)))],[(1,(Bi p1_1)),l7,(4,[.aL true false (.t228 D2) (.t4 D3)]),(1013,(Ld (gD p1_0 Aj)))],1005⟩ (some 22) (kN (KA (O81 L) L 8 A52.w.l.u.l.l (rl [4,2,2,1]) (Ic (Js (EV (O81 L) L 8 A52.w.l.u.l.l) [0,1,2,6,14,15,16] [1,3,4] n) [0,1,2,6,14,15,16] [1,3,4] K)))) (gD p1_0 Aj) p1_1 D2 D3 (gD p1_0 Aj)) λo8=>Aa2 L Aj A9 (λA9 Aj D2 D3=>re (ih (A9,Aj,D2,D3))) o8))
def Bfu(p1_0:List Bs)(p1_1:Al)(k:C3):Tu9->Prop:=λo=>k (I o.1) [(1,(Bi p1_1)),l7,(4,[.aL true false (.t228 o.2.1) (.t4 o.2.2)])]
def Aa3 [An A Tu9](L:Nat)(o9:Nat×Int×Int×List Br×List Bool):A:=
 (sl o9.1 [(lf (o9.2.1,o9.2.2.2.1,o9.2.2.2.2)),
 (lf (0,o9.2.2.2.1,o9.2.2.2.2))])
def Abz [An A Tu9](L:Nat)(p1_0:List Bs)(p1_1:Al)(nx4:A):A:=
 (cn (decide ((p1_0.length:Int)>32))
 (lf (6,[],[]))
 nx4)
def Alv [An A Tu9](p1_0:List Bs)(p1_1:Al):A:=Abz L p1_0 p1_1 (bd (Tn L p1_0 p1_1 L 0 0 [] []) λo9=>Aa3 L o9)
def y5(p1_0:List Bs)(p1_1:Al):Option Tu9:=Alv L p1_0 p1_1
theorem Bh8(p1_0:List Bs)(p1_1:Al):YO (O81 L) L 9 158 [lv (.bZ p1_0),I 32,.bA 159 0 zq8] [(1,(Bi p1_1)),l7,(4,[.aL true false (.t228 []) (.t4 [])])] k=ob (y5 L p1_0 p1_1) (Bfu p1_0 p1_1 k):=(Cf _ _ _ Yr _ _ _ _ _ _ _).trans (eE (Abz L p1_0 p1_1 (hq (Bjd L (KA (O81 L) L 8 A52 (rl [4,1,2,1]) (KJ Tryz.f158 k)) p1_0 p1_1 L (0,0,[],[])) λo9=>Aa3 L o9)))
def Aa4 [An A Int](L:Nat)(o10:Tu9):A:=
 (lf o10.1)
def As0 [An A Int](a0:Al):A:=(bd (y5 L a0.bJ a0) λo10=>Aa4 L o10)
def Ahp(a0:Al):Option Int:=As0 L a0
def X81:Fs:=E1 I 81 Lb (Ahp L) λa0 r h=>hF Tryz.func81 (C:=O81 L) (oS _) L (λkk=>eE ((hq (Bh8 L (K1 (O81 L) L 9 1 4 c81.w.l ⟨[(7,.bA 159 0 zq8),(6,lv (.bZ a0.bJ)),(5,.loc 1 3),Yq,(2,I 0),Qe],[(1,(Bi a0)),l7,(4,[.aL true false (.t228 []) (.t4 [])])],0⟩ (some 8) (kN (KA (O81 L) L 9 c81 (rl [4,1]) (KE Tryz.f81 kk)))) a0.bJ a0) λo10=>Aa4 L o10))) h
def c77:=CC Tryz.f77
def c78:=CC Tryz.f78
def c50:=CC Tryz.f50
def O50:Ba:=oL [X75 L,X80 L,X81 L,Bgp L,Bgq L]
def Bfs(p7_0:Yb)(p7_1:Al)(p7_2:List Yb)(p7_3:List Bool)(p7_4:Ag)(p7_5:Ag)(k:C3):Ck->Prop:=λo=>k (I o.1) [(1,(Bi p7_1)),(13,[.aL false false (.t9 o.2.1) (.t4 o.2.2)]),(1022,(Bz p7_4)),(2026,(Bz p7_5))]
def n7 [An A Ck](p7_0:Yb)(p7_1:Al)(p7_2:List Yb)(p7_3:List Bool)(p7_4:Ag)(p7_5:Ag):A:=
 (bd (Cq L p7_0) λr2=>
 (cn (r2 != 0)
 (lf (r2,p7_2,p7_3))
 (fq (p7_2.findIdx? λb=>p7_0 == b) (λi3=>
 (cn (p7_3.getD i3 default)
 (lf (4,p7_2,p7_3))
 (fq (p7_2.findIdx? λb=>p7_0 == b) (λi4=>
 (lf (0,p7_2,(p7_3.set i4 true))))
 (lf (0,(p7_2++ [p7_0]),(p7_3++ [true]))))))
 (fq (p7_2.findIdx? λb=>p7_0 == b) (λi5=>
 (lf (0,p7_2,(p7_3.set i5 true))))
 (lf (0,(p7_2++ [p7_0]),(p7_3++ [true])))))))
def w8(p7_0:Yb)(p7_1:Al)(p7_2:List Yb)(p7_3:List Bool)(p7_4:Ag)(p7_5:Ag):Option Ck:=n7 L p7_0 p7_1 p7_2 p7_3 p7_4 p7_5
theorem Bh5(p7_0:Yb)(p7_1:Al)(p7_2:List Yb)(p7_3:List Bool)(p7_4:Ag)(p7_5:Ag):YO (O50 L) L 6 79 [.mp 13,S p7_0] [(1,(Bi p7_1)),(13,[.aL false false (.t9 p7_2) (.t4 p7_3)]),(1022,(Bz p7_4)),(2026,(Bz p7_5))] k=ob (w8 L p7_0 p7_1 p7_2 p7_3 p7_4 p7_5) (Bfs p7_0 p7_1 p7_2 p7_3 p7_4 p7_5 k):=(Cf _ _ _ Yr _ _ _ _ _ _ _).trans (eE (n7 L p7_0 p7_1 p7_2 p7_3 p7_4 p7_5))
def Bfr(p5_0:Ag)(p5_1:Al)(p5_2:List Yb)(p5_3:List Bool)(p5_4:Ag)(k:C3):Ck->Prop:=λo=>k (I o.1) [(1,(Bi p5_1)),(13,[.aL false false (.t9 o.2.1) (.t4 o.2.2)]),(1022,(Bz p5_4)),(2026,(Bz p5_0))]
def Aau [An A Ck](p5_0:Ag)(o6:Ck):A:=
 (cn (o6.1 != 0)
 (lf (o6.1,o6.2.1,o6.2.2))
 (bd (T9 L p5_0.bL) λr7=>
 (cn (!r7)
 (lf (1,o6.2.1,o6.2.2))
 (bd (Wm L p5_0.bL p5_0.N) λr8=>
 (cn (!r8)
 (lf (2,o6.2.1,o6.2.2))
 (lf (0,o6.2.1,o6.2.2)))))))
def Als [An A Ck](p5_0:Ag)(p5_1:Al)(p5_2:List Yb)(p5_3:List Bool)(p5_4:Ag):A:=(bd (w8 L p5_0.aD p5_1 p5_2 p5_3 p5_4 p5_0) λo6=>Aau L p5_0 o6)
def w7(p5_0:Ag)(p5_1:Al)(p5_2:List Yb)(p5_3:List Bool)(p5_4:Ag):Option Ck:=Als L p5_0 p5_1 p5_2 p5_3 p5_4
theorem Bh4(p5_0:Ag)(p5_1:Al)(p5_2:List Yb)(p5_3:List Bool)(p5_4:Ag):YO (O50 L) L 7 126 [.mp 13,.agg (Bz p5_0)] [(1,(Bi p5_1)),(13,[.aL false false (.t9 p5_2) (.t4 p5_3)]),(1022,(Bz p5_4))] k=ob (w7 L p5_0 p5_1 p5_2 p5_3 p5_4) (Bfr p5_0 p5_1 p5_2 p5_3 p5_4 k):=(Cf _ _ _ Yr _ _ _ _ _ _ _).trans (eE ((hq (Bh5 L (K1 (O50 L) L 6 1 4 A91.u.l.l ⟨[(8,S p5_0.aD),(7,.loc 2026 0),(6,.mp 13),(0,.mp 13),(3,.loc 2026 0),(4,I 0)],[(1,(Bi p5_1)),(13,[.aL false false (.t9 p5_2) (.t4 p5_3)]),(1022,(Bz p5_4)),(2026,(Bz p5_0))],2023⟩ (some 9) (kN (KA (O50 L) L 6 A91 (rl [2,2]) (KJ Tryz.f126 k)))) p5_0.aD p5_1 p5_2 p5_3 p5_4 p5_0) λo6=>Aau L p5_0 o6)))
def Bke(p1_0:List Ag)(p1_1:Al)(v:Tu4):St:=⟨[(0,.any),(1,.any),(2,A8n),(6,I v.1),(14,lv (.t83 p1_0)),(15,I (p1_0.length:Int)),(16,I v.2.1)],[(1,(Bi p1_1)),(13,[.aL false false (.t9 v.2.2.1) (.t4 v.2.2.2)])],1014⟩
def Aav [An A K3](L:Nat)(Aj:Int)(A9:Int)(rec:Int->Int->List Yb->List Bool->A)(o9:Ck):A:=
 (cn (o9.1 != 0)
 (lf (0,o9.1,Aj,o9.2.1,o9.2.2))
 (rec A9 (Cp (Aj+1)) o9.2.1 o9.2.2))
def Abr [An A K3](L:Nat)(p1_0:List Ag)(p1_1:Al)(rec:Int->Int->List Yb->List Bool->A)(A9:Int)(Aj:Int)(D2:List Yb)(D3:List Bool)(nx7:Int->(List Yb)->(List Bool)->Int->A):A:=
 (lw Aj p1_0
 (nx7 Aj D2 D3 A9)
 (lf (1,A9,Aj,D2,D3)))
def Ama [An A K3](p1_0:List Ag)(p1_1:Al)(rec:Int->Int->List Yb->List Bool->A)(A9:Int)(Aj:Int)(D2:List Yb)(D3:List Bool):A:=Abr L p1_0 p1_1 rec A9 Aj D2 D3 (λAj D2 D3 A9=>bd (w7 L (gD p1_0 Aj) p1_1 D2 D3 (gD p1_0 Aj)) λo9=>Aav L Aj A9 rec o9)
def Tl(L:Nat)(p1_0:List Ag)(p1_1:Al):Nat->Int->Int->List Yb->List Bool->Option K3
 |0,_,_,_,_=>none
 |n+1,A9,Aj,D2,D3=>Ama L p1_0 p1_1 (Tl L p1_0 p1_1 n) A9 Aj D2 D3
theorem Biy(p1_0:List Ag)(p1_1:Al):LP (EV (O50 L) L 7 As4.w.l.u.l.l) [0,1,2,6,14,15,16] [1,13] (Bke p1_0 p1_1) [.ret,.exit 0] (λn v=>Tl L p1_0 p1_1 n v.1 v.2.1 v.2.2.1 v.2.2.2) K:=lE (λ_=>rfl) λn v ih=>eE (Abr L p1_0 p1_1 (λA9 Aj D2 D3=>re (ih (A9,Aj,D2,D3))) v.1 v.2.1 v.2.2.1 v.2.2.2 (λAj D2 D3 A9=>hq (Bh4 L (K1 (O50 L) L 7 1 3 As4.w.l.u.l.l.w.l.l.u.l ⟨[(21,.agg (Bz (gD p1_0 Aj))),(20,A8n),(2,A8n),(6,I A9),(8,.loc 1022 0),(14,lv (.t83 p1_0)),(15,I (p1_0.length:Int)),(16,I Aj),(17,B (decide (Aj<(p1_0.length:Int)))),(18,.ref (Bz (gD p1_0 Aj))),(19,.agg (Bz (gD p1_0 Aj)))],[(1,(Bi p1_1)),(13,[.aL false false (.t9 D2) (.t4 D3)]),(1022,(Bz (gD p1_0 Aj)))],1014⟩ (some 22) (kN (KA (O50 L) L 7 As4.w.l.u.l.l (rl [4,2,2,1]) (Ic (Js (EV (O50 L) L 7 As4.w.l.u.l.l) [0,1,2,6,14,15,16] [1,13] n) [0,1,2,6,14,15,16] [1,13] K)))) (gD p1_0 Aj) p1_1 D2 D3 (gD p1_0 Aj)) λo9=>Aav L Aj A9 (λA9 Aj D2 D3=>re (ih (A9,Aj,D2,D3))) o9))
def Bfq(p1_0:List Ag)(p1_1:Al)(k:C3):Ck->Prop:=λo=>k (I o.1) [(1,(Bi p1_1)),(13,[.aL false false (.t9 o.2.1) (.t4 o.2.2)])]
def Aaw [An A Ck](L:Nat)(o10:Nat×Tu4):A:=
 (sl o10.1 [(lf (o10.2.1,o10.2.2.2.1,o10.2.2.2.2)),
 (lf (0,o10.2.2.2.1,o10.2.2.2.2))])
def Abs [An A Ck](L:Nat)(p1_0:List Ag)(p1_1:Al)(nx8:A):A:=
 (cn (decide ((p1_0.length:Int)>32))
 (lf (6,[],[]))
 nx8)
def Alr [An A Ck](p1_0:List Ag)(p1_1:Al):A:=Abs L p1_0 p1_1 (bd (Tl L p1_0 p1_1 L 0 0 [] []) λo10=>Aaw L o10)
def w6(p1_0:List Ag)(p1_1:Al):Option Ck:=Alr L p1_0 p1_1
theorem Bh3(p1_0:List Ag)(p1_1:Al):YO (O50 L) L 8 125 [lv (.t83 p1_0),I 32,A8n] [(1,(Bi p1_1)),(13,zq6)] k=ob (w6 L p1_0 p1_1) (Bfq p1_0 p1_1 k):=(Cf _ _ _ Yr _ _ _ _ _ _ _).trans (eE (Abs L p1_0 p1_1 (hq (Biy L (KA (O50 L) L 7 As4 (rl [4,1,2,1]) (KJ Tryz.f125 k)) p1_0 p1_1 L (0,0,[],[])) λo10=>Aaw L o10)))
def A83(p14_0:Yb)(p14_1:Al)(p14_2:List Yb)(p14_3:List Bool)(p14_4:List Yb)(p14_5:List Bool)(p14_6:Ab)(p14_7:Ab)(k:C3):Ck->Prop:=λo=>k (I o.1) [(1,(Bi p14_1)),Atq,(13,[.aL false false (.t9 p14_2) (.t4 p14_3)]),(24,[.aL false false (.t9 o.2.1) (.t4 o.2.2)]),(1033,(Af p14_6)),(2036,(Af p14_7))]
def Zc [An A Ck](p14_0:Yb)(p14_1:Al)(p14_2:List Yb)(p14_3:List Bool)(p14_4:List Yb)(p14_5:List Bool)(p14_6:Ab)(p14_7:Ab):A:=
 (bd (Cq L p14_0) λr12=>
 (cn (r12 != 0)
 (lf (r12,p14_4,p14_5))
 (fq (p14_4.findIdx? λb=>p14_0 == b) (λi13=>
 (cn (p14_5.getD i13 default)
 (lf (4,p14_4,p14_5))
 (fq (p14_4.findIdx? λb=>p14_0 == b) (λi14=>
 (lf (0,p14_4,(p14_5.set i14 true))))
 (lf (0,(p14_4++ [p14_0]),(p14_5++ [true]))))))
 (fq (p14_4.findIdx? λb=>p14_0 == b) (λi15=>
 (lf (0,p14_4,(p14_5.set i15 true))))
 (lf (0,(p14_4++ [p14_0]),(p14_5++ [true])))))))
def Ze(p14_0:Yb)(p14_1:Al)(p14_2:List Yb)(p14_3:List Bool)(p14_4:List Yb)(p14_5:List Bool)(p14_6:Ab)(p14_7:Ab):Option Ck:=Zc L p14_0 p14_1 p14_2 p14_3 p14_4 p14_5 p14_6 p14_7
theorem Bbj(p14_0:Yb)(p14_1:Al)(p14_2:List Yb)(p14_3:List Bool)(p14_4:List Yb)(p14_5:List Bool)(p14_6:Ab)(p14_7:Ab):YO (O50 L) L 7 79 [.mp 24,S p14_0] [(1,(Bi p14_1)),Atq,(13,[.aL false false (.t9 p14_2) (.t4 p14_3)]),(24,[.aL false false (.t9 p14_4) (.t4 p14_5)]),(1033,(Af p14_6)),(2036,(Af p14_7))] k=ob (Ze L p14_0 p14_1 p14_2 p14_3 p14_4 p14_5 p14_6 p14_7) (A83 p14_0 p14_1 p14_2 p14_3 p14_4 p14_5 p14_6 p14_7 k):=(Cf _ _ _ Yr _ _ _ _ _ _ _).trans (eE (Zc L p14_0 p14_1 p14_2 p14_3 p14_4 p14_5 p14_6 p14_7))
def A82(p12_0:Ab)(p12_1:Al)(p12_2:List Yb)(p12_3:List Bool)(p12_4:List Yb)(p12_5:List Bool)(p12_6:Ab)(k:C3):Ck->Prop:=λo=>k (I o.1) [(1,(Bi p12_1)),Atq,(13,[.aL false false (.t9 p12_2) (.t4 p12_3)]),(24,[.aL false false (.t9 o.2.1) (.t4 o.2.2)]),(1033,(Af p12_6)),(2036,(Af p12_0))]
def Zo [An A Ck](p12_0:Ab)(o16:Ck):A:=
 (cn (o16.1 != 0)
 (lf (o16.1,o16.2.1,o16.2.2))
 (bd (Ajh L p12_0) λr17=>
 (lf (r17,o16.2.1,o16.2.2))))
def Aj8 [An A Ck](p12_0:Ab)(p12_1:Al)(p12_2:List Yb)(p12_3:List Bool)(p12_4:List Yb)(p12_5:List Bool)(p12_6:Ab):A:=(bd (Ze L p12_0.aD p12_1 p12_2 p12_3 p12_4 p12_5 p12_6 p12_0) λo16=>Zo L p12_0 o16)
def Zd(p12_0:Ab)(p12_1:Al)(p12_2:List Yb)(p12_3:List Bool)(p12_4:List Yb)(p12_5:List Bool)(p12_6:Ab):Option Ck:=Aj8 L p12_0 p12_1 p12_2 p12_3 p12_4 p12_5 p12_6
theorem Bbi(p12_0:Ab)(p12_1:Al)(p12_2:List Yb)(p12_3:List Bool)(p12_4:List Yb)(p12_5:List Bool)(p12_6:Ab):YO (O50 L) L 8 78 [.agg (Af p12_0),.loc 5 0] [(1,(Bi p12_1)),Atq,(13,[.aL false false (.t9 p12_2) (.t4 p12_3)]),(24,[.aL false false (.t9 p12_4) (.t4 p12_5)]),(1033,(Af p12_6))] k=ob (Zd L p12_0 p12_1 p12_2 p12_3 p12_4 p12_5 p12_6) (A82 p12_0 p12_1 p12_2 p12_3 p12_4 p12_5 p12_6 k):=(Cf _ _ _ Yr _ _ _ _ _ _ _).trans (eE ((hq (Bbj L (K1 (O50 L) L 7 1 4 c78.u.l.l ⟨[(7,S p12_0.aD),(6,.loc 2036 0),(5,.mp 24),(1,.loc 5 0),(2,.loc 2036 0),(3,I 0)],[(1,(Bi p12_1)),Atq,(13,[.aL false false (.t9 p12_2) (.t4 p12_3)]),(24,[.aL false false (.t9 p12_4) (.t4 p12_5)]),(1033,(Af p12_6)),(2036,(Af p12_0))],2034⟩ (some 8) (kN (KA (O50 L) L 7 c78 (rl [2,2]) (KJ Tryz.f78 k)))) p12_0.aD p12_1 p12_2 p12_3 p12_4 p12_5 p12_6 p12_0) λo16=>Zo L p12_0 o16)))
def Bkf(p8_0:List Ab)(p8_1:Al)(p8_2:List Yb)(p8_3:List Bool)(v:Tu4):St:=⟨[(0,.any),(1,.any),(2,A8m),(6,I v.1),(14,lv (.t36 p8_0)),(15,I (p8_0.length:Int)),(16,I v.2.1)],[(1,(Bi p8_1)),Atq,(13,[.aL false false (.t9 p8_2) (.t4 p8_3)]),(24,[.aL false false (.t9 v.2.2.1) (.t4 v.2.2.2)])],1025⟩
def Zp [An A K3](L:Nat)(C2:Int)(Gf:Int)(rec:Int->Int->List Yb->List Bool->A)(o18:Ck):A:=
 (cn (o18.1 != 0)
 (lf (0,o18.1,C2,o18.2.1,o18.2.2))
 (rec Gf (Cp (C2+1)) o18.2.1 o18.2.2))
def Z3 [An A K3](L:Nat)(p8_0:List Ab)(p8_1:Al)(p8_2:List Yb)(p8_3:List Bool)(rec:Int->Int->List Yb->List Bool->A)(Gf:Int)(C2:Int)(Ya:List Yb)(Yc:List Bool)(nx16:Int->(List Yb)->(List Bool)->Int->A):A:=
 (lw C2 p8_0
 (nx16 C2 Ya Yc Gf)
 (lf (1,Gf,C2,Ya,Yc)))
def Amb [An A K3](p8_0:List Ab)(p8_1:Al)(p8_2:List Yb)(p8_3:List Bool)(rec:Int->Int->List Yb->List Bool->A)(Gf:Int)(C2:Int)(Ya:List Yb)(Yc:List Bool):A:=Z3 L p8_0 p8_1 p8_2 p8_3 rec Gf C2 Ya Yc (λC2 Ya Yc Gf=>bd (Zd L (gD p8_0 C2) p8_1 p8_2 p8_3 Ya Yc (gD p8_0 C2)) λo18=>Zp L C2 Gf rec o18)
def Tm(L:Nat)(p8_0:List Ab)(p8_1:Al)(p8_2:List Yb)(p8_3:List Bool):Nat->Int->Int->List Yb->List Bool->Option K3
 |0,_,_,_,_=>none
 |n+1,Gf,C2,Ya,Yc=>Amb L p8_0 p8_1 p8_2 p8_3 (Tm L p8_0 p8_1 p8_2 p8_3 n) Gf C2 Ya Yc
theorem Biz(p8_0:List Ab)(p8_1:Al)(p8_2:List Yb)(p8_3:List Bool):LP (EV (O50 L) L 8 c77.w.l.u.l.l) [0,1,2,6,14,15,16] [1,5,13,24] (Bkf p8_0 p8_1 p8_2 p8_3) [.ret,.exit 0] (λn v=>Tm L p8_0 p8_1 p8_2 p8_3 n v.1 v.2.1 v.2.2.1 v.2.2.2) K:=lE (λ_=>rfl) λn v ih=>eE (Z3 L p8_0 p8_1 p8_2 p8_3 (λGf C2 Ya Yc=>re (ih (Gf,C2,Ya,Yc))) v.1 v.2.1 v.2.2.1 v.2.2.2 (λC2 Ya Yc Gf=>hq (Bbi L (K1 (O50 L) L 8 1 3 c77.w.l.u.l.l.w.l.l.u.l ⟨[(21,.agg (Af (gD p8_0 C2))),(20,A8m),(2,A8m),(6,I Gf),(8,.loc 1033 0),(14,lv (.t36 p8_0)),(15,I (p8_0.length:Int)),(16,I C2),(17,B (decide (C2<(p8_0.length:Int)))),(18,.ref (Af (gD p8_0 C2))),(19,.agg (Af (gD p8_0 C2)))],[(1,(Bi p8_1)),Atq,(13,[.aL false false (.t9 p8_2) (.t4 p8_3)]),(24,[.aL false false (.t9 Ya) (.t4 Yc)]),(1033,(Af (gD p8_0 C2)))],1025⟩ (some 22) (kN (KA (O50 L) L 8 c77.w.l.u.l.l (rl [4,2,2,1]) (Ic (Js (EV (O50 L) L 8 c77.w.l.u.l.l) [0,1,2,6,14,15,16] [1,5,13,24] n) [0,1,2,6,14,15,16] [1,5,13,24] K)))) (gD p8_0 C2) p8_1 p8_2 p8_3 Ya Yc (gD p8_0 C2)) λo18=>Zp L C2 Gf (λGf C2 Ya Yc=>re (ih (Gf,C2,Ya,Yc))) o18))
def Bft(p8_0:List Ab)(p8_1:Al)(p8_2:List Yb)(p8_3:List Bool)(k:C3):Ck->Prop:=λo=>k (I o.1) [(1,(Bi p8_1)),Atq,(13,[.aL false false (.t9 p8_2) (.t4 p8_3)]),(24,[.aL false false (.t9 o.2.1) (.t4 o.2.2)])]
def Zq [An A Ck](L:Nat)(o19:Nat×Tu4):A:=
 (sl o19.1 [(lf (o19.2.1,o19.2.2.2.1,o19.2.2.2.2)),
 (lf (0,o19.2.2.2.1,o19.2.2.2.2))])
def Z4 [An A Ck](L:Nat)(p8_0:List Ab)(p8_1:Al)(p8_2:List Yb)(p8_3:List Bool)(nx17:A):A:=
 (cn (decide ((p8_0.length:Int)>16))
 (lf (6,[],[]))
 nx17)
def Alt [An A Ck](p8_0:List Ab)(p8_1:Al)(p8_2:List Yb)(p8_3:List Bool):A:=Z4 L p8_0 p8_1 p8_2 p8_3 (bd (Tm L p8_0 p8_1 p8_2 p8_3 L 0 0 [] []) λo19=>Zq L o19)
def w9(p8_0:List Ab)(p8_1:Al)(p8_2:List Yb)(p8_3:List Bool):Option Ck:=Alt L p8_0 p8_1 p8_2 p8_3
theorem Bh6(p8_0:List Ab)(p8_1:Al)(p8_2:List Yb)(p8_3:List Bool):YO (O50 L) L 9 77 [lv (.t36 p8_0),I 16,A8m] [(1,(Bi p8_1)),Atq,(13,[.aL false false (.t9 p8_2) (.t4 p8_3)]),(24,zq6)] k=ob (w9 L p8_0 p8_1 p8_2 p8_3) (Bft p8_0 p8_1 p8_2 p8_3 k):=(Cf _ _ _ Yr _ _ _ _ _ _ _).trans (eE (Z4 L p8_0 p8_1 p8_2 p8_3 (hq (Biz L (KA (O50 L) L 8 c77 (rl [4,1,2,1]) (KJ Tryz.f77 k)) p8_0 p8_1 p8_2 p8_3 L (0,0,[],[])) λo19=>Zq L o19)))
def Zr [An A Int](a0:Al)(o20:Ck):A:=
 (cn (o20.1 != 0)
 (lf o20.1)
 (bd (Ahp L a0) λr21=>
 (lf r21)))
def Z5 [An A Int](L:Nat)(a0:Al)(o11:Ck)(nx18:Ck->A):A:=
 (cn (o11.1 != 0)
 (lf o11.1)
 (cn ((a0.aU.length:Int) == 0)
 (lf 7)
 (nx18 o11)))
def Am2 [An A Int](a0:Al)(o11:Ck):A:=Z5 L a0 o11 (λo11=>bd (w9 L a0.aU a0 o11.2.1 o11.2.2) λo20=>Zr L a0 o20)
def Abt [An A Int](a0:Al)(nx9:A):A:=
 (bd (Cq L a0.aD) λr1=>
 (cn (r1 != 0)
 (lf r1)
 nx9))
def Asz [An A Int](a0:Al):A:=Abt L a0 (bd (w6 L a0.aK a0) λo11=>Am2 L a0 o11)
def Aho(a0:Al):Option Int:=Asz L a0
def X50:Fs:=E1 I 50 Lb (Aho L) λa0 r h=>hF Tryz.func50 (C:=O50 L) (oS _) L (λkk=>eE (Abt L a0 (hq (Bh3 L (K1 (O50 L) L 8 1 4 c76.u.l ⟨[(7,A8n),(6,.mp 13),(5,lv (.t83 a0.aK)),(0,.mp 13),(1,lv (.t83 a0.aK)),(4,I 0)],[(1,(Bi a0)),(13,zq6)],1014⟩ (some 8) (kN (KA (O50 L) L 8 c76 (rl [2,1]) (KJ Tryz.f76 (K1 (O50 L) L 9 1 4 c50.w.l.l ⟨[(15,lv (.t83 a0.aK)),(14,.loc 1 1),(13,.mp 13),Yq,(2,I 0)],[(13,zq6),(1,(Bi a0))],0⟩ (some 16) (kN (KA (O50 L) L 9 c50 (rl [4,2]) (KE Tryz.f50 kk)))))))) a0.aK a0) λo11=>Z5 L a0 o11 (λo11=>hq (Bh6 L (K1 (O50 L) L 9 1 4 c50.x.u.l ⟨[(27,A8m),(26,lv (.t36 a0.aU)),(25,.loc 1 2),Yq,(2,I 0),(5,.loc 5 0)],[(1,(Bi a0)),Atq,(13,[.aL false false (.t9 o11.2.1) (.t4 o11.2.2)]),(24,zq6)],0⟩ (some 28) (kN (KA (O50 L) L 9 c50 (rl [10,1]) (KE Tryz.f50 kk)))) a0.aU a0 o11.2.1 o11.2.2) λo20=>Zr L a0 o20)))) h
def Bng:=CC Tryz.f175
def Bgc(L:Nat):Ba:=oL []
def Bd8(a0:List Aw)(a1:Yb)(v:Tu8):St:=⟨[(0,lv (.dG a0)),(1,S a1),(4,I v.1),(5,B v.2.1),(6,I v.2.2)],[],0⟩
def J3 [An A (Nat×Tu8)](L:Nat)(a0:List Aw)(a1:Yb)(rec:Int->Bool->Int->A)(Az:Int)(Aj:Bool)(Bj:Int):A:=
 (cn (decide (Bj>=0))
 (gi Bj a0
 (cn ((gD a0 Bj).aD.toList == a1.toList)
 (gi Bj a0
 (lf (0,(((gD a0 Bj).bL),true,Bj))))
 (rec Az Aj (Cp (Bj-1)))))
 (lf (1,Az,Aj,Bj)))
def F6(L:Nat)(a0:List Aw)(a1:Yb):Nat->Int->Bool->Int->Option (Nat×Tu8)
 |0,_,_,_=>none
 |n+1,Az,Aj,Bj=>J3 L a0 a1 (F6 L a0 a1 n) Az Aj Bj
theorem Bcl(a0:List Aw)(a1:Yb):LP (EV (Bgc L) L 9 Bng.u.l.u.l.l) [0,1,4,5,6] [] (Bd8 a0 a1) [.ret,.exit 0] (λn v=>F6 L a0 a1 n v.1 v.2.1 v.2.2) K:=lE (λ_=>rfl) λn v ih=>eE (J3 L a0 a1 (λAz Aj Bj=>re (ih (Az,Aj,Bj))) v.1 v.2.1 v.2.2)
def Mo [An A Tu5](L:Nat)(o1:Nat×Tu8):A:=
 (sl o1.1 [(lf (o1.2.1,o1.2.2.1)),
 (lf (0,false))])
def Afv [An A Tu5](a0:List Aw)(a1:Yb):A:=(bd (F6 L a0 a1 L 0 false (Cp ((a0.length:Int)-1))) λo1=>Mo L o1)
def Ja(a0:List Aw)(a1:Yb):Option Tu5:=Afv L a0 a1
def A9w:Fs:=E2 (λ(x:Tu5)=>.aY [I x.1,B x.2]) 175 A97 cS (Ja L) λa0 a1 r h=>hF Tryz.func175 (C:=Bgc L) (oS _) L (λkk=>eE ((hq (Bcl L (KA (Bgc L) L 9 Bng (rl [2,1,2,1]) (KE Tryz.f175 kk)) a0 a1 L (0,false,(Cp ((a0.length:Int)-1)))) λo1=>Mo L o1))) h
def c91:=CC Tryz.f91
def O91:Ba:=oL [A9w L]
def Bk0(a1:Yb)(a0:Ao)(v:Tu8):St:=⟨[(0,.any),(1,S a1),zq9,(4,I v.1),(5,B v.2.1),(6,.any),(7,.any),(11,.any),(23,lv (.t83 a0.aF.aX)),(24,I (a0.aF.aX.length:Int)),(25,I v.2.2),(39,.any)],[(2,(Nq a0))],0⟩
def N0 [An A (Nat×Tu8)](L:Nat)(a1:Yb)(a0:Ao)(rec:Int->Bool->Int->A)(Aq:Int)(Az:Bool)(Gl:Int):A:=
 (lw Gl a0.aF.aX
 (cn ((gD a0.aF.aX Gl).aD.toList == a1.toList)
 (lf (0,(((gD a0.aF.aX Gl).bL),true,Gl)))
 (rec Aq Az (Cp (Gl+1))))
 (lf (1,Aq,Az,Gl)))
def Gt(L:Nat)(a1:Yb)(a0:Ao):Nat->Int->Bool->Int->Option (Nat×Tu8)
 |0,_,_,_=>none
 |n+1,Aq,Az,Gl=>N0 L a1 a0 (Gt L a1 a0 n) Aq Az Gl
theorem Bjj(a1:Yb)(a0:Ao):LP (EV (O91 L) L 9 c91.w.l.u.l.l) [0,1,2,4,5,6,7,11,23,24,25,39] [2] (Bk0 a1 a0) [.ret,.exit 0] (λn v=>Gt L a1 a0 n v.1 v.2.1 v.2.2) K:=lE (λ_=>rfl) λn v ih=>eE (N0 L a1 a0 (λAq Az Gl=>re (ih (Aq,Az,Gl))) v.1 v.2.1 v.2.2)
def Bk1(a1:Yb)(a0:Ao)(v:Tu8):St:=⟨[(0,.any),(1,S a1),(2,.any),(4,I v.1),(5,B v.2.1),(6,.any),(7,.any),(9,.any),(25,.any),(37,lv (.t83 a0.aK)),(38,I (a0.aK.length:Int)),(39,I v.2.2)],[(2,(Nq a0))],0⟩
def N1 [An A (Nat×Tu8)](L:Nat)(a1:Yb)(a0:Ao)(rec:Int->Bool->Int->A)(Gb:Int)(Ae7:Bool)(Sp:Int):A:=
 (lw Sp a0.aK
 (cn ((gD a0.aK Sp).aD.toList == a1.toList)
 (lf (0,(((gD a0.aK Sp).bL),true,Sp)))
 (rec Gb Ae7 (Cp (Sp+1))))
 (lf (1,Gb,Ae7,Sp)))
def Gu(L:Nat)(a1:Yb)(a0:Ao):Nat->Int->Bool->Int->Option (Nat×Tu8)
 |0,_,_,_=>none
 |n+1,Gb,Ae7,Sp=>N1 L a1 a0 (Gu L a1 a0 n) Gb Ae7 Sp
theorem Bjk(a1:Yb)(a0:Ao):LP (EV (O91 L) L 9 c91.w.u.l.u.l.l) [0,1,2,4,5,6,7,9,25,37,38,39] [2] (Bk1 a1 a0) [.ret,.exit 2] (λn v=>Gu L a1 a0 n v.1 v.2.1 v.2.2) K:=lE (λ_=>rfl) λn v ih=>eE (N1 L a1 a0 (λGb Ae7 Sp=>re (ih (Gb,Ae7,Sp))) v.1 v.2.1 v.2.2)
def N7 [An A Tu5](L:Nat)(o3:Nat×Tu8):A:=
 (sl o3.1 [(lf (o3.2.1,o3.2.2.1)),
 (lf (0,false))])
def Oe [An A Tu5](L:Nat)(a1:Yb)(a0:Ao)(o2:Nat×Tu8)(nx2:(Nat×Tu8)->A):A:=
 (sl o2.1 [(lf (o2.2.1,o2.2.2.1)),
 (nx2 o2)])
def T0 [An A Tu5](a1:Yb)(a0:Ao)(o2:Nat×Tu8):A:=Oe L a1 a0 o2 (λo2=>bd (Gu L a1 a0 L o2.2.1 o2.2.2.1 0) λo3=>N7 L o3)
def Od [An A Tu5](a0:Ao)(a1:Yb)(nx1:A):A:=
 (bd (Ja L a0.aP a1) λr1=>
 (cn r1.2
 (lf (r1.1,true))
 nx1))
def Ahx [An A Tu5](a0:Ao)(a1:Yb):A:=Od L a0 a1 (bd (Gt L a1 a0 L 0 false 0) λo2=>T0 L a1 a0 o2)
def Ua(a0:Ao)(a1:Yb):Option Tu5:=Ahx L a0 a1
def X91:Fs:=E2 (λ(x:Tu5)=>.aY [I x.1,B x.2]) 91 Dy cS (Ua L) λa0 a1 r h=>hF Tryz.func91 (C:=O91 L) (oS _) L (λkk=>eE (Od L a0 a1 (hq (Bjj L (KA (O91 L) L 9 c91 (rl [4,1,2,1]) (KE Tryz.f91 kk)) a1 a0 L (0,false,0)) λo2=>Oe L a1 a0 o2 (λo2=>hq (Bjk L (KA (O91 L) L 9 c91 (rl [6,1,2,1]) (KE Tryz.f91 kk)) a1 a0 L (o2.2.1,o2.2.2.1,0)) λo3=>N7 L o3)))) h
def A92:=CC Tryz.f170
def Bnh:=CC Tryz.f178
def Bni:=CC Tryz.f182
def c96:=CC Tryz.f96
def O96:Ba:=oL [X90 L,Bl5 L]
def Br3:(Yb×Int)->Prop:=λx=>kk ((λ(x:Yb×Int)=>.aY [S x.1,I x.2]) x)
def Bk2(p1_0:List Ag)(p1_1:Ab)(p1_2:Yb)(v:Ef):St:=⟨[(0,lv (.t83 p1_0)),(1,.bA 177 0 Kz),(4,I v.1),(7,I (p1_0.length:Int)),(8,I v.2)],[(2,(Af p1_1)),(3,[S p1_2])],1004⟩
def Nw [An A C0](L:Nat)(p1_0:List Ag)(p1_1:Ab)(p1_2:Yb)(rec:Int->Int->A)(Aq:Int)(Aj:Int):A:=
 (lw Aj p1_0
 (cn ((gD p1_0 Aj).aD.toList == p1_2.toList)
 (lf (0,Aj,Aj))
 (rec Aq (Cp (Aj+1))))
 (lf (1,Aq,Aj)))
def Gn(L:Nat)(p1_0:List Ag)(p1_1:Ab)(p1_2:Yb):Nat->Int->Int->Option C0
 |0,_,_=>none
 |n+1,Aq,Aj=>Nw L p1_0 p1_1 p1_2 (Gn L p1_0 p1_1 p1_2 n) Aq Aj
theorem Bjl(p1_0:List Ag)(p1_1:Ab)(p1_2:Yb):LP (EV (O96 L) L 8 A92.u.l.u.l.l) [0,1,4,7,8] [2,3] (Bk2 p1_0 p1_1 p1_2) [.ret,.exit 0] (λn v=>Gn L p1_0 p1_1 p1_2 n v.1 v.2) K:=lE (λ_=>rfl) λn v ih=>eE (Nw L p1_0 p1_1 p1_2 (λAq Aj=>re (ih (Aq,Aj))) v.1 v.2)
def Bfy(p1_0:List Ag)(p1_1:Ab)(p1_2:Yb)(k:C3):Int->Prop:=λo=>k (I o) [(2,(Af p1_1)),(3,[S p1_2])]
def Tv [An A Int](L:Nat)(o1:Nat×Ef):A:=
 (sl o1.1 [(lf o1.2.1),
 (lf (-1))])
def p9 [An A Int](p1_0:List Ag)(p1_1:Ab)(p1_2:Yb):A:=(bd (Gn L p1_0 p1_1 p1_2 L 0 0) λo1=>Tv L o1)
def Nr(p1_0:List Ag)(p1_1:Ab)(p1_2:Yb):Option Int:=p9 L p1_0 p1_1 p1_2
theorem Bic(p1_0:List Ag)(p1_1:Ab)(p1_2:Yb):YO (O96 L) L 9 170 [lv (.t83 p1_0),.bA 177 0 Kz] [(2,(Af p1_1)),(3,[S p1_2])] k=ob (Nr L p1_0 p1_1 p1_2) (Bfy p1_0 p1_1 p1_2 k):=(Cf _ _ _ Yr _ _ _ _ _ _ _).trans (eE ((hq (Bjl L (KA (O96 L) L 8 A92 (rl [2,1,2,1]) (KJ Tryz.f170 k)) p1_0 p1_1 p1_2 L (0,0)) λo1=>Tv L o1)))
def Bk3(p2_0:List Ai)(p2_1:Ab)(p2_2:Yb)(v:Ef):St:=⟨[(0,lv (.t206 p2_0)),(1,.bA 179 0 Kz),(4,I v.1),(7,I (p2_0.length:Int)),(8,I v.2)],[(2,(Af p2_1)),(3,[S p2_2])],1004⟩
def Nx [An A C0](L:Nat)(p2_0:List Ai)(p2_1:Ab)(p2_2:Yb)(rec:Int->Int->A)(Gb:Int)(C2:Int):A:=
 (lw C2 p2_0
 (cn ((gD p2_0 C2).aD.toList == p2_2.toList)
 (lf (0,C2,C2))
 (rec Gb (Cp (C2+1))))
 (lf (1,Gb,C2)))
def Gp(L:Nat)(p2_0:List Ai)(p2_1:Ab)(p2_2:Yb):Nat->Int->Int->Option C0
 |0,_,_=>none
 |n+1,Gb,C2=>Nx L p2_0 p2_1 p2_2 (Gp L p2_0 p2_1 p2_2 n) Gb C2
theorem Bjm(p2_0:List Ai)(p2_1:Ab)(p2_2:Yb):LP (EV (O96 L) L 8 Bnh.u.l.u.l.l) [0,1,4,7,8] [2,3] (Bk3 p2_0 p2_1 p2_2) [.ret,.exit 0] (λn v=>Gp L p2_0 p2_1 p2_2 n v.1 v.2) K:=lE (λ_=>rfl) λn v ih=>eE (Nx L p2_0 p2_1 p2_2 (λGb C2=>re (ih (Gb,C2))) v.1 v.2)
def Bfz(p2_0:List Ai)(p2_1:Ab)(p2_2:Yb)(k:C3):Int->Prop:=λo=>k (I o) [(2,(Af p2_1)),(3,[S p2_2])]
def Tx [An A Int](L:Nat)(o3:Nat×Ef):A:=
 (sl o3.1 [(lf o3.2.1),
 (lf (-1))])
def q9 [An A Int](p2_0:List Ai)(p2_1:Ab)(p2_2:Yb):A:=(bd (Gp L p2_0 p2_1 p2_2 L 0 0) λo3=>Tx L o3)
def Ns(p2_0:List Ai)(p2_1:Ab)(p2_2:Yb):Option Int:=q9 L p2_0 p2_1 p2_2
theorem Bid(p2_0:List Ai)(p2_1:Ab)(p2_2:Yb):YO (O96 L) L 9 178 [lv (.t206 p2_0),.bA 179 0 Kz] [(2,(Af p2_1)),(3,[S p2_2])] k=ob (Ns L p2_0 p2_1 p2_2) (Bfz p2_0 p2_1 p2_2 k):=(Cf _ _ _ Yr _ _ _ _ _ _ _).trans (eE ((hq (Bjm L (KA (O96 L) L 8 Bnh (rl [2,1,2,1]) (KJ Tryz.f178 k)) p2_0 p2_1 p2_2 L (0,0)) λo3=>Tx L o3)))
def Bk4(p3_0:List Ak)(p3_1:Ab)(p3_2:Yb)(v:Ef):St:=⟨[(0,lv (.t213 p3_0)),(1,.bA 181 0 Kz),(4,I v.1),(7,I (p3_0.length:Int)),(8,I v.2)],[(2,(Af p3_1)),(3,[S p3_2])],1004⟩
def Ny [An A C0](L:Nat)(p3_0:List Ak)(p3_1:Ab)(p3_2:Yb)(rec:Int->Int->A)(Qu:Int)(Iz:Int):A:=
 (lw Iz p3_0
 (cn ((gD p3_0 Iz).aD.toList == p3_2.toList)
 (lf (0,Iz,Iz))
 (rec Qu (Cp (Iz+1))))
 (lf (1,Qu,Iz)))
def Gq(L:Nat)(p3_0:List Ak)(p3_1:Ab)(p3_2:Yb):Nat->Int->Int->Option C0
 |0,_,_=>none
 |n+1,Qu,Iz=>Ny L p3_0 p3_1 p3_2 (Gq L p3_0 p3_1 p3_2 n) Qu Iz
theorem Bjn(p3_0:List Ak)(p3_1:Ab)(p3_2:Yb):LP (EV (O96 L) L 8 A93.u.l.u.l.l) [0,1,4,7,8] [2,3] (Bk4 p3_0 p3_1 p3_2) [.ret,.exit 0] (λn v=>Gq L p3_0 p3_1 p3_2 n v.1 v.2) K:=lE (λ_=>rfl) λn v ih=>eE (Ny L p3_0 p3_1 p3_2 (λQu Iz=>re (ih (Qu,Iz))) v.1 v.2)
def A5p(p3_0:List Ak)(p3_1:Ab)(p3_2:Yb)(k:C3):Int->Prop:=λo=>k (I o) [(2,(Af p3_1)),(3,[S p3_2])]
def Tz [An A Int](L:Nat)(o5:Nat×Ef):A:=
 (sl o5.1 [(lf o5.2.1),
 (lf (-1))])
def s8 [An A Int](p3_0:List Ak)(p3_1:Ab)(p3_2:Yb):A:=(bd (Gq L p3_0 p3_1 p3_2 L 0 0) λo5=>Tz L o5)
def Nt(p3_0:List Ak)(p3_1:Ab)(p3_2:Yb):Option Int:=s8 L p3_0 p3_1 p3_2
theorem Bie(p3_0:List Ak)(p3_1:Ab)(p3_2:Yb):YO (O96 L) L 9 180 [lv (.t213 p3_0),.bA 181 0 Kz] [(2,(Af p3_1)),(3,[S p3_2])] k=ob (Nt L p3_0 p3_1 p3_2) (A5p p3_0 p3_1 p3_2 k):=(Cf _ _ _ Yr _ _ _ _ _ _ _).trans (eE ((hq (Bjn L (KA (O96 L) L 8 A93 (rl [2,1,2,1]) (KJ Tryz.f180 k)) p3_0 p3_1 p3_2 L (0,0)) λo5=>Tz L o5)))
def Bk5(p4_0:List Av)(p4_1:Ab)(p4_2:Yb)(v:Ef):St:=⟨[(0,lv (.bR p4_0)),(1,.bA 183 0 Kz),(4,I v.1),(7,I (p4_0.length:Int)),(8,I v.2)],[(2,(Af p4_1)),(3,[S p4_2])],1004⟩
def Nz [An A C0](L:Nat)(p4_0:List Av)(p4_1:Ab)(p4_2:Yb)(rec:Int->Int->A)(Qv:Int)(Ll:Int):A:=
 (lw Ll p4_0
 (cn ((gD p4_0 Ll).aD.toList == p4_2.toList)
 (lf (0,Ll,Ll))
 (rec Qv (Cp (Ll+1))))
 (lf (1,Qv,Ll)))
def Gr(L:Nat)(p4_0:List Av)(p4_1:Ab)(p4_2:Yb):Nat->Int->Int->Option C0
 |0,_,_=>none
 |n+1,Qv,Ll=>Nz L p4_0 p4_1 p4_2 (Gr L p4_0 p4_1 p4_2 n) Qv Ll
theorem Bjo(p4_0:List Av)(p4_1:Ab)(p4_2:Yb):LP (EV (O96 L) L 8 Bni.u.l.u.l.l) [0,1,4,7,8] [2,3] (Bk5 p4_0 p4_1 p4_2) [.ret,.exit 0] (λn v=>Gr L p4_0 p4_1 p4_2 n v.1 v.2) K:=lE (λ_=>rfl) λn v ih=>eE (Nz L p4_0 p4_1 p4_2 (λQv Ll=>re (ih (Qv,Ll))) v.1 v.2)
def Bf0(p4_0:List Av)(p4_1:Ab)(p4_2:Yb)(k:C3):Int->Prop:=λo=>k (I o) [(2,(Af p4_1)),(3,[S p4_2])]
def Sm [An A Int](L:Nat)(o7:Nat×Ef):A:=
 (sl o7.1 [(lf o7.2.1),
 (lf (-1))])
def u4 [An A Int](p4_0:List Av)(p4_1:Ab)(p4_2:Yb):A:=(bd (Gr L p4_0 p4_1 p4_2 L 0 0) λo7=>Sm L o7)
def Nu(p4_0:List Av)(p4_1:Ab)(p4_2:Yb):Option Int:=u4 L p4_0 p4_1 p4_2
theorem Bif(p4_0:List Av)(p4_1:Ab)(p4_2:Yb):YO (O96 L) L 9 182 [lv (.bR p4_0),.bA 183 0 Kz] [(2,(Af p4_1)),(3,[S p4_2])] k=ob (Nu L p4_0 p4_1 p4_2) (Bf0 p4_0 p4_1 p4_2 k):=(Cf _ _ _ Yr _ _ _ _ _ _ _).trans (eE ((hq (Bjo L (KA (O96 L) L 8 Bni (rl [2,1,2,1]) (KJ Tryz.f182 k)) p4_0 p4_1 p4_2 L (0,0)) λo7=>Sm L o7)))
def Mn [An A (Yb×Int)](a0:Ab)(a1:Yb)(o8:Int):A:=
 (cn (decide (o8>=0))
 (lf ((⟨#[98,101,108,116]⟩:Yb),o8))
 (bd (Cz L a0.aV a1) λr9=>
 (cn (decide (r9>=0))
 (lf ((⟨#[113,117,101,117,101]⟩:Yb),r9))
 (bd (Cz L a0.aR a1) λr10=>
 (cn (decide (r10>=0))
 (lf ((⟨#[115,116,114,101,97,109]⟩:Yb),r10))
 (bd (Cz L a0.aS a1) λr11=>
 (cn (decide (r11>=0))
 (lf ((⟨#[116,97,108,108,121]⟩:Yb),r11))
 (bd (Cz L a0.aW a1) λr12=>
 (cn (decide (r12>=0))
 (lf ((⟨#[108,101,118,101,108]⟩:Yb),r12))
 (bd (Cz L a0.aT a1) λr13=>
 (cn (decide (r13>=0))
 (lf ((⟨#[99,111,117,110,116]⟩:Yb),r13))
 (bd (Dg L a0 a1) λr14=>
 (cn (decide (r14>=0))
 (lf ((⟨#[114,111,117,116,105,110,101]⟩:Yb),r14))
 (lf ((⟨#[]⟩:Yb),(-1))))))))))))))))
def Mq [An A (Yb×Int)](L:Nat)(a0:Ab)(a1:Yb)(o6:Int)(nx12:A):A:=
 (cn (decide (o6>=0))
 (lf ((⟨#[115,116,111,114,101]⟩:Yb),o6))
 nx12)
def N5 [An A (Yb×Int)](a0:Ab)(a1:Yb)(o6:Int):A:=Mq L a0 a1 o6 (bd (Nu L a0.aZ a0 a1) λo8=>Mn L a0 a1 o8)
def A61(a0:Ab)(a1:Yb):C3:=(K1 (O96 L) L 9 1 4 c96.w.u.l.l ⟨[(32,.bA 181 0 Kz),(31,lv (.t213 a0.aJ)),(30,.loc 2 3),zq9,Qe,(4,S (⟨#[]⟩:Yb)),(5,I 0)],[(2,(Af a0)),(3,[S a1])],0⟩ (some 33) (kN (KA (O96 L) L 9 c96 (rl [6,2]) (KE Tryz.f96 kk))))
theorem Bou(a0:Ab)(a1:Yb)(o6:Int):A5p a0.aJ a0 a1 (A61 L kk a0 a1) o6=ob (N5 L a0 a1 o6) (Br3 kk):=eE (Mq L a0 a1 o6 (hq (Bif L (K1 (O96 L) L 9 1 4 c96.x.l.l ⟨[(39,.bA 183 0 Kz),(38,lv (.bR a0.aZ)),(37,.loc 2 4),zq9,Qe,(4,S (⟨#[]⟩:Yb)),(5,I 0)],[(2,(Af a0)),(3,[S a1])],0⟩ (some 40) (kN (KA (O96 L) L 9 c96 (rl [8,2]) (KE Tryz.f96 kk)))) a0.aZ a0 a1) λo8=>Mn L a0 a1 o8))
def Ob [An A (Yb×Int)](L:Nat)(a0:Ab)(a1:Yb)(o4:Int)(nx9:A):A:=
 (cn (decide (o4>=0))
 (lf ((⟨#[114,101,115,111,117,114,99,101]⟩:Yb),o4))
 nx9)
def Ty [An A (Yb×Int)](a0:Ab)(a1:Yb)(o4:Int):A:=Ob L a0 a1 o4 (bd (Nt L a0.aJ a0 a1) λo6=>N5 L a0 a1 o6)
def Oa [An A (Yb×Int)](L:Nat)(a0:Ab)(a1:Yb)(o2:Int)(nx6:A):A:=
 (cn (decide (o2>=0))
 (lf ((⟨#[118,97,114]⟩:Yb),o2))
 nx6)
def Tw [An A (Yb×Int)](a0:Ab)(a1:Yb)(o2:Int):A:=Oa L a0 a1 o2 (bd (Ns L a0.aI a0 a1) λo4=>Ty L a0 a1 o4)
def Ahv [An A (Yb×Int)](a0:Ab)(a1:Yb):A:=(bd (Nr L a0.aX a0 a1) λo2=>Tw L a0 a1 o2)
def Oz(a0:Ab)(a1:Yb):Option (Yb×Int):=Ahv L a0 a1
def X96:Fs:=E2 (λ(x:Yb×Int)=>.aY [S x.1,I x.2]) 96 Cr cS (Oz L) λa0 a1 r h=>hF Tryz.func96 (C:=O96 L) (oS _) L (λkk=>eE ((hq (Bic L (K1 (O96 L) L 9 1 4 c96.u.l.l ⟨[(18,.bA 177 0 Kz),(17,lv (.t83 a0.aX)),(16,.loc 2 1),zq9,Qe,(4,S (⟨#[]⟩:Yb)),(5,I 0)],[(2,(Af a0)),(3,[S a1])],0⟩ (some 19) (kN (KA (O96 L) L 9 c96 (rl [2,2]) (KE Tryz.f96 kk)))) a0.aX a0 a1) λo2=>Oa L a0 a1 o2 (hq (Bid L (K1 (O96 L) L 9 1 4 c96.w.l.l ⟨[(25,.bA 179 0 Kz),(24,lv (.t206 a0.aI)),(23,.loc 2 2),zq9,Qe,(4,S (⟨#[]⟩:Yb)),(5,I 0)],[(2,(Af a0)),(3,[S a1])],0⟩ (some 26) (kN (KA (O96 L) L 9 c96 (rl [4,2]) (KE Tryz.f96 kk)))) a0.aI a0 a1) λo4=>Ob L a0 a1 o4 (ho (Bie L (A61 L kk a0 a1) a0.aJ a0 a1) λo6=>Bou L kk a0 a1 o6))))) h
def Acz [An A Yb](a0:Ab)(a1:Yb):A:=
 (bd (Oz L a0 a1) λr1=>
 (lf r1.1))
def K9(a0:Ab)(a1:Yb):Option Yb:=Acz L a0 a1
def X60:Fs:=E2 S 60 Cr cS (K9 L) λa0 a1 r h=>hF Tryz.func60 (oS [X96 L]) L (λkk=>eE (Acz L a0 a1)) h
def Vf [An A Bool](L:Nat)(a0:Int)(a1:Yb):A:=
 (cn (a0 == 22)
 (lf (a1.toList == (⟨#[114,101,115,111,117,114,99,101]⟩:Yb).toList))
 (cn (a0 == 23)
 (lf (a1.toList == (⟨#[115,116,111,114,101]⟩:Yb).toList))
 (jp (.cn (a1.toList == (⟨#[114,101,115,111,117,114,99,101]⟩:Yb).toList)
 (.lf true)
 (.lf (a1.toList == (⟨#[113,117,101,117,101]⟩:Yb).toList))) (λb1=>
 (lf b1)))))
def Pq(a0:Int)(a1:Yb):Option Bool:=Vf L a0 a1
def X92:Fs:=E2 B 92 (cI .i64) cS (Pq L) λa0 a1 r h=>hF Tryz.func92 (oS []) L (λkk=>eE (Vf L a0 a1)) h
def Rn [An A Bool](L:Nat)(a0:Int):A:=
 (jp (.cn (a0 == 1)
 (.lf true)
 (.lf (a0 == 3))) (λb1=>
 (lf b1)))
def Em(a0:Int):Option Bool:=Rn L a0
def Bl4:Fs:=E1 B 176 (cI .i64) (Em L) λa0 r h=>hF Tryz.func176 (oS []) L (λkk=>eE (Rn L a0)) h
def Xe [An A Int](a0:Int)(a1:Int):A:=
 (jb (.cn (a0 == 5)
 (.bd (Em L a1) λr2=>
 (.lf r2))
 (.lf false)) (λb1=>
 (cn b1
 (cn b1
 (lf a1)
 (jp (.cn (a0 == 7)
 (.lf (a1 == 1))
 (.lf false)) (λb3=>
 (cn b3
 (lf 3)
 (jp (.cn (a0 == 8)
 (.lf (a1 == 3))
 (.lf false)) (λb4=>
 (cn b4
 (lf 1)
 (lf 0))))))))
 (jp (.cn (a0 == 6)
 (.lf (a1 == 2))
 (.lf false)) (λb5=>
 (cn b5
 (lf a1)
 (jp (.cn (a0 == 7)
 (.lf (a1 == 1))
 (.lf false)) (λb6=>
 (cn b6
 (lf 3)
 (jp (.cn (a0 == 8)
 (.lf (a1 == 3))
 (.lf false)) (λb7=>
 (cn b7
 (lf 1)
 (lf 0)))))))))))))
def Rh(a0:Int)(a1:Int):Option Int:=Xe L a0 a1
def X93:Fs:=E2 I 93 (cI .i64) (cI .i64) (Rh L) λa0 a1 r h=>hF Tryz.func93 (oS [Bl4 L]) L (λkk=>eE (Xe L a0 a1)) h
end
end Go.Proofs.YtgacplpjamkieaaGreat.Ev
