import Derived.Test.YthjhkpgonleelaaGreatDoorLG6
set_option maxRecDepth 100000
set_option maxHeartbeats 4000000
set_option linter.unusedVariables false
set_option linter.unusedSimpArgs false
set_option linter.unnecessarySimpa false
namespace Go.Proofs.YthjhkpgonleelaaGreatDoor.Ev
open Go An
noncomputable section
variable {A:Type} (L n:Nat) (kk:K5) (K:Ef) (k:Dj)
def c41:=CC Tryz.f41
def c22:=CC Tryz.f22
def O22(L:Nat):Bc:=oL []
def B2w(p1_7:Nat)(p1_1:Au)(p1_4:Int)(p1_5:Int)(p1_6:Nat)(p1_8:Nat)(p1_9:Nat)(p1_10:List Int)(p1_0:Au)(p1_11:List Int)(p1_12:List Int)(p1_13:List Int)(v:Int×List Am×List Bool):St:=⟨[Ble,(1,.any),Blc,(7,.any),(17,.any),(32,I (p1_7:Int)),(33,I v.1),(45,.any),(55,.any),(65,.any)],[(8,zq2),(11,(B4 p1_1)),(17,[.aO true false (.t109 v.2.1) (.t4 v.2.2)]),(19,[I p1_4,I p1_5,.vw false 1030 3 1 p1_6,.vw false 1034 3 1 p1_7,.vw false 1038 3 1 p1_8,.vw false 1042 3 1 p1_9,.mp 17]),(1030,[.aX (.t3 (p1_10.set (Int.toNat p1_0.aJ) (Bu ((gD p1_10 p1_0.aJ)+(-1)))))]),(1034,[.aX (.t3 p1_11)]),(1038,[.aX (.t3 p1_12)]),(1042,[.aX (.t3 p1_13)]),(2046,(B4 p1_0))],2043⟩
def Oe [An A (Nat×Int×List Am×List Bool)](L:Nat)(p1_7:Nat)(p1_1:Au)(p1_4:Int)(p1_5:Int)(p1_6:Nat)(p1_8:Nat)(p1_9:Nat)(p1_10:List Int)(p1_0:Au)(p1_11:List Int)(p1_12:List Int)(p1_13:List Int)(rec:Int->List Am->List Bool->A)(Gf:Int)(As7:List Am)(Aww:List Bool):A:=
 (cn (decide (Gf<(p1_7:Int)))
 (fq (As7.findIdx? λb=>(p1_0.bZ == b.dA && (Gf == b.aR))) (λi4=>
 (rec (Bu (Gf+1)) ((As7.take i4).drop 0++(As7.take As7.length).drop (i4+1)) ((Aww.take i4).drop 0++(Aww.take Aww.length).drop (i4+1))))
 (rec (Bu (Gf+1)) As7 Aww))
 (lf (0,Gf,As7,Aww)))
def Ei(L:Nat)(p1_7:Nat)(p1_1:Au)(p1_4:Int)(p1_5:Int)(p1_6:Nat)(p1_8:Nat)(p1_9:Nat)(p1_10:List Int)(p1_0:Au)(p1_11:List Int)(p1_12:List Int)(p1_13:List Int):Nat->Int->List Am->List Bool->Option (Nat×Int×List Am×List Bool)
 |0,_,_,_=>none
 |n+1,Gf,As7,Aww=>Oe L p1_7 p1_1 p1_4 p1_5 p1_6 p1_8 p1_9 p1_10 p1_0 p1_11 p1_12 p1_13 (Ei L p1_7 p1_1 p1_4 p1_5 p1_6 p1_8 p1_9 p1_10 p1_0 p1_11 p1_12 p1_13 n) Gf As7 Aww
theorem B0x(p1_7:Nat)(p1_1:Au)(p1_4:Int)(p1_5:Int)(p1_6:Nat)(p1_8:Nat)(p1_9:Nat)(p1_10:List Int)(p1_0:Au)(p1_11:List Int)(p1_12:List Int)(p1_13:List Int):LP (EV (O22 L) L 8 c41.w.l.w.r.l.w.l.l) [0,1,3,7,17,32,33,45,55,65] [8,11,17,19,1030,1034,1038,1042,2046] (B2w p1_7 p1_1 p1_4 p1_5 p1_6 p1_8 p1_9 p1_10 p1_0 p1_11 p1_12 p1_13) [.exit 1] (λn v=>Ei L p1_7 p1_1 p1_4 p1_5 p1_6 p1_8 p1_9 p1_10 p1_0 p1_11 p1_12 p1_13 n v.1 v.2.1 v.2.2) K:=lE (λ_=>rfl) λn v ih=>eE (Oe L p1_7 p1_1 p1_4 p1_5 p1_6 p1_8 p1_9 p1_10 p1_0 p1_11 p1_12 p1_13 (λGf As7 Aww=>re (ih (Gf,As7,Aww))) v.1 v.2.1 v.2.2)
def B2x(p1_7:Nat)(p1_1:Au)(p1_4:Int)(p1_5:Int)(p1_6:Nat)(p1_8:Nat)(p1_9:Nat)(p1_10:List Int)(p1_11:List Int)(p1_12:List Int)(p1_13:List Int)(p1_0:Au)(v:Int×List Am×List Bool):St:=⟨[Ble,(1,.any),Blc,(7,.any),(17,.any),(32,I (p1_7:Int)),(33,I v.1),(45,.any),(55,.any),(65,.any)],[(8,zq2),(11,(B4 p1_1)),(17,[.aO true false (.t109 v.2.1) (.t4 v.2.2)]),(19,[I p1_4,I p1_5,.vw false 1030 3 1 p1_6,.vw false 1034 3 1 p1_7,.vw false 1038 3 1 p1_8,.vw false 1042 3 1 p1_9,.mp 17]),(1030,[.aX (.t3 p1_10)]),(1034,[.aX (.t3 p1_11)]),(1038,[.aX (.t3 p1_12)]),(1042,[.aX (.t3 p1_13)]),(2046,(B4 p1_0))],2043⟩
def Og [An A (Nat×Int×List Am×List Bool)](L:Nat)(p1_7:Nat)(p1_1:Au)(p1_4:Int)(p1_5:Int)(p1_6:Nat)(p1_8:Nat)(p1_9:Nat)(p1_10:List Int)(p1_11:List Int)(p1_12:List Int)(p1_13:List Int)(p1_0:Au)(rec:Int->List Am->List Bool->A)(Ig:Int)(As8:List Am)(Awx:List Bool):A:=
 (cn (decide (Ig<(p1_7:Int)))
 (fq (As8.findIdx? λb=>(p1_0.bZ == b.dA && (Ig == b.aR))) (λi5=>
 (rec (Bu (Ig+1)) ((As8.take i5).drop 0++(As8.take As8.length).drop (i5+1)) ((Awx.take i5).drop 0++(Awx.take Awx.length).drop (i5+1))))
 (rec (Bu (Ig+1)) As8 Awx))
 (lf (0,Ig,As8,Awx)))
def Ej(L:Nat)(p1_7:Nat)(p1_1:Au)(p1_4:Int)(p1_5:Int)(p1_6:Nat)(p1_8:Nat)(p1_9:Nat)(p1_10:List Int)(p1_11:List Int)(p1_12:List Int)(p1_13:List Int)(p1_0:Au):Nat->Int->List Am->List Bool->Option (Nat×Int×List Am×List Bool)
 |0,_,_,_=>none
 |n+1,Ig,As8,Awx=>Og L p1_7 p1_1 p1_4 p1_5 p1_6 p1_8 p1_9 p1_10 p1_11 p1_12 p1_13 p1_0 (Ej L p1_7 p1_1 p1_4 p1_5 p1_6 p1_8 p1_9 p1_10 p1_11 p1_12 p1_13 p1_0 n) Ig As8 Awx
theorem B0y(p1_7:Nat)(p1_1:Au)(p1_4:Int)(p1_5:Int)(p1_6:Nat)(p1_8:Nat)(p1_9:Nat)(p1_10:List Int)(p1_11:List Int)(p1_12:List Int)(p1_13:List Int)(p1_0:Au):LP (EV (O22 L) L 8 c41.w.l.w.r.l.w.l.l) [0,1,3,7,17,32,33,45,55,65] [8,11,17,19,1030,1034,1038,1042,2046] (B2x p1_7 p1_1 p1_4 p1_5 p1_6 p1_8 p1_9 p1_10 p1_11 p1_12 p1_13 p1_0) [.exit 1] (λn v=>Ej L p1_7 p1_1 p1_4 p1_5 p1_6 p1_8 p1_9 p1_10 p1_11 p1_12 p1_13 p1_0 n v.1 v.2.1 v.2.2) K:=lE (λ_=>rfl) λn v ih=>eE (Og L p1_7 p1_1 p1_4 p1_5 p1_6 p1_8 p1_9 p1_10 p1_11 p1_12 p1_13 p1_0 (λIg As8 Awx=>re (ih (Ig,As8,Awx))) v.1 v.2.1 v.2.2)
def Bx4(p3_0:Au)(p3_1:Au)(p3_2:List Am)(p3_3:List Bool)(p3_4:Int)(p3_5:Int)(p3_6:Nat)(p3_7:Nat)(p3_8:Nat)(p3_9:Nat)(p3_10:List Int)(p3_11:List Int)(p3_12:List Int)(p3_13:List Int)(p3_14:Au)(k:Dj):(List Am×List Bool×List Int)->Prop:=λo=>k (.bY []) [(8,zq2),(11,(B4 p3_1)),(17,[.aO true false (.t109 o.1) (.t4 o.2.1)]),(19,[I p3_4,I p3_5,.vw false 1030 3 1 p3_6,.vw false 1034 3 1 p3_7,.vw false 1038 3 1 p3_8,.vw false 1042 3 1 p3_9,.mp 17]),(1030,[.aX (.t3 p3_10)]),(1034,[.aX (.t3 o.2.2)]),(1038,[.aX (.t3 p3_12)]),(1042,[.aX (.t3 p3_13)]),(2046,(B4 p3_14))]
def Ux [An A (List Am×List Bool×List Int)](L:Nat)(p3_0:Au)(p3_1:Au)(p3_2:List Am)(p3_3:List Bool)(p3_4:Int)(p3_5:Int)(p3_6:Nat)(p3_7:Nat)(p3_8:Nat)(p3_9:Nat)(p3_10:List Int)(p3_11:List Int)(p3_12:List Int)(p3_13:List Int)(p3_14:Au):A:=
 (cn (decide (p3_0.aJ<0))
 (lf (p3_2,p3_3,p3_11))
 (cn (decide (p3_0.aJ>=(p3_7:Int)))
 (lf (p3_2,p3_3,p3_11))
 (cn (p3_0.aQ != 5)
 (cn (decide (p3_0.Value<1))
 (lf (p3_2,p3_3,p3_11))
 (cn (decide (p3_0.Value>1000))
 (lf (p3_2,p3_3,p3_11))
 (cn (p3_0.aQ == 4)
 (jp (.cn (decide (p3_0.aJ>=0))
 (.lf (decide (p3_0.aJ<(p3_7:Int))))
 (.lf false)) (λb8=>
 (cn b8
 (gq (0<=p3_0.aJ)
 (gq (p3_0.aJ<((p3_7:Nat):Int))
 (gq (0<=p3_0.aJ)
 (gq (p3_0.aJ<((p3_7:Nat):Int))
 (fq (p3_2.findIdx? λb=>(p3_0.bZ == b.dA && (p3_0.aJ == b.aR))) (λi9=>
 (lf (((p3_2.take i9).drop 0++(p3_2.take p3_2.length).drop (i9+1)),((p3_3.take i9).drop 0++(p3_3.take p3_3.length).drop (i9+1)),(p3_11.set (Int.toNat p3_0.aJ) (Bu ((gD p3_11 p3_0.aJ)+p3_0.Value))))))
 (lf (p3_2,p3_3,(p3_11.set (Int.toNat p3_0.aJ) (Bu ((gD p3_11 p3_0.aJ)+p3_0.Value))))))))))
 (fq (p3_2.findIdx? λb=>(p3_0.bZ == b.dA && (p3_0.aJ == b.aR))) (λi10=>
 (lf (((p3_2.take i10).drop 0++(p3_2.take p3_2.length).drop (i10+1)),((p3_3.take i10).drop 0++(p3_3.take p3_3.length).drop (i10+1)),p3_11)))
 (lf (p3_2,p3_3,p3_11))))))
 (cn (p3_0.aQ == 6)
 (jp (.cn (decide (p3_0.aJ>=0))
 (.lf (decide (p3_0.aJ<(p3_7:Int))))
 (.lf false)) (λb11=>
 (cn b11
 (gq (0<=p3_0.aJ)
 (gq (p3_0.aJ<((p3_7:Nat):Int))
 (gq (0<=p3_0.aJ)
 (gq (p3_0.aJ<((p3_7:Nat):Int))
 (lf (p3_2,p3_3,(p3_11.set (Int.toNat p3_0.aJ) (Bu ((gD p3_11 p3_0.aJ)+(Bu (0-p3_0.Value)))))))))))
 (lf (p3_2,p3_3,p3_11)))))
 (cn (p3_0.aQ == 7)
 (jp (.cn (decide (p3_0.aJ>=0))
 (.lf (decide (p3_0.aJ<(p3_7:Int))))
 (.lf false)) (λb12=>
 (cn b12
 (gq (0<=p3_0.aJ)
 (gq (p3_0.aJ<((p3_7:Nat):Int))
 (gq (0<=p3_0.aJ)
 (gq (p3_0.aJ<((p3_7:Nat):Int))
 (fq (p3_2.findIdx? λb=>(p3_0.bZ == b.dA && (p3_0.aJ == b.aR))) (λi13=>
 (lf (p3_2,(p3_3.set i13 true),(p3_11.set (Int.toNat p3_0.aJ) (Bu ((gD p3_11 p3_0.aJ)+(Bu (0-p3_0.Value))))))))
 (lf ((p3_2++ [(⟨p3_0.bZ,p3_0.aJ⟩:Am)]),(p3_3++ [true]),(p3_11.set (Int.toNat p3_0.aJ) (Bu ((gD p3_11 p3_0.aJ)+(Bu (0-p3_0.Value))))))))))))
 (fq (p3_2.findIdx? λb=>(p3_0.bZ == b.dA && (p3_0.aJ == b.aR))) (λi14=>
 (lf (p3_2,(p3_3.set i14 true),p3_11)))
 (lf ((p3_2++ [(⟨p3_0.bZ,p3_0.aJ⟩:Am)]),(p3_3++ [true]),p3_11))))))
 (cn (p3_0.aQ == 5)
 (fq (p3_2.findIdx? λb=>(p3_0.bZ == b.dA && (p3_0.aJ == b.aR))) (λi15=>
 (lf (p3_2,(p3_3.set i15 true),p3_11)))
 (lf ((p3_2++ [(⟨p3_0.bZ,p3_0.aJ⟩:Am)]),(p3_3++ [true]),p3_11)))
 (lf (p3_2,p3_3,p3_11))))))))
 (cn (p3_0.aQ == 4)
 (jp (.cn (decide (p3_0.aJ>=0))
 (.lf (decide (p3_0.aJ<(p3_7:Int))))
 (.lf false)) (λb16=>
 (cn b16
 (gq (0<=p3_0.aJ)
 (gq (p3_0.aJ<((p3_7:Nat):Int))
 (gq (0<=p3_0.aJ)
 (gq (p3_0.aJ<((p3_7:Nat):Int))
 (fq (p3_2.findIdx? λb=>(p3_0.bZ == b.dA && (p3_0.aJ == b.aR))) (λi17=>
 (lf (((p3_2.take i17).drop 0++(p3_2.take p3_2.length).drop (i17+1)),((p3_3.take i17).drop 0++(p3_3.take p3_3.length).drop (i17+1)),(p3_11.set (Int.toNat p3_0.aJ) (Bu ((gD p3_11 p3_0.aJ)+p3_0.Value))))))
 (lf (p3_2,p3_3,(p3_11.set (Int.toNat p3_0.aJ) (Bu ((gD p3_11 p3_0.aJ)+p3_0.Value))))))))))
 (fq (p3_2.findIdx? λb=>(p3_0.bZ == b.dA && (p3_0.aJ == b.aR))) (λi18=>
 (lf (((p3_2.take i18).drop 0++(p3_2.take p3_2.length).drop (i18+1)),((p3_3.take i18).drop 0++(p3_3.take p3_3.length).drop (i18+1)),p3_11)))
 (lf (p3_2,p3_3,p3_11))))))
 (cn (p3_0.aQ == 6)
 (jp (.cn (decide (p3_0.aJ>=0))
 (.lf (decide (p3_0.aJ<(p3_7:Int))))
 (.lf false)) (λb19=>
 (cn b19
 (gq (0<=p3_0.aJ)
 (gq (p3_0.aJ<((p3_7:Nat):Int))
 (gq (0<=p3_0.aJ)
 (gq (p3_0.aJ<((p3_7:Nat):Int))
 (lf (p3_2,p3_3,(p3_11.set (Int.toNat p3_0.aJ) (Bu ((gD p3_11 p3_0.aJ)+(Bu (0-p3_0.Value)))))))))))
 (lf (p3_2,p3_3,p3_11)))))
 (cn (p3_0.aQ == 7)
 (jp (.cn (decide (p3_0.aJ>=0))
 (.lf (decide (p3_0.aJ<(p3_7:Int))))
 (.lf false)) (λb20=>
 (cn b20
 (gq (0<=p3_0.aJ)
 (gq (p3_0.aJ<((p3_7:Nat):Int))
 (gq (0<=p3_0.aJ)
 (gq (p3_0.aJ<((p3_7:Nat):Int))
 (fq (p3_2.findIdx? λb=>(p3_0.bZ == b.dA && (p3_0.aJ == b.aR))) (λi21=>
 (lf (p3_2,(p3_3.set i21 true),(p3_11.set (Int.toNat p3_0.aJ) (Bu ((gD p3_11 p3_0.aJ)+(Bu (0-p3_0.Value))))))))
 (lf ((p3_2++ [(⟨p3_0.bZ,p3_0.aJ⟩:Am)]),(p3_3++ [true]),(p3_11.set (Int.toNat p3_0.aJ) (Bu ((gD p3_11 p3_0.aJ)+(Bu (0-p3_0.Value))))))))))))
 (fq (p3_2.findIdx? λb=>(p3_0.bZ == b.dA && (p3_0.aJ == b.aR))) (λi22=>
 (lf (p3_2,(p3_3.set i22 true),p3_11)))
 (lf ((p3_2++ [(⟨p3_0.bZ,p3_0.aJ⟩:Am)]),(p3_3++ [true]),p3_11))))))
 (cn (p3_0.aQ == 5)
 (fq (p3_2.findIdx? λb=>(p3_0.bZ == b.dA && (p3_0.aJ == b.aR))) (λi23=>
 (lf (p3_2,(p3_3.set i23 true),p3_11)))
 (lf ((p3_2++ [(⟨p3_0.bZ,p3_0.aJ⟩:Am)]),(p3_3++ [true]),p3_11)))
 (lf (p3_2,p3_3,p3_11)))))))))
def Gh(p3_0:Au)(p3_1:Au)(p3_2:List Am)(p3_3:List Bool)(p3_4:Int)(p3_5:Int)(p3_6:Nat)(p3_7:Nat)(p3_8:Nat)(p3_9:Nat)(p3_10:List Int)(p3_11:List Int)(p3_12:List Int)(p3_13:List Int)(p3_14:Au):Option (List Am×List Bool×List Int):=Ux L p3_0 p3_1 p3_2 p3_3 p3_4 p3_5 p3_6 p3_7 p3_8 p3_9 p3_10 p3_11 p3_12 p3_13 p3_14
theorem A9u(p3_0:Au)(p3_1:Au)(p3_2:List Am)(p3_3:List Bool)(p3_4:Int)(p3_5:Int)(p3_6:Nat)(p3_7:Nat)(p3_8:Nat)(p3_9:Nat)(p3_10:List Int)(p3_11:List Int)(p3_12:List Int)(p3_13:List Int)(p3_14:Au):YO (O22 L) L 8 65 [.loc 19 0,.agg (B4 p3_0)] [(8,zq2),(11,(B4 p3_1)),(17,[.aO true false (.t109 p3_2) (.t4 p3_3)]),(19,[I p3_4,I p3_5,.vw false 1030 3 1 p3_6,.vw false 1034 3 1 p3_7,.vw false 1038 3 1 p3_8,.vw false 1042 3 1 p3_9,.mp 17]),(1030,[.aX (.t3 p3_10)]),(1034,[.aX (.t3 p3_11)]),(1038,[.aX (.t3 p3_12)]),(1042,[.aX (.t3 p3_13)]),(2046,(B4 p3_14))] k=ob (Gh L p3_0 p3_1 p3_2 p3_3 p3_4 p3_5 p3_6 p3_7 p3_8 p3_9 p3_10 p3_11 p3_12 p3_13 p3_14) (Bx4 p3_0 p3_1 p3_2 p3_3 p3_4 p3_5 p3_6 p3_7 p3_8 p3_9 p3_10 p3_11 p3_12 p3_13 p3_14 k):=(C4 _ _ _ jn4 _ _ _ _ _ _ _).trans (eE (Ux L p3_0 p3_1 p3_2 p3_3 p3_4 p3_5 p3_6 p3_7 p3_8 p3_9 p3_10 p3_11 p3_12 p3_13 p3_14))
def Bx3(p1_0:Au)(p1_1:Au)(p1_2:List Am)(p1_3:List Bool)(p1_4:Int)(p1_5:Int)(p1_6:Nat)(p1_7:Nat)(p1_8:Nat)(p1_9:Nat)(p1_10:List Int)(p1_11:List Int)(p1_12:List Int)(p1_13:List Int)(k:Dj):A29->Prop:=λo=>k (.bY []) [(8,zq2),(11,(B4 p1_1)),(17,[.aO true false (.t109 o.1) (.t4 o.2.1)]),(19,[I p1_4,I p1_5,.vw false 1030 3 1 p1_6,.vw false 1034 3 1 p1_7,.vw false 1038 3 1 p1_8,.vw false 1042 3 1 p1_9,.mp 17]),(1030,[.aX (.t3 o.2.2.1)]),(1034,[.aX (.t3 o.2.2.2.1)]),(1038,[.aX (.t3 p1_12)]),(1042,[.aX (.t3 o.2.2.2.2)])]
def Ol [An A A29](L:Nat)(p1_10:List Int)(p1_0:Au)(p1_11:List Int)(p1_13:List Int)(o24:Nat×Int×List Am×List Bool):A:=
 (sl o24.1 [(lf (o24.2.2.1,o24.2.2.2,(p1_10.set (Int.toNat p1_0.aJ) (Bu ((gD p1_10 p1_0.aJ)+(-1)))),p1_11,p1_13))])
def Om [An A A29](L:Nat)(p1_10:List Int)(p1_11:List Int)(p1_13:List Int)(o25:Nat×Int×List Am×List Bool):A:=
 (sl o25.1 [(lf (o25.2.2.1,o25.2.2.2,p1_10,p1_11,p1_13))])
def On [An A A29](L:Nat)(p1_10:List Int)(p1_13:List Int)(o26:List Am×List Bool×List Int):A:=
 (lf (o26.1,o26.2.1,p1_10,o26.2.2,p1_13))
def Nd [An A A29](L:Nat)(p1_10:List Int)(p1_13:List Int)(o27:List Am×List Bool×List Int):A:=
 (lf (o27.1,o27.2.1,p1_10,o27.2.2,p1_13))
def Nf [An A A29](L:Nat)(p1_10:List Int)(p1_13:List Int)(o28:List Am×List Bool×List Int):A:=
 (lf (o28.1,o28.2.1,p1_10,o28.2.2,p1_13))
def Ng [An A A29](L:Nat)(p1_10:List Int)(p1_13:List Int)(o29:List Am×List Bool×List Int):A:=
 (lf (o29.1,o29.2.1,p1_10,o29.2.2,p1_13))
def O2 [An A A29](L:Nat)(p1_0:Au)(p1_1:Au)(p1_2:List Am)(p1_3:List Bool)(p1_4:Int)(p1_5:Int)(p1_6:Nat)(p1_7:Nat)(p1_8:Nat)(p1_9:Nat)(p1_10:List Int)(p1_11:List Int)(p1_12:List Int)(p1_13:List Int)(nx7:A)(nx8:A)(nx9:A)(nx10:A)(nx11:A)(nx12:A):A:=
 (cn (p1_0.aQ == 1)
 (jp (.cn (decide (p1_0.aJ>=0))
 (.lf (decide (p1_0.aJ<(p1_6:Int))))
 (.lf false)) (λb2=>
 (cn b2
 (gq (0<=p1_0.aJ)
 (gq (p1_0.aJ<((p1_6:Nat):Int))
 (gq (0<=p1_0.aJ)
 (gq (p1_0.aJ<((p1_6:Nat):Int))
 (lf (p1_2,p1_3,(p1_10.set (Int.toNat p1_0.aJ) (Bu ((gD p1_10 p1_0.aJ)+1))),p1_11,p1_13))))))
 (lf (p1_2,p1_3,p1_10,p1_11,p1_13)))))
 (cn (p1_0.aQ == 2)
 (jp (.cn (decide (p1_0.aJ>=0))
 (.lf (decide (p1_0.aJ<(p1_6:Int))))
 (.lf false)) (λb3=>
 (cn b3
 (gq (0<=p1_0.aJ)
 (gq (p1_0.aJ<((p1_6:Nat):Int))
 (gq (0<=p1_0.aJ)
 (gq (p1_0.aJ<((p1_6:Nat):Int))
 nx7))))
 nx8)))
 (cn (p1_0.aQ == 8)
 (jp (.cn (decide (p1_0.aJ>=0))
 (.lf (decide (p1_0.aJ<(p1_9:Int))))
 (.lf false)) (λb6=>
 (cn b6
 (gq (0<=p1_0.aJ)
 (gq (p1_0.aJ<((p1_9:Nat):Int))
 (gq (0<=p1_0.aJ)
 (gq (p1_0.aJ<((p1_9:Nat):Int))
 (lf (p1_2,p1_3,p1_10,p1_11,(p1_13.set (Int.toNat p1_0.aJ) (Bu ((gD p1_13 p1_0.aJ)+1)))))))))
 (lf (p1_2,p1_3,p1_10,p1_11,p1_13)))))
 (cn (p1_0.aQ == 9)
 (jp (.cn (decide (p1_0.aJ>=0))
 (.lf (decide (p1_0.aJ<(p1_9:Int))))
 (.lf false)) (λb7=>
 (cn b7
 (gq (0<=p1_0.aJ)
 (gq (p1_0.aJ<((p1_9:Nat):Int))
 (gq (0<=p1_0.aJ)
 (gq (p1_0.aJ<((p1_9:Nat):Int))
 (lf (p1_2,p1_3,p1_10,p1_11,(p1_13.set (Int.toNat p1_0.aJ) (Bu ((gD p1_13 p1_0.aJ)+(-1))))))))))
 (lf (p1_2,p1_3,p1_10,p1_11,p1_13)))))
 (cn (p1_0.aQ == 4)
 (cn (p1_0.aQ == 4)
 nx9
 (lf (p1_2,p1_3,p1_10,p1_11,p1_13)))
 (cn (p1_0.aQ == 6)
 (cn (p1_0.aQ == 6)
 nx10
 (lf (p1_2,p1_3,p1_10,p1_11,p1_13)))
 (cn (p1_0.aQ == 7)
 (cn (p1_0.aQ == 7)
 nx11
 (lf (p1_2,p1_3,p1_10,p1_11,p1_13)))
 (cn (p1_0.aQ == 5)
 nx12
 (lf (p1_2,p1_3,p1_10,p1_11,p1_13))))))))))
def Aep [An A A29](p1_0:Au)(p1_1:Au)(p1_2:List Am)(p1_3:List Bool)(p1_4:Int)(p1_5:Int)(p1_6:Nat)(p1_7:Nat)(p1_8:Nat)(p1_9:Nat)(p1_10:List Int)(p1_11:List Int)(p1_12:List Int)(p1_13:List Int):A:=O2 L p1_0 p1_1 p1_2 p1_3 p1_4 p1_5 p1_6 p1_7 p1_8 p1_9 p1_10 p1_11 p1_12 p1_13 (bd (Ei L p1_7 p1_1 p1_4 p1_5 p1_6 p1_8 p1_9 p1_10 p1_0 p1_11 p1_12 p1_13 L 0 p1_2 p1_3) λo24=>Ol L p1_10 p1_0 p1_11 p1_13 o24) (bd (Ej L p1_7 p1_1 p1_4 p1_5 p1_6 p1_8 p1_9 p1_10 p1_11 p1_12 p1_13 p1_0 L 0 p1_2 p1_3) λo25=>Om L p1_10 p1_11 p1_13 o25) (bd (Gh L p1_0 p1_1 p1_2 p1_3 p1_4 p1_5 p1_6 p1_7 p1_8 p1_9 p1_10 p1_11 p1_12 p1_13 p1_0) λo26=>On L p1_10 p1_13 o26) (bd (Gh L p1_0 p1_1 p1_2 p1_3 p1_4 p1_5 p1_6 p1_7 p1_8 p1_9 p1_10 p1_11 p1_12 p1_13 p1_0) λo27=>Nd L p1_10 p1_13 o27) (bd (Gh L p1_0 p1_1 p1_2 p1_3 p1_4 p1_5 p1_6 p1_7 p1_8 p1_9 p1_10 p1_11 p1_12 p1_13 p1_0) λo28=>Nf L p1_10 p1_13 o28) (bd (Gh L p1_0 p1_1 p1_2 p1_3 p1_4 p1_5 p1_6 p1_7 p1_8 p1_9 p1_10 p1_11 p1_12 p1_13 p1_0) λo29=>Ng L p1_10 p1_13 o29)
def Hs(p1_0:Au)(p1_1:Au)(p1_2:List Am)(p1_3:List Bool)(p1_4:Int)(p1_5:Int)(p1_6:Nat)(p1_7:Nat)(p1_8:Nat)(p1_9:Nat)(p1_10:List Int)(p1_11:List Int)(p1_12:List Int)(p1_13:List Int):Option A29:=Aep L p1_0 p1_1 p1_2 p1_3 p1_4 p1_5 p1_6 p1_7 p1_8 p1_9 p1_10 p1_11 p1_12 p1_13
theorem Bz3(p1_0:Au)(p1_1:Au)(p1_2:List Am)(p1_3:List Bool)(p1_4:Int)(p1_5:Int)(p1_6:Nat)(p1_7:Nat)(p1_8:Nat)(p1_9:Nat)(p1_10:List Int)(p1_11:List Int)(p1_12:List Int)(p1_13:List Int):YO (O22 L) L 9 41 [.loc 19 0,.agg (B4 p1_0)] [(8,zq2),(11,(B4 p1_1)),(17,[.aO true false (.t109 p1_2) (.t4 p1_3)]),(19,[I p1_4,I p1_5,.vw false 1030 3 1 p1_6,.vw false 1034 3 1 p1_7,.vw false 1038 3 1 p1_8,.vw false 1042 3 1 p1_9,.mp 17]),(1030,[.aX (.t3 p1_10)]),(1034,[.aX (.t3 p1_11)]),(1038,[.aX (.t3 p1_12)]),(1042,[.aX (.t3 p1_13)])] k=ob (Hs L p1_0 p1_1 p1_2 p1_3 p1_4 p1_5 p1_6 p1_7 p1_8 p1_9 p1_10 p1_11 p1_12 p1_13) (Bx3 p1_0 p1_1 p1_2 p1_3 p1_4 p1_5 p1_6 p1_7 p1_8 p1_9 p1_10 p1_11 p1_12 p1_13 k):=(C4 _ _ _ jn4 _ _ _ _ _ _ _).trans (eE (O2 L p1_0 p1_1 p1_2 p1_3 p1_4 p1_5 p1_6 p1_7 p1_8 p1_9 p1_10 p1_11 p1_12 p1_13 (hq (B0x L (KA (O22 L) L 9 c41 (rl [4,1,5,1,4,1]) (KJ Tryz.f41 k)) p1_7 p1_1 p1_4 p1_5 p1_6 p1_8 p1_9 p1_10 p1_0 p1_11 p1_12 p1_13 L (0,p1_2,p1_3)) λo24=>Ol L p1_10 p1_0 p1_11 p1_13 o24) (hq (B0y L (KA (O22 L) L 9 c41 (rl [4,1,5,1,4,1]) (KJ Tryz.f41 k)) p1_7 p1_1 p1_4 p1_5 p1_6 p1_8 p1_9 p1_10 p1_11 p1_12 p1_13 p1_0 L (0,p1_2,p1_3)) λo25=>Om L p1_10 p1_11 p1_13 o25) (hq (A9u L (Md (O22 L) L 8 0 3 c41.w.l.x.w.u.l ⟨[(71,.agg (B4 p1_0)),(70,.loc 19 0),Ble,Blc,(65,B (p1_0.aQ == 4))],[(8,zq2),(11,(B4 p1_1)),(17,[.aO true false (.t109 p1_2) (.t4 p1_3)]),(19,[I p1_4,I p1_5,.vw false 1030 3 1 p1_6,.vw false 1034 3 1 p1_7,.vw false 1038 3 1 p1_8,.vw false 1042 3 1 p1_9,.mp 17]),(1030,[.aX (.t3 p1_10)]),(1034,[.aX (.t3 p1_11)]),(1038,[.aX (.t3 p1_12)]),(1042,[.aX (.t3 p1_13)]),(2046,(B4 p1_0))],2043⟩ (some 72) (kN (KA (O22 L) L 9 c41 (rl [4,1,14,1]) (KJ Tryz.f41 k)))) p1_0 p1_1 p1_2 p1_3 p1_4 p1_5 p1_6 p1_7 p1_8 p1_9 p1_10 p1_11 p1_12 p1_13 p1_0) λo26=>On L p1_10 p1_13 o26) (hq (A9u L (Md (O22 L) L 8 0 3 c41.w.l.x.w.u.l ⟨[(71,.agg (B4 p1_0)),(70,.loc 19 0),Ble,Blc,(65,B (p1_0.aQ == 6))],[(8,zq2),(11,(B4 p1_1)),(17,[.aO true false (.t109 p1_2) (.t4 p1_3)]),(19,[I p1_4,I p1_5,.vw false 1030 3 1 p1_6,.vw false 1034 3 1 p1_7,.vw false 1038 3 1 p1_8,.vw false 1042 3 1 p1_9,.mp 17]),(1030,[.aX (.t3 p1_10)]),(1034,[.aX (.t3 p1_11)]),(1038,[.aX (.t3 p1_12)]),(1042,[.aX (.t3 p1_13)]),(2046,(B4 p1_0))],2043⟩ (some 72) (kN (KA (O22 L) L 9 c41 (rl [4,1,14,1]) (KJ Tryz.f41 k)))) p1_0 p1_1 p1_2 p1_3 p1_4 p1_5 p1_6 p1_7 p1_8 p1_9 p1_10 p1_11 p1_12 p1_13 p1_0) λo27=>Nd L p1_10 p1_13 o27) (hq (A9u L (Md (O22 L) L 8 0 3 c41.w.l.x.w.u.l ⟨[(71,.agg (B4 p1_0)),(70,.loc 19 0),Ble,Blc,(65,B (p1_0.aQ == 7))],[(8,zq2),(11,(B4 p1_1)),(17,[.aO true false (.t109 p1_2) (.t4 p1_3)]),(19,[I p1_4,I p1_5,.vw false 1030 3 1 p1_6,.vw false 1034 3 1 p1_7,.vw false 1038 3 1 p1_8,.vw false 1042 3 1 p1_9,.mp 17]),(1030,[.aX (.t3 p1_10)]),(1034,[.aX (.t3 p1_11)]),(1038,[.aX (.t3 p1_12)]),(1042,[.aX (.t3 p1_13)]),(2046,(B4 p1_0))],2043⟩ (some 72) (kN (KA (O22 L) L 9 c41 (rl [4,1,14,1]) (KJ Tryz.f41 k)))) p1_0 p1_1 p1_2 p1_3 p1_4 p1_5 p1_6 p1_7 p1_8 p1_9 p1_10 p1_11 p1_12 p1_13 p1_0) λo28=>Nf L p1_10 p1_13 o28) (hq (A9u L (Md (O22 L) L 8 0 3 c41.w.l.x.w.u.l ⟨[(71,.agg (B4 p1_0)),(70,.loc 19 0),Ble,Blc,(65,B (p1_0.aQ == 5))],[(8,zq2),(11,(B4 p1_1)),(17,[.aO true false (.t109 p1_2) (.t4 p1_3)]),(19,[I p1_4,I p1_5,.vw false 1030 3 1 p1_6,.vw false 1034 3 1 p1_7,.vw false 1038 3 1 p1_8,.vw false 1042 3 1 p1_9,.mp 17]),(1030,[.aX (.t3 p1_10)]),(1034,[.aX (.t3 p1_11)]),(1038,[.aX (.t3 p1_12)]),(1042,[.aX (.t3 p1_13)]),(2046,(B4 p1_0))],2043⟩ (some 72) (kN (KA (O22 L) L 9 c41 (rl [4,1,14,1]) (KJ Tryz.f41 k)))) p1_0 p1_1 p1_2 p1_3 p1_4 p1_5 p1_6 p1_7 p1_8 p1_9 p1_10 p1_11 p1_12 p1_13 p1_0) λo29=>Ng L p1_10 p1_13 o29)))
def B2v(a2:Int)(a3:Int)(a1:List Au)(a0:Ac)(v:Tu8):St:=⟨[(0,.any),(1,.any),(2,I a2),(3,I a3),(4,.any),Bbt,(9,.loc 19 0),Bbw,(19,.any),(20,lv (.t46 a1)),(21,I (a1.length:Int)),(22,I v.1)],[(8,zq2),(17,[.aO true false (.t109 v.2.1) (.t4 v.2.2.1)]),(19,[I a3,I a2,.vw false 1030 3 1 (Int.toNat ((gD a0.aA a2).aD.length:Int)),.vw false 1034 3 1 (Int.toNat ((gD a0.aA a2).aK.aG.length:Int)),.vw false 1038 3 1 (Int.toNat ((gD a0.aA a2).aK.aG.length:Int)),.vw false 1042 3 1 (Int.toNat ((gD a0.aA a2).aK.aL.length:Int)),.mp 17]),(1030,[.aX (.t3 v.2.2.2.1)]),(1034,[.aX (.t3 v.2.2.2.2.1)]),(1038,[.aX (.t3 (List.replicate (Int.toNat ((gD a0.aA a2).aK.aG.length:Int)) 0))]),(1042,[.aX (.t3 v.2.2.2.2.2)])],0⟩
def Nh [An A (Nat×Tu8)](L:Nat)(Bj:Int)(rec:Int->List Am->List Bool->List Int->List Int->List Int->A)(o30:A29):A:=
 (rec (Bu (Bj+1)) o30.1 o30.2.1 o30.2.2.1 o30.2.2.2.1 o30.2.2.2.2)
def Nj [An A (Nat×Tu8)](L:Nat)(a2:Int)(a3:Int)(a1:List Au)(a0:Ac)(rec:Int->List Am->List Bool->List Int->List Int->List Int->A)(Bj:Int)(Oy:List Am)(Oz:List Bool)(O0:List Int)(Gq:List Int)(O1:List Int)(nx13:Int->(List Am)->(List Bool)->(List Int)->(List Int)->(List Int)->Bool->A):A:=
 (lw Bj a1
 (jp (.cn ((gD a1 Bj).bW == a2)
 (.lf (decide ((gD a1 Bj).Time<=a3)))
 (.lf false)) (λb1=>
 (cn b1
 (nx13 Bj Oy Oz O0 Gq O1 b1)
 (rec (Bu (Bj+1)) Oy Oz O0 Gq O1))))
 (lf (0,Bj,Oy,Oz,O0,Gq,O1)))
def U0 [An A (Nat×Tu8)](a2:Int)(a3:Int)(a1:List Au)(a0:Ac)(rec:Int->List Am->List Bool->List Int->List Int->List Int->A)(Bj:Int)(Oy:List Am)(Oz:List Bool)(O0:List Int)(Gq:List Int)(O1:List Int):A:=Nj L a2 a3 a1 a0 rec Bj Oy Oz O0 Gq O1 (λBj Oy Oz O0 Gq O1 b1=>bd (Hs L (gD a1 Bj) (gD a1 Bj) Oy Oz a3 a2 (Int.toNat ((gD a0.aA a2).aD.length:Int)) (Int.toNat ((gD a0.aA a2).aK.aG.length:Int)) (Int.toNat ((gD a0.aA a2).aK.aG.length:Int)) (Int.toNat ((gD a0.aA a2).aK.aL.length:Int)) O0 Gq (List.replicate (Int.toNat ((gD a0.aA a2).aK.aG.length:Int)) 0) O1) λo30=>Nh L Bj rec o30)
def Gj(L:Nat)(a2:Int)(a3:Int)(a1:List Au)(a0:Ac):Nat->Int->List Am->List Bool->List Int->List Int->List Int->Option (Nat×Tu8)
 |0,_,_,_,_,_,_=>none
 |n+1,Bj,Oy,Oz,O0,Gq,O1=>U0 L a2 a3 a1 a0 (Gj L a2 a3 a1 a0 n) Bj Oy Oz O0 Gq O1
theorem B0w(a2:Int)(a3:Int)(a1:List Au)(a0:Ac):LP (EV (O22 L) L 9 c22.w.l.u.l.l) [0,1,2,3,4,8,9,12,19,20,21,22] [8,17,19,1030,1034,1038,1042] (B2v a2 a3 a1 a0) [.exit 0] (λn v=>Gj L a2 a3 a1 a0 n v.1 v.2.1 v.2.2.1 v.2.2.2.1 v.2.2.2.2.1 v.2.2.2.2.2) K:=lE (λ_=>rfl) λn v ih=>eE (Nj L a2 a3 a1 a0 (λBj Oy Oz O0 Gq O1=>re (ih (Bj,Oy,Oz,O0,Gq,O1))) v.1 v.2.1 v.2.2.1 v.2.2.2.1 v.2.2.2.2.1 v.2.2.2.2.2 (λBj Oy Oz O0 Gq O1 b1=>hq (Bz3 L (Md (O22 L) L 9 0 3 c22.w.l.u.l.l.w.l.l.w.l ⟨[(37,.agg (B4 (gD a1 Bj))),(36,.loc 19 0),(2,I a2),(3,I a3),Bbt,(9,.loc 19 0),(11,.loc 11 0),(20,lv (.t46 a1)),(21,I (a1.length:Int)),(22,I Bj),(23,B (decide (Bj<(a1.length:Int)))),(24,.ref (B4 (gD a1 Bj))),(25,.agg (B4 (gD a1 Bj))),(26,.loc 11 1),(27,I (gD a1 Bj).bW),(28,I a2),(29,B ((gD a1 Bj).bW == a2)),(30,B ((gD a1 Bj).bW == a2)),(35,B b1)],[(8,zq2),(11,(B4 (gD a1 Bj))),(17,[.aO true false (.t109 Oy) (.t4 Oz)]),(19,[I a3,I a2,.vw false 1030 3 1 (Int.toNat ((gD a0.aA a2).aD.length:Int)),.vw false 1034 3 1 (Int.toNat ((gD a0.aA a2).aK.aG.length:Int)),.vw false 1038 3 1 (Int.toNat ((gD a0.aA a2).aK.aG.length:Int)),.vw false 1042 3 1 (Int.toNat ((gD a0.aA a2).aK.aL.length:Int)),.mp 17]),(1030,[.aX (.t3 O0)]),(1034,[.aX (.t3 Gq)]),(1038,[.aX (.t3 (List.replicate (Int.toNat ((gD a0.aA a2).aK.aG.length:Int)) 0))]),(1042,[.aX (.t3 O1)])],0⟩ (some 38) (kN (KA (O22 L) L 9 c22.w.l.u.l.l (rl [4,2,4,1]) (Hf (Io (EV (O22 L) L 9 c22.w.l.u.l.l) [0,1,2,3,4,8,9,12,19,20,21,22] [8,17,19,1030,1034,1038,1042] n) [0,1,2,3,4,8,9,12,19,20,21,22] [8,17,19,1030,1034,1038,1042] K)))) (gD a1 Bj) (gD a1 Bj) Oy Oz a3 a2 (Int.toNat ((gD a0.aA a2).aD.length:Int)) (Int.toNat ((gD a0.aA a2).aK.aG.length:Int)) (Int.toNat ((gD a0.aA a2).aK.aG.length:Int)) (Int.toNat ((gD a0.aA a2).aK.aL.length:Int)) O0 Gq (List.replicate (Int.toNat ((gD a0.aA a2).aK.aG.length:Int)) 0) O1) λo30=>Nh L Bj (λBj Oy Oz O0 Gq O1=>re (ih (Bj,Oy,Oz,O0,Gq,O1))) o30))
def Bn9(o31:Nat×Tu8)(a3:Int)(a2:Int)(a0:Ac)(v:List Int):St:=⟨[(0,.any),(1,.any),(2,.any),(3,.any),(4,.any),Bbt,(9,.loc 19 0),A7e,(19,.any),(22,.any),(44,.any)],[(8,zq2),(17,[.aO true false (.t109 o31.2.2.1) (.t4 o31.2.2.2.1)]),(19,[I a3,I a2,.vw false 1030 3 1 (Int.toNat ((gD a0.aA a2).aD.length:Int)),.vw false 1034 3 1 (Int.toNat ((gD a0.aA a2).aK.aG.length:Int)),.vw false 1038 3 1 (Int.toNat ((gD a0.aA a2).aK.aG.length:Int)),.vw false 1042 3 1 (Int.toNat ((gD a0.aA a2).aK.aL.length:Int)),.mp 17]),(1030,[.aX (.t3 o31.2.2.2.2.1)]),(1034,[.aX (.t3 o31.2.2.2.2.2.1)]),(1038,[.aX (.t3 v)]),(1042,[.aX (.t3 o31.2.2.2.2.2.2)])],0⟩
def Bms(o31:Nat×Tu8)(a3:Int)(a2:Int)(a0:Ac)(es:Array MapEntry)(clock r:Nat)(v:List Int):St:=⟨[(0,.any),(1,.any),(2,.any),(3,.any),(4,.any),Bbt,(9,.loc 19 0),A7e,(19,.any),(22,.any),(44,.val (Value.pointer (some ⟨r,0,none⟩)))],[(8,zq2),(17,[.dG es clock true false (.t109 o31.2.2.1) (.t4 o31.2.2.2.1)]),(19,[I a3,I a2,.vw false 1030 3 1 (Int.toNat ((gD a0.aA a2).aD.length:Int)),.vw false 1034 3 1 (Int.toNat ((gD a0.aA a2).aK.aG.length:Int)),.vw false 1038 3 1 (Int.toNat ((gD a0.aA a2).aK.aG.length:Int)),.vw false 1042 3 1 (Int.toNat ((gD a0.aA a2).aK.aL.length:Int)),.mp 17]),(1030,[.aX (.t3 o31.2.2.2.2.1)]),(1034,[.aX (.t3 o31.2.2.2.2.2.1)]),(1038,[.aX (.t3 v)]),(1042,[.aX (.t3 o31.2.2.2.2.2.2)])],2043⟩
def Dk [An A (List Int)](L:Nat)(o31:Nat×Tu8)(a3:Int)(a2:Int)(a0:Ac)(i0:Nat)(v:List Int):A:=
 (jp (.cn (decide ((o31.2.2.1.getD i0 default).aR>=0))
 (.lf (decide ((o31.2.2.1.getD i0 default).aR<((Int.toNat ((gD a0.aA a2).aK.aG.length:Int)):Int))))
 (.lf false)) (λb32=>
 (cn b32
 (gq (0<=(o31.2.2.1.getD i0 default).aR)
 (gq ((o31.2.2.1.getD i0 default).aR<(((Int.toNat ((gD a0.aA a2).aK.aG.length:Int)):Nat):Int))
 (gq (0<=(o31.2.2.1.getD i0 default).aR)
 (gq ((o31.2.2.1.getD i0 default).aR<(((Int.toNat ((gD a0.aA a2).aK.aG.length:Int)):Nat):Int))
 (lf (v.set (Int.toNat ((o31.2.2.1.getD i0 default).aR)) (Bu ((gD v ((o31.2.2.1.getD i0 default).aR))+1))))))))
 (lf v))))
def A3h(x m:Int)(v:List Int):List Int:=if 0<=x/\x<m then v.set (Int.toNat x) (Bu (gD v x+1))else v
theorem Bjy(x y m:Int)(v:List Int):A3h x m (A3h y m v)=A3h y m (A3h x m v):=by
 unfold A3h gD;by_cases h1:0<=x/\x<m<;>by_cases h2:0<=y/\y<m<;>simp only[h1,h2,if_true,if_false,and_self]
 by_cases e:x.toNat=y.toNat
 ·rw[e]
 ·have g:∀(p q:Nat) (z:Int),p≠q->(v.set p z).getD q default=v.getD q default:=λp q z h=>by
   simp[List.getD,List.getElem?_set_ne h]
  rw[g _ _ _ e,g _ _ _ (λh=>e h.symm),List.set_comm _ _ e]
theorem Bnz(o31:Nat×Tu8)(a3:Int)(a2:Int)(a0:Ac)(i:Nat)(v:List Int):(Dk L o31 a3 a2 a0 i v:Option _)=some (A3h ((o31.2.2.1.getD i default).aR) ((Int.toNat ((gD a0.aA a2).aK.aG.length:Int):Nat):Int) v):=by
 unfold Dk A3h;rw[Bzd];by_cases h1:(0:Int)<=(o31.2.2.1.getD i default).aR<;>by_cases h2:(o31.2.2.1.getD i default).aR<((Int.toNat ((gD a0.aA a2).aK.aG.length:Int):Nat):Int)<;>simp only[BT.v,Bzb,Bzc,Bze,ge_iff_le,h1,h2,decide_true,decide_false,cond_true,cond_false,if_true,if_false,and_self,and_false,false_and,true_and]
theorem Apu(o31:Nat×Tu8)(a3:Int)(a2:Int)(a0:Ac)(i j:Nat)(v:List Int)(hi:i<o31.2.2.1.length)(hj:j<o31.2.2.1.length):((Dk L o31 a3 a2 a0 i v:Option _).bind λv=>Dk L o31 a3 a2 a0 j v)=(Dk L o31 a3 a2 a0 j v:Option _).bind λv=>Dk L o31 a3 a2 a0 i v:=by
 simp only[Bnz,Option.bind_some,Bjy]
def U2(o31:Nat×Tu8)(a3:Int)(a2:Int)(a0:Ac)(n:Nat)(v:List Int):Option (List Int):=if o31.2.2.1.length<n then Aht (λi0 v=>Dk L o31 a3 a2 a0 i0 v) (List.range o31.2.2.1.length) v else none
theorem B0z(o31:Nat×Tu8)(a3:Int)(a2:Int)(a0:Ac)(v:List Int)(st:St)(h0:∀es clock r,Bu9 st 17 44 [.dG es clock true false (.t109 o31.2.2.1) (.t4 o31.2.2.2.1)] (.val (.pointer (some ⟨r,0,none⟩))) [0,1,2,3,4,8,9,11,19,22,44]=Bms o31 a3 a2 a0 es clock r v)(hl:Cs st= [8,17,19,1030,1034,1038,1042])(hbs:st.base=0):B2g (rgF Tryz.prog (O22 L) (EI (O22 L) L 9) L c22.w.u.l) 3 17 true false (.t109 o31.2.2.1) (.t4 o31.2.2.2.1) 44 45 46 47 [0,1,2,3,4,8,9,11,19,22,44] L st (λst9=>K .normal st9)=ob (U2 L o31 a3 a2 a0 L v) (kR (Bn9 o31 a3 a2 a0) K):=
 Bva (Bn9 o31 a3 a2 a0) (Bms o31 a3 a2 a0) (λi0 v=>Dk L o31 a3 a2 a0 i0 v) v h0 hl hbs (λes clock r i0 v G=>eE (Dk L o31 a3 a2 a0 i0 v)) (λes clock r v=>by kernel_rfl) (Apu L o31 a3 a2 a0)
def S9 [An A Ao](L:Nat)(a3:Int)(a2:Int)(o31:Nat×Tu8)(o33:List Int):A:=
 (lf (⟨a3,a2,o31.2.2.2.2.1,o31.2.2.2.2.2.1,o33,o31.2.2.2.2.2.2⟩:Ao))
def Tf [An A Ao](L:Nat)(a3:Int)(a2:Int)(a0:Ac)(o31:Nat×Tu8)(nx15:(Nat×Tu8)->A):A:=
 (sl o31.1 [(nx15 o31)])
def Abd [An A Ao](a3:Int)(a2:Int)(a0:Ac)(o31:Nat×Tu8):A:=Tf L a3 a2 a0 o31 (λo31=>bd (U2 L o31 a3 a2 a0 L (List.replicate (Int.toNat ((gD a0.aA a2).aK.aG.length:Int)) 0)) λo33=>S9 L a3 a2 o31 o33)
def Te [An A Ao](L:Nat)(a0:Ac)(a1:List Au)(a2:Int)(a3:Int)(nx14:A):A:=
 (gi a2 a0.aA
 (gq (0<=((gD a0.aA a2).aD.length:Int))
 (gq (((gD a0.aA a2).aD.length:Int)*((8:Nat):Int)<=140737488355328)
 (gq (((gD a0.aA a2).aD.length:Int)<=9223372036854775807)
 (gq (0<=((gD a0.aA a2).aK.aG.length:Int))
 (gq (((gD a0.aA a2).aK.aG.length:Int)*((8:Nat):Int)<=140737488355328)
 (gq (((gD a0.aA a2).aK.aG.length:Int)<=9223372036854775807)
 (gq (0<=((gD a0.aA a2).aK.aG.length:Int))
 (gq (((gD a0.aA a2).aK.aG.length:Int)*((8:Nat):Int)<=140737488355328)
 (gq (((gD a0.aA a2).aK.aG.length:Int)<=9223372036854775807)
 (gq (0<=((gD a0.aA a2).aK.aL.length:Int))
 (gq (((gD a0.aA a2).aK.aL.length:Int)*((8:Nat):Int)<=140737488355328)
 (gq (((gD a0.aA a2).aK.aL.length:Int)<=9223372036854775807)
 nx14)))))))))))))
def Ai1 [An A Ao](a0:Ac)(a1:List Au)(a2:Int)(a3:Int):A:=Te L a0 a1 a2 a3 (bd (Gj L a2 a3 a1 a0 L 0 [] [] (List.replicate (Int.toNat ((gD a0.aA a2).aD.length:Int)) 0) (List.replicate (Int.toNat ((gD a0.aA a2).aK.aG.length:Int)) 0) (List.replicate (Int.toNat ((gD a0.aA a2).aK.aL.length:Int)) 0)) λo31=>Abd L a3 a2 a0 o31)
def J1(a0:Ac)(a1:List Au)(a2:Int)(a3:Int):Option Ao:=Ai1 L a0 a1 a2 a3
def X22:F3:=E4 (λ(x:Ao)=>.agg (Lr x)) 22 B7 Bj2 (cI .i64) (cI .i64) (J1 L) λa0 a1 a2 a3 r h=>hF Tryz.func22 (C:=O22 L) (oS _) L (λkk=>eE (Te L a0 a1 a2 a3 (hq (B0w L (KA (O22 L) L 9 c22 (rl [4,1,2,1]) (KE Tryz.f22 kk)) a2 a3 a1 a0 L (0,[],[],(List.replicate (Int.toNat ((gD a0.aA a2).aD.length:Int)) 0),(List.replicate (Int.toNat ((gD a0.aA a2).aK.aG.length:Int)) 0),(List.replicate (Int.toNat ((gD a0.aA a2).aK.aL.length:Int)) 0))) λo31=>Tf L a3 a2 a0 o31 (λo31=>hq (B0z L (KA (O22 L) L 9 c22 (rl [6,1]) (KE Tryz.f22 kk)) o31 a3 a2 a0 (List.replicate (Int.toNat ((gD a0.aA a2).aK.aG.length:Int)) 0) (⟨[(43,.mp 17),(42,.loc 19 6),(41,.loc 19 0),(40,.loc 19 0),Bbt,(9,.loc 19 0)],[(8,zq2),(17,[.aO true false (.t109 o31.2.2.1) (.t4 o31.2.2.2.1)]),(19,[I a3,I a2,.vw false 1030 3 1 (Int.toNat ((gD a0.aA a2).aD.length:Int)),.vw false 1034 3 1 (Int.toNat ((gD a0.aA a2).aK.aG.length:Int)),.vw false 1038 3 1 (Int.toNat ((gD a0.aA a2).aK.aG.length:Int)),.vw false 1042 3 1 (Int.toNat ((gD a0.aA a2).aK.aL.length:Int)),.mp 17]),(1030,[.aX (.t3 o31.2.2.2.2.1)]),(1034,[.aX (.t3 o31.2.2.2.2.2.1)]),(1038,[.aX (.t3 (List.replicate (Int.toNat ((gD a0.aA a2).aK.aG.length:Int)) 0))]),(1042,[.aX (.t3 o31.2.2.2.2.2.2)])],0⟩:St) (λ_ _ _=>by kernel_rfl) (by kernel_rfl) (by kernel_rfl)) λo33=>S9 L a3 a2 o31 o33)))) h
def Anv [An A (Ao×Int)](a0:Ac)(a1:List Au)(a2:Int)(a3:Int):A:=
 (bd (U7 L (⟨a0.aF,a0.aA,a0.aH⟩:Ac)) λr1=>
 (cn (r1 != 0)
 (lf ((⟨0,0,[],[],[],[]⟩:Ao),r1))
 (bd (Sx L (⟨a0.aF,a0.aA,a0.aH⟩:Ac) a2 a3) λr2=>
 (cn r2
 (lf ((⟨0,0,[],[],[],[]⟩:Ao),2))
 (bd (J1 L (⟨a0.aF,a0.aA,a0.aH⟩:Ac) a1 a2 a3) λr3=>
 (lf (r3,0)))))))
def Je(a0:Ac)(a1:List Au)(a2:Int)(a3:Int):Option (Ao×Int):=Anv L a0 a1 a2 a3
def X8:F3:=E4 (λ(x:Ao×Int)=>.bY [.agg (Lr x.1),I x.2]) 8 B7 Bj2 (cI .i64) (cI .i64) (Je L) λa0 a1 a2 a3 r h=>hF Tryz.func8 (oS [X20 L,X21 L,X22 L]) L (λkk=>eE (Anv L a0 a1 a2 a3)) h
end
end Go.Proofs.YthjhkpgonleelaaGreatDoor.Ev
