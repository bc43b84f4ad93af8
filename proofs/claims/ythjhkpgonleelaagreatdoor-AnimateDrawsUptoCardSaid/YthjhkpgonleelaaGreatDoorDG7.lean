import Derived.Test.YthjhkpgonleelaaGreatDoorDG6
set_option maxRecDepth 100000
set_option maxHeartbeats 4000000
set_option linter.unusedVariables false
set_option linter.unusedSimpArgs false
set_option linter.unnecessarySimpa false
namespace Go.Proofs.YthjhkpgonleelaaGreatDoor.Ev
open Go An
noncomputable section
variable {A:Type} (L n:Nat) (kk:Lr) (K:Ei) (k:Dj)
def c41:=CC Tryz.f41
def c22:=CC Tryz.f22
def O22(L:Nat):Bc:=oL []
def B4v(p1_7:Nat)(p1_1:Ap)(p1_4:Int)(p1_5:Int)(p1_6:Nat)(p1_8:Nat)(p1_9:Nat)(p1_10:List Int)(p1_0:Ap)(p1_11:List Int)(p1_12:List Int)(p1_13:List Int)(v:Int×List Ah×List Bool):St:=⟨[Bm8,(1,.any),Bm6,(7,.any),(17,.any),(32,I (p1_7:Int)),(33,I v.1),(45,.any),(55,.any),(65,.any)],[(8,zq2),(11,(B4 p1_1)),(17,[.aQ true false (.t109 v.2.1) (.t4 v.2.2)]),(19,[I p1_4,I p1_5,.vw false 1030 3 1 p1_6,.vw false 1034 3 1 p1_7,.vw false 1038 3 1 p1_8,.vw false 1042 3 1 p1_9,.mp 17]),(1030,[.aX (.t3 (p1_10.set (Int.toNat p1_0.aI) (Bs ((gD p1_10 p1_0.aI)+(-1)))))]),(1034,[.aX (.t3 p1_11)]),(1038,[.aX (.t3 p1_12)]),(1042,[.aX (.t3 p1_13)]),(2046,(B4 p1_0))],2043⟩
def O1 [An A (Nat×Int×List Ah×List Bool)](L:Nat)(p1_7:Nat)(p1_1:Ap)(p1_4:Int)(p1_5:Int)(p1_6:Nat)(p1_8:Nat)(p1_9:Nat)(p1_10:List Int)(p1_0:Ap)(p1_11:List Int)(p1_12:List Int)(p1_13:List Int)(rec:Int->List Ah->List Bool->A)(Gi:Int)(Auc:List Ah)(Aya:List Bool):A:=
 (cn (decide (Gi<(p1_7:Int)))
 (fq (Auc.findIdx? λb=>(p1_0.bI == b.bG && (Gi == b.aK))) (λi4=>
 (rec (Bs (Gi+1)) ((Auc.take i4).drop 0++(Auc.take Auc.length).drop (i4+1)) ((Aya.take i4).drop 0++(Aya.take Aya.length).drop (i4+1))))
 (rec (Bs (Gi+1)) Auc Aya))
 (lf (0,Gi,Auc,Aya)))
def El(L:Nat)(p1_7:Nat)(p1_1:Ap)(p1_4:Int)(p1_5:Int)(p1_6:Nat)(p1_8:Nat)(p1_9:Nat)(p1_10:List Int)(p1_0:Ap)(p1_11:List Int)(p1_12:List Int)(p1_13:List Int):Nat->Int->List Ah->List Bool->Option (Nat×Int×List Ah×List Bool)
 |0,_,_,_=>none
 |n+1,Gi,Auc,Aya=>O1 L p1_7 p1_1 p1_4 p1_5 p1_6 p1_8 p1_9 p1_10 p1_0 p1_11 p1_12 p1_13 (El L p1_7 p1_1 p1_4 p1_5 p1_6 p1_8 p1_9 p1_10 p1_0 p1_11 p1_12 p1_13 n) Gi Auc Aya
theorem B2v(p1_7:Nat)(p1_1:Ap)(p1_4:Int)(p1_5:Int)(p1_6:Nat)(p1_8:Nat)(p1_9:Nat)(p1_10:List Int)(p1_0:Ap)(p1_11:List Int)(p1_12:List Int)(p1_13:List Int):LP (EV (O22 L) L 8 c41.w.l.w.r.l.w.l.l) [0,1,3,7,17,32,33,45,55,65] [8,11,17,19,1030,1034,1038,1042,2046] (B4v p1_7 p1_1 p1_4 p1_5 p1_6 p1_8 p1_9 p1_10 p1_0 p1_11 p1_12 p1_13) [.exit 1] (λn v=>El L p1_7 p1_1 p1_4 p1_5 p1_6 p1_8 p1_9 p1_10 p1_0 p1_11 p1_12 p1_13 n v.1 v.2.1 v.2.2) K:=lE (λ_=>rfl) λn v ih=>eE (O1 L p1_7 p1_1 p1_4 p1_5 p1_6 p1_8 p1_9 p1_10 p1_0 p1_11 p1_12 p1_13 (λGi Auc Aya=>re (ih (Gi,Auc,Aya))) v.1 v.2.1 v.2.2)
def B4w(p1_7:Nat)(p1_1:Ap)(p1_4:Int)(p1_5:Int)(p1_6:Nat)(p1_8:Nat)(p1_9:Nat)(p1_10:List Int)(p1_11:List Int)(p1_12:List Int)(p1_13:List Int)(p1_0:Ap)(v:Int×List Ah×List Bool):St:=⟨[Bm8,(1,.any),Bm6,(7,.any),(17,.any),(32,I (p1_7:Int)),(33,I v.1),(45,.any),(55,.any),(65,.any)],[(8,zq2),(11,(B4 p1_1)),(17,[.aQ true false (.t109 v.2.1) (.t4 v.2.2)]),(19,[I p1_4,I p1_5,.vw false 1030 3 1 p1_6,.vw false 1034 3 1 p1_7,.vw false 1038 3 1 p1_8,.vw false 1042 3 1 p1_9,.mp 17]),(1030,[.aX (.t3 p1_10)]),(1034,[.aX (.t3 p1_11)]),(1038,[.aX (.t3 p1_12)]),(1042,[.aX (.t3 p1_13)]),(2046,(B4 p1_0))],2043⟩
def O2 [An A (Nat×Int×List Ah×List Bool)](L:Nat)(p1_7:Nat)(p1_1:Ap)(p1_4:Int)(p1_5:Int)(p1_6:Nat)(p1_8:Nat)(p1_9:Nat)(p1_10:List Int)(p1_11:List Int)(p1_12:List Int)(p1_13:List Int)(p1_0:Ap)(rec:Int->List Ah->List Bool->A)(Iv:Int)(Aud:List Ah)(Ayb:List Bool):A:=
 (cn (decide (Iv<(p1_7:Int)))
 (fq (Aud.findIdx? λb=>(p1_0.bI == b.bG && (Iv == b.aK))) (λi5=>
 (rec (Bs (Iv+1)) ((Aud.take i5).drop 0++(Aud.take Aud.length).drop (i5+1)) ((Ayb.take i5).drop 0++(Ayb.take Ayb.length).drop (i5+1))))
 (rec (Bs (Iv+1)) Aud Ayb))
 (lf (0,Iv,Aud,Ayb)))
def Em(L:Nat)(p1_7:Nat)(p1_1:Ap)(p1_4:Int)(p1_5:Int)(p1_6:Nat)(p1_8:Nat)(p1_9:Nat)(p1_10:List Int)(p1_11:List Int)(p1_12:List Int)(p1_13:List Int)(p1_0:Ap):Nat->Int->List Ah->List Bool->Option (Nat×Int×List Ah×List Bool)
 |0,_,_,_=>none
 |n+1,Iv,Aud,Ayb=>O2 L p1_7 p1_1 p1_4 p1_5 p1_6 p1_8 p1_9 p1_10 p1_11 p1_12 p1_13 p1_0 (Em L p1_7 p1_1 p1_4 p1_5 p1_6 p1_8 p1_9 p1_10 p1_11 p1_12 p1_13 p1_0 n) Iv Aud Ayb
theorem B2w(p1_7:Nat)(p1_1:Ap)(p1_4:Int)(p1_5:Int)(p1_6:Nat)(p1_8:Nat)(p1_9:Nat)(p1_10:List Int)(p1_11:List Int)(p1_12:List Int)(p1_13:List Int)(p1_0:Ap):LP (EV (O22 L) L 8 c41.w.l.w.r.l.w.l.l) [0,1,3,7,17,32,33,45,55,65] [8,11,17,19,1030,1034,1038,1042,2046] (B4w p1_7 p1_1 p1_4 p1_5 p1_6 p1_8 p1_9 p1_10 p1_11 p1_12 p1_13 p1_0) [.exit 1] (λn v=>Em L p1_7 p1_1 p1_4 p1_5 p1_6 p1_8 p1_9 p1_10 p1_11 p1_12 p1_13 p1_0 n v.1 v.2.1 v.2.2) K:=lE (λ_=>rfl) λn v ih=>eE (O2 L p1_7 p1_1 p1_4 p1_5 p1_6 p1_8 p1_9 p1_10 p1_11 p1_12 p1_13 p1_0 (λIv Aud Ayb=>re (ih (Iv,Aud,Ayb))) v.1 v.2.1 v.2.2)
def Bz3(p3_0:Ap)(p3_1:Ap)(p3_2:List Ah)(p3_3:List Bool)(p3_4:Int)(p3_5:Int)(p3_6:Nat)(p3_7:Nat)(p3_8:Nat)(p3_9:Nat)(p3_10:List Int)(p3_11:List Int)(p3_12:List Int)(p3_13:List Int)(p3_14:Ap)(k:Dj):(List Ah×List Bool×List Int)->Prop:=λo=>k (.cK []) [(8,zq2),(11,(B4 p3_1)),(17,[.aQ true false (.t109 o.1) (.t4 o.2.1)]),(19,[I p3_4,I p3_5,.vw false 1030 3 1 p3_6,.vw false 1034 3 1 p3_7,.vw false 1038 3 1 p3_8,.vw false 1042 3 1 p3_9,.mp 17]),(1030,[.aX (.t3 p3_10)]),(1034,[.aX (.t3 o.2.2)]),(1038,[.aX (.t3 p3_12)]),(1042,[.aX (.t3 p3_13)]),(2046,(B4 p3_14))]
def Vp [An A (List Ah×List Bool×List Int)](L:Nat)(p3_0:Ap)(p3_1:Ap)(p3_2:List Ah)(p3_3:List Bool)(p3_4:Int)(p3_5:Int)(p3_6:Nat)(p3_7:Nat)(p3_8:Nat)(p3_9:Nat)(p3_10:List Int)(p3_11:List Int)(p3_12:List Int)(p3_13:List Int)(p3_14:Ap):A:=
 (cn (decide (p3_0.aI<0))
 (lf (p3_2,p3_3,p3_11))
 (cn (decide (p3_0.aI>=(p3_7:Int)))
 (lf (p3_2,p3_3,p3_11))
 (cn (p3_0.aO != 5)
 (cn (decide (p3_0.Value<1))
 (lf (p3_2,p3_3,p3_11))
 (cn (decide (p3_0.Value>1000))
 (lf (p3_2,p3_3,p3_11))
 (cn (p3_0.aO == 4)
 (jp (.cn (decide (p3_0.aI>=0))
 (.lf (decide (p3_0.aI<(p3_7:Int))))
 (.lf false)) (λb8=>
 (cn b8
 (gq (0<=p3_0.aI)
 (gq (p3_0.aI<((p3_7:Nat):Int))
 (gq (0<=p3_0.aI)
 (gq (p3_0.aI<((p3_7:Nat):Int))
 (fq (p3_2.findIdx? λb=>(p3_0.bI == b.bG && (p3_0.aI == b.aK))) (λi9=>
 (lf (((p3_2.take i9).drop 0++(p3_2.take p3_2.length).drop (i9+1)),((p3_3.take i9).drop 0++(p3_3.take p3_3.length).drop (i9+1)),(p3_11.set (Int.toNat p3_0.aI) (Bs ((gD p3_11 p3_0.aI)+p3_0.Value))))))
 (lf (p3_2,p3_3,(p3_11.set (Int.toNat p3_0.aI) (Bs ((gD p3_11 p3_0.aI)+p3_0.Value))))))))))
 (fq (p3_2.findIdx? λb=>(p3_0.bI == b.bG && (p3_0.aI == b.aK))) (λi10=>
 (lf (((p3_2.take i10).drop 0++(p3_2.take p3_2.length).drop (i10+1)),((p3_3.take i10).drop 0++(p3_3.take p3_3.length).drop (i10+1)),p3_11)))
 (lf (p3_2,p3_3,p3_11))))))
 (cn (p3_0.aO == 6)
 (jp (.cn (decide (p3_0.aI>=0))
 (.lf (decide (p3_0.aI<(p3_7:Int))))
 (.lf false)) (λb11=>
 (cn b11
 (gq (0<=p3_0.aI)
 (gq (p3_0.aI<((p3_7:Nat):Int))
 (gq (0<=p3_0.aI)
 (gq (p3_0.aI<((p3_7:Nat):Int))
 (lf (p3_2,p3_3,(p3_11.set (Int.toNat p3_0.aI) (Bs ((gD p3_11 p3_0.aI)+(Bs (0-p3_0.Value)))))))))))
 (lf (p3_2,p3_3,p3_11)))))
 (cn (p3_0.aO == 7)
 (jp (.cn (decide (p3_0.aI>=0))
 (.lf (decide (p3_0.aI<(p3_7:Int))))
 (.lf false)) (λb12=>
 (cn b12
 (gq (0<=p3_0.aI)
 (gq (p3_0.aI<((p3_7:Nat):Int))
 (gq (0<=p3_0.aI)
 (gq (p3_0.aI<((p3_7:Nat):Int))
 (fq (p3_2.findIdx? λb=>(p3_0.bI == b.bG && (p3_0.aI == b.aK))) (λi13=>
 (lf (p3_2,(p3_3.set i13 true),(p3_11.set (Int.toNat p3_0.aI) (Bs ((gD p3_11 p3_0.aI)+(Bs (0-p3_0.Value))))))))
 (lf ((p3_2++ [(⟨p3_0.bI,p3_0.aI⟩:Ah)]),(p3_3++ [true]),(p3_11.set (Int.toNat p3_0.aI) (Bs ((gD p3_11 p3_0.aI)+(Bs (0-p3_0.Value))))))))))))
 (fq (p3_2.findIdx? λb=>(p3_0.bI == b.bG && (p3_0.aI == b.aK))) (λi14=>
 (lf (p3_2,(p3_3.set i14 true),p3_11)))
 (lf ((p3_2++ [(⟨p3_0.bI,p3_0.aI⟩:Ah)]),(p3_3++ [true]),p3_11))))))
 (cn (p3_0.aO == 5)
 (fq (p3_2.findIdx? λb=>(p3_0.bI == b.bG && (p3_0.aI == b.aK))) (λi15=>
 (lf (p3_2,(p3_3.set i15 true),p3_11)))
 (lf ((p3_2++ [(⟨p3_0.bI,p3_0.aI⟩:Ah)]),(p3_3++ [true]),p3_11)))
 (lf (p3_2,p3_3,p3_11))))))))
 (cn (p3_0.aO == 4)
 (jp (.cn (decide (p3_0.aI>=0))
 (.lf (decide (p3_0.aI<(p3_7:Int))))
 (.lf false)) (λb16=>
 (cn b16
 (gq (0<=p3_0.aI)
 (gq (p3_0.aI<((p3_7:Nat):Int))
 (gq (0<=p3_0.aI)
 (gq (p3_0.aI<((p3_7:Nat):Int))
 (fq (p3_2.findIdx? λb=>(p3_0.bI == b.bG && (p3_0.aI == b.aK))) (λi17=>
 (lf (((p3_2.take i17).drop 0++(p3_2.take p3_2.length).drop (i17+1)),((p3_3.take i17).drop 0++(p3_3.take p3_3.length).drop (i17+1)),(p3_11.set (Int.toNat p3_0.aI) (Bs ((gD p3_11 p3_0.aI)+p3_0.Value))))))
 (lf (p3_2,p3_3,(p3_11.set (Int.toNat p3_0.aI) (Bs ((gD p3_11 p3_0.aI)+p3_0.Value))))))))))
 (fq (p3_2.findIdx? λb=>(p3_0.bI == b.bG && (p3_0.aI == b.aK))) (λi18=>
 (lf (((p3_2.take i18).drop 0++(p3_2.take p3_2.length).drop (i18+1)),((p3_3.take i18).drop 0++(p3_3.take p3_3.length).drop (i18+1)),p3_11)))
 (lf (p3_2,p3_3,p3_11))))))
 (cn (p3_0.aO == 6)
 (jp (.cn (decide (p3_0.aI>=0))
 (.lf (decide (p3_0.aI<(p3_7:Int))))
 (.lf false)) (λb19=>
 (cn b19
 (gq (0<=p3_0.aI)
 (gq (p3_0.aI<((p3_7:Nat):Int))
 (gq (0<=p3_0.aI)
 (gq (p3_0.aI<((p3_7:Nat):Int))
 (lf (p3_2,p3_3,(p3_11.set (Int.toNat p3_0.aI) (Bs ((gD p3_11 p3_0.aI)+(Bs (0-p3_0.Value)))))))))))
 (lf (p3_2,p3_3,p3_11)))))
 (cn (p3_0.aO == 7)
 (jp (.cn (decide (p3_0.aI>=0))
 (.lf (decide (p3_0.aI<(p3_7:Int))))
 (.lf false)) (λb20=>
 (cn b20
 (gq (0<=p3_0.aI)
 (gq (p3_0.aI<((p3_7:Nat):Int))
 (gq (0<=p3_0.aI)
 (gq (p3_0.aI<((p3_7:Nat):Int))
 (fq (p3_2.findIdx? λb=>(p3_0.bI == b.bG && (p3_0.aI == b.aK))) (λi21=>
 (lf (p3_2,(p3_3.set i21 true),(p3_11.set (Int.toNat p3_0.aI) (Bs ((gD p3_11 p3_0.aI)+(Bs (0-p3_0.Value))))))))
 (lf ((p3_2++ [(⟨p3_0.bI,p3_0.aI⟩:Ah)]),(p3_3++ [true]),(p3_11.set (Int.toNat p3_0.aI) (Bs ((gD p3_11 p3_0.aI)+(Bs (0-p3_0.Value))))))))))))
 (fq (p3_2.findIdx? λb=>(p3_0.bI == b.bG && (p3_0.aI == b.aK))) (λi22=>
 (lf (p3_2,(p3_3.set i22 true),p3_11)))
 (lf ((p3_2++ [(⟨p3_0.bI,p3_0.aI⟩:Ah)]),(p3_3++ [true]),p3_11))))))
 (cn (p3_0.aO == 5)
 (fq (p3_2.findIdx? λb=>(p3_0.bI == b.bG && (p3_0.aI == b.aK))) (λi23=>
 (lf (p3_2,(p3_3.set i23 true),p3_11)))
 (lf ((p3_2++ [(⟨p3_0.bI,p3_0.aI⟩:Ah)]),(p3_3++ [true]),p3_11)))
 (lf (p3_2,p3_3,p3_11)))))))))
def Gm(p3_0:Ap)(p3_1:Ap)(p3_2:List Ah)(p3_3:List Bool)(p3_4:Int)(p3_5:Int)(p3_6:Nat)(p3_7:Nat)(p3_8:Nat)(p3_9:Nat)(p3_10:List Int)(p3_11:List Int)(p3_12:List Int)(p3_13:List Int)(p3_14:Ap):Option (List Ah×List Bool×List Int):=Vp L p3_0 p3_1 p3_2 p3_3 p3_4 p3_5 p3_6 p3_7 p3_8 p3_9 p3_10 p3_11 p3_12 p3_13 p3_14
theorem Bbf(p3_0:Ap)(p3_1:Ap)(p3_2:List Ah)(p3_3:List Bool)(p3_4:Int)(p3_5:Int)(p3_6:Nat)(p3_7:Nat)(p3_8:Nat)(p3_9:Nat)(p3_10:List Int)(p3_11:List Int)(p3_12:List Int)(p3_13:List Int)(p3_14:Ap):YO (O22 L) L 8 65 [.loc 19 0,.agg (B4 p3_0)] [(8,zq2),(11,(B4 p3_1)),(17,[.aQ true false (.t109 p3_2) (.t4 p3_3)]),(19,[I p3_4,I p3_5,.vw false 1030 3 1 p3_6,.vw false 1034 3 1 p3_7,.vw false 1038 3 1 p3_8,.vw false 1042 3 1 p3_9,.mp 17]),(1030,[.aX (.t3 p3_10)]),(1034,[.aX (.t3 p3_11)]),(1038,[.aX (.t3 p3_12)]),(1042,[.aX (.t3 p3_13)]),(2046,(B4 p3_14))] k=ob (Gm L p3_0 p3_1 p3_2 p3_3 p3_4 p3_5 p3_6 p3_7 p3_8 p3_9 p3_10 p3_11 p3_12 p3_13 p3_14) (Bz3 p3_0 p3_1 p3_2 p3_3 p3_4 p3_5 p3_6 p3_7 p3_8 p3_9 p3_10 p3_11 p3_12 p3_13 p3_14 k):=(C4 _ _ _ jn4 _ _ _ _ _ _ _).trans (eE (Vp L p3_0 p3_1 p3_2 p3_3 p3_4 p3_5 p3_6 p3_7 p3_8 p3_9 p3_10 p3_11 p3_12 p3_13 p3_14))
def Bz2(p1_0:Ap)(p1_1:Ap)(p1_2:List Ah)(p1_3:List Bool)(p1_4:Int)(p1_5:Int)(p1_6:Nat)(p1_7:Nat)(p1_8:Nat)(p1_9:Nat)(p1_10:List Int)(p1_11:List Int)(p1_12:List Int)(p1_13:List Int)(k:Dj):A4k->Prop:=λo=>k (.cK []) [(8,zq2),(11,(B4 p1_1)),(17,[.aQ true false (.t109 o.1) (.t4 o.2.1)]),(19,[I p1_4,I p1_5,.vw false 1030 3 1 p1_6,.vw false 1034 3 1 p1_7,.vw false 1038 3 1 p1_8,.vw false 1042 3 1 p1_9,.mp 17]),(1030,[.aX (.t3 o.2.2.1)]),(1034,[.aX (.t3 o.2.2.2.1)]),(1038,[.aX (.t3 p1_12)]),(1042,[.aX (.t3 o.2.2.2.2)])]
def O8 [An A A4k](L:Nat)(p1_10:List Int)(p1_0:Ap)(p1_11:List Int)(p1_13:List Int)(o24:Nat×Int×List Ah×List Bool):A:=
 (sl o24.1 [(lf (o24.2.2.1,o24.2.2.2,(p1_10.set (Int.toNat p1_0.aI) (Bs ((gD p1_10 p1_0.aI)+(-1)))),p1_11,p1_13))])
def O9 [An A A4k](L:Nat)(p1_10:List Int)(p1_11:List Int)(p1_13:List Int)(o25:Nat×Int×List Ah×List Bool):A:=
 (sl o25.1 [(lf (o25.2.2.1,o25.2.2.2,p1_10,p1_11,p1_13))])
def Ph [An A A4k](L:Nat)(p1_10:List Int)(p1_13:List Int)(o26:List Ah×List Bool×List Int):A:=
 (lf (o26.1,o26.2.1,p1_10,o26.2.2,p1_13))
def Ny [An A A4k](L:Nat)(p1_10:List Int)(p1_13:List Int)(o27:List Ah×List Bool×List Int):A:=
 (lf (o27.1,o27.2.1,p1_10,o27.2.2,p1_13))
def Nz [An A A4k](L:Nat)(p1_10:List Int)(p1_13:List Int)(o28:List Ah×List Bool×List Int):A:=
 (lf (o28.1,o28.2.1,p1_10,o28.2.2,p1_13))
def N0 [An A A4k](L:Nat)(p1_10:List Int)(p1_13:List Int)(o29:List Ah×List Bool×List Int):A:=
 (lf (o29.1,o29.2.1,p1_10,o29.2.2,p1_13))
def Pz [An A A4k](L:Nat)(p1_0:Ap)(p1_1:Ap)(p1_2:List Ah)(p1_3:List Bool)(p1_4:Int)(p1_5:Int)(p1_6:Nat)(p1_7:Nat)(p1_8:Nat)(p1_9:Nat)(p1_10:List Int)(p1_11:List Int)(p1_12:List Int)(p1_13:List Int)(nx7:A)(nx8:A)(nx9:A)(nx10:A)(nx11:A)(nx12:A):A:=
 (cn (p1_0.aO == 1)
 (jp (.cn (decide (p1_0.aI>=0))
 (.lf (decide (p1_0.aI<(p1_6:Int))))
 (.lf false)) (λb2=>
 (cn b2
 (gq (0<=p1_0.aI)
 (gq (p1_0.aI<((p1_6:Nat):Int))
 (gq (0<=p1_0.aI)
 (gq (p1_0.aI<((p1_6:Nat):Int))
 (lf (p1_2,p1_3,(p1_10.set (Int.toNat p1_0.aI) (Bs ((gD p1_10 p1_0.aI)+1))),p1_11,p1_13))))))
 (lf (p1_2,p1_3,p1_10,p1_11,p1_13)))))
 (cn (p1_0.aO == 2)
 (jp (.cn (decide (p1_0.aI>=0))
 (.lf (decide (p1_0.aI<(p1_6:Int))))
 (.lf false)) (λb3=>
 (cn b3
 (gq (0<=p1_0.aI)
 (gq (p1_0.aI<((p1_6:Nat):Int))
 (gq (0<=p1_0.aI)
 (gq (p1_0.aI<((p1_6:Nat):Int))
 nx7))))
 nx8)))
 (cn (p1_0.aO == 8)
 (jp (.cn (decide (p1_0.aI>=0))
 (.lf (decide (p1_0.aI<(p1_9:Int))))
 (.lf false)) (λb6=>
 (cn b6
 (gq (0<=p1_0.aI)
 (gq (p1_0.aI<((p1_9:Nat):Int))
 (gq (0<=p1_0.aI)
 (gq (p1_0.aI<((p1_9:Nat):Int))
 (lf (p1_2,p1_3,p1_10,p1_11,(p1_13.set (Int.toNat p1_0.aI) (Bs ((gD p1_13 p1_0.aI)+1)))))))))
 (lf (p1_2,p1_3,p1_10,p1_11,p1_13)))))
 (cn (p1_0.aO == 9)
 (jp (.cn (decide (p1_0.aI>=0))
 (.lf (decide (p1_0.aI<(p1_9:Int))))
 (.lf false)) (λb7=>
 (cn b7
 (gq (0<=p1_0.aI)
 (gq (p1_0.aI<((p1_9:Nat):Int))
 (gq (0<=p1_0.aI)
 (gq (p1_0.aI<((p1_9:Nat):Int))
 (lf (p1_2,p1_3,p1_10,p1_11,(p1_13.set (Int.toNat p1_0.aI) (Bs ((gD p1_13 p1_0.aI)+(-1))))))))))
 (lf (p1_2,p1_3,p1_10,p1_11,p1_13)))))
 (cn (p1_0.aO == 4)
 (cn (p1_0.aO == 4)
 nx9
 (lf (p1_2,p1_3,p1_10,p1_11,p1_13)))
 (cn (p1_0.aO == 6)
 (cn (p1_0.aO == 6)
 nx10
 (lf (p1_2,p1_3,p1_10,p1_11,p1_13)))
 (cn (p1_0.aO == 7)
 (cn (p1_0.aO == 7)
 nx11
 (lf (p1_2,p1_3,p1_10,p1_11,p1_13)))
 (cn (p1_0.aO == 5)
 nx12
 (lf (p1_2,p1_3,p1_10,p1_11,p1_13))))))))))
def Af0 [An A A4k](p1_0:Ap)(p1_1:Ap)(p1_2:List Ah)(p1_3:List Bool)(p1_4:Int)(p1_5:Int)(p1_6:Nat)(p1_7:Nat)(p1_8:Nat)(p1_9:Nat)(p1_10:List Int)(p1_11:List Int)(p1_12:List Int)(p1_13:List Int):A:=Pz L p1_0 p1_1 p1_2 p1_3 p1_4 p1_5 p1_6 p1_7 p1_8 p1_9 p1_10 p1_11 p1_12 p1_13 (bd (El L p1_7 p1_1 p1_4 p1_5 p1_6 p1_8 p1_9 p1_10 p1_0 p1_11 p1_12 p1_13 L 0 p1_2 p1_3) λo24=>O8 L p1_10 p1_0 p1_11 p1_13 o24) (bd (Em L p1_7 p1_1 p1_4 p1_5 p1_6 p1_8 p1_9 p1_10 p1_11 p1_12 p1_13 p1_0 L 0 p1_2 p1_3) λo25=>O9 L p1_10 p1_11 p1_13 o25) (bd (Gm L p1_0 p1_1 p1_2 p1_3 p1_4 p1_5 p1_6 p1_7 p1_8 p1_9 p1_10 p1_11 p1_12 p1_13 p1_0) λo26=>Ph L p1_10 p1_13 o26) (bd (Gm L p1_0 p1_1 p1_2 p1_3 p1_4 p1_5 p1_6 p1_7 p1_8 p1_9 p1_10 p1_11 p1_12 p1_13 p1_0) λo27=>Ny L p1_10 p1_13 o27) (bd (Gm L p1_0 p1_1 p1_2 p1_3 p1_4 p1_5 p1_6 p1_7 p1_8 p1_9 p1_10 p1_11 p1_12 p1_13 p1_0) λo28=>Nz L p1_10 p1_13 o28) (bd (Gm L p1_0 p1_1 p1_2 p1_3 p1_4 p1_5 p1_6 p1_7 p1_8 p1_9 p1_10 p1_11 p1_12 p1_13 p1_0) λo29=>N0 L p1_10 p1_13 o29)
def H1(p1_0:Ap)(p1_1:Ap)(p1_2:List Ah)(p1_3:List Bool)(p1_4:Int)(p1_5:Int)(p1_6:Nat)(p1_7:Nat)(p1_8:Nat)(p1_9:Nat)(p1_10:List Int)(p1_11:List Int)(p1_12:List Int)(p1_13:List Int):Option A4k:=Af0 L p1_0 p1_1 p1_2 p1_3 p1_4 p1_5 p1_6 p1_7 p1_8 p1_9 p1_10 p1_11 p1_12 p1_13
theorem B11(p1_0:Ap)(p1_1:Ap)(p1_2:List Ah)(p1_3:List Bool)(p1_4:Int)(p1_5:Int)(p1_6:Nat)(p1_7:Nat)(p1_8:Nat)(p1_9:Nat)(p1_10:List Int)(p1_11:List Int)(p1_12:List Int)(p1_13:List Int):YO (O22 L) L 9 41 [.loc 19 0,.agg (B4 p1_0)] [(8,zq2),(11,(B4 p1_1)),(17,[.aQ true false (.t109 p1_2) (.t4 p1_3)]),(19,[I p1_4,I p1_5,.vw false 1030 3 1 p1_6,.vw false 1034 3 1 p1_7,.vw false 1038 3 1 p1_8,.vw false 1042 3 1 p1_9,.mp 17]),(1030,[.aX (.t3 p1_10)]),(1034,[.aX (.t3 p1_11)]),(1038,[.aX (.t3 p1_12)]),(1042,[.aX (.t3 p1_13)])] k=ob (H1 L p1_0 p1_1 p1_2 p1_3 p1_4 p1_5 p1_6 p1_7 p1_8 p1_9 p1_10 p1_11 p1_12 p1_13) (Bz2 p1_0 p1_1 p1_2 p1_3 p1_4 p1_5 p1_6 p1_7 p1_8 p1_9 p1_10 p1_11 p1_12 p1_13 k):=(C4 _ _ _ jn4 _ _ _ _ _ _ _).trans (eE (Pz L p1_0 p1_1 p1_2 p1_3 p1_4 p1_5 p1_6 p1_7 p1_8 p1_9 p1_10 p1_11 p1_12 p1_13 (hq (B2v L (KA (O22 L) L 9 c41 (rl [4,1,5,1,4,1]) (KJ Tryz.f41 k)) p1_7 p1_1 p1_4 p1_5 p1_6 p1_8 p1_9 p1_10 p1_0 p1_11 p1_12 p1_13 L (0,p1_2,p1_3)) λo24=>O8 L p1_10 p1_0 p1_11 p1_13 o24) (hq (B2w L (KA (O22 L) L 9 c41 (rl [4,1,5,1,4,1]) (KJ Tryz.f41 k)) p1_7 p1_1 p1_4 p1_5 p1_6 p1_8 p1_9 p1_10 p1_11 p1_12 p1_13 p1_0 L (0,p1_2,p1_3)) λo25=>O9 L p1_10 p1_11 p1_13 o25) (hq (Bbf L (Mx (O22 L) L 8 0 3 c41.w.l.x.w.u.l ⟨[(71,.agg (B4 p1_0)),(70,.loc 19 0),Bm8,Bm6,(65,B (p1_0.aO == 4))],[(8,zq2),(11,(B4 p1_1)),(17,[.aQ true false (.t109 p1_2) (.t4 p1_3)]),(19,[I p1_4,I p1_5,.vw false 1030 3 1 p1_6,.vw false 1034 3 1 p1_7,.vw false 1038 3 1 p1_8,.vw false 1042 3 1 p1_9,.mp 17]),(1030,[.aX (.t3 p1_10)]),(1034,[.aX (.t3 p1_11)]),(1038,[.aX (.t3 p1_12)]),(1042,[.aX (.t3 p1_13)]),(2046,(B4 p1_0))],2043⟩ (some 72) (kN (KA (O22 L) L 9 c41 (rl [4,1,14,1]) (KJ Tryz.f41 k)))) p1_0 p1_1 p1_2 p1_3 p1_4 p1_5 p1_6 p1_7 p1_8 p1_9 p1_10 p1_11 p1_12 p1_13 p1_0) λo26=>Ph L p1_10 p1_13 o26) (hq (Bbf L (Mx (O22 L) L 8 0 3 c41.w.l.x.w.u.l ⟨[(71,.agg (B4 p1_0)),(70,.loc 19 0),Bm8,Bm6,(65,B (p1_0.aO == 6))],[(8,zq2),(11,(B4 p1_1)),(17,[.aQ true false (.t109 p1_2) (.t4 p1_3)]),(19,[I p1_4,I p1_5,.vw false 1030 3 1 p1_6,.vw false 1034 3 1 p1_7,.vw false 1038 3 1 p1_8,.vw false 1042 3 1 p1_9,.mp 17]),(1030,[.aX (.t3 p1_10)]),(1034,[.aX (.t3 p1_11)]),(1038,[.aX (.t3 p1_12)]),(1042,[.aX (.t3 p1_13)]),(2046,(B4 p1_0))],2043⟩ (some 72) (kN (KA (O22 L) L 9 c41 (rl [4,1,14,1]) (KJ Tryz.f41 k)))) p1_0 p1_1 p1_2 p1_3 p1_4 p1_5 p1_6 p1_7 p1_8 p1_9 p1_10 p1_11 p1_12 p1_13 p1_0) λo27=>Ny L p1_10 p1_13 o27) (hq (Bbf L (Mx (O22 L) L 8 0 3 c41.w.l.x.w.u.l ⟨[(71,.agg (B4 p1_0)),(70,.loc 19 0),Bm8,Bm6,(65,B (p1_0.aO == 7))],[(8,zq2),(11,(B4 p1_1)),(17,[.aQ true false (.t109 p1_2) (.t4 p1_3)]),(19,[I p1_4,I p1_5,.vw false 1030 3 1 p1_6,.vw false 1034 3 1 p1_7,.vw false 1038 3 1 p1_8,.vw false 1042 3 1 p1_9,.mp 17]),(1030,[.aX (.t3 p1_10)]),(1034,[.aX (.t3 p1_11)]),(1038,[.aX (.t3 p1_12)]),(1042,[.aX (.t3 p1_13)]),(2046,(B4 p1_0))],2043⟩ (some 72) (kN (KA (O22 L) L 9 c41 (rl [4,1,14,1]) (KJ Tryz.f41 k)))) p1_0 p1_1 p1_2 p1_3 p1_4 p1_5 p1_6 p1_7 p1_8 p1_9 p1_10 p1_11 p1_12 p1_13 p1_0) λo28=>Nz L p1_10 p1_13 o28) (hq (Bbf L (Mx (O22 L) L 8 0 3 c41.w.l.x.w.u.l ⟨[(71,.agg (B4 p1_0)),(70,.loc 19 0),Bm8,Bm6,(65,B (p1_0.aO == 5))],[(8,zq2),(11,(B4 p1_1)),(17,[.aQ true false (.t109 p1_2) (.t4 p1_3)]),(19,[I p1_4,I p1_5,.vw false 1030 3 1 p1_6,.vw false 1034 3 1 p1_7,.vw false 1038 3 1 p1_8,.vw false 1042 3 1 p1_9,.mp 17]),(1030,[.aX (.t3 p1_10)]),(1034,[.aX (.t3 p1_11)]),(1038,[.aX (.t3 p1_12)]),(1042,[.aX (.t3 p1_13)]),(2046,(B4 p1_0))],2043⟩ (some 72) (kN (KA (O22 L) L 9 c41 (rl [4,1,14,1]) (KJ Tryz.f41 k)))) p1_0 p1_1 p1_2 p1_3 p1_4 p1_5 p1_6 p1_7 p1_8 p1_9 p1_10 p1_11 p1_12 p1_13 p1_0) λo29=>N0 L p1_10 p1_13 o29)))
def B4u(a2:Int)(a3:Int)(a1:List Ap)(a0:Ac)(v:Tu8):St:=⟨[(0,.any),(1,.any),(2,I a2),(3,I a3),(4,.any),Bdc,(9,.loc 19 0),Bdf,(19,.any),(20,lv (.t46 a1)),(21,I (a1.length:Int)),(22,I v.1)],[(8,zq2),(17,[.aQ true false (.t109 v.2.1) (.t4 v.2.2.1)]),(19,[I a3,I a2,.vw false 1030 3 1 (Int.toNat ((gD a0.aA a2).aD.length:Int)),.vw false 1034 3 1 (Int.toNat ((gD a0.aA a2).aL.aG.length:Int)),.vw false 1038 3 1 (Int.toNat ((gD a0.aA a2).aL.aG.length:Int)),.vw false 1042 3 1 (Int.toNat ((gD a0.aA a2).aL.aM.length:Int)),.mp 17]),(1030,[.aX (.t3 v.2.2.2.1)]),(1034,[.aX (.t3 v.2.2.2.2.1)]),(1038,[.aX (.t3 (List.replicate (Int.toNat ((gD a0.aA a2).aL.aG.length:Int)) 0))]),(1042,[.aX (.t3 v.2.2.2.2.2)])],0⟩
def N1 [An A (Nat×Tu8)](L:Nat)(Bj:Int)(rec:Int->List Ah->List Bool->List Int->List Int->List Int->A)(o30:A4k):A:=
 (rec (Bs (Bj+1)) o30.1 o30.2.1 o30.2.2.1 o30.2.2.2.1 o30.2.2.2.2)
def N3 [An A (Nat×Tu8)](L:Nat)(a2:Int)(a3:Int)(a1:List Ap)(a0:Ac)(rec:Int->List Ah->List Bool->List Int->List Int->List Int->A)(Bj:Int)(Pv:List Ah)(Pw:List Bool)(Px:List Int)(D3:List Int)(Py:List Int)(nx13:Int->(List Ah)->(List Bool)->(List Int)->(List Int)->(List Int)->Bool->A):A:=
 (lw Bj a1
 (jp (.cn ((gD a1 Bj).bT == a2)
 (.lf (decide ((gD a1 Bj).Time<=a3)))
 (.lf false)) (λb1=>
 (cn b1
 (nx13 Bj Pv Pw Px D3 Py b1)
 (rec (Bs (Bj+1)) Pv Pw Px D3 Py))))
 (lf (0,Bj,Pv,Pw,Px,D3,Py)))
def Vs [An A (Nat×Tu8)](a2:Int)(a3:Int)(a1:List Ap)(a0:Ac)(rec:Int->List Ah->List Bool->List Int->List Int->List Int->A)(Bj:Int)(Pv:List Ah)(Pw:List Bool)(Px:List Int)(D3:List Int)(Py:List Int):A:=N3 L a2 a3 a1 a0 rec Bj Pv Pw Px D3 Py (λBj Pv Pw Px D3 Py b1=>bd (H1 L (gD a1 Bj) (gD a1 Bj) Pv Pw a3 a2 (Int.toNat ((gD a0.aA a2).aD.length:Int)) (Int.toNat ((gD a0.aA a2).aL.aG.length:Int)) (Int.toNat ((gD a0.aA a2).aL.aG.length:Int)) (Int.toNat ((gD a0.aA a2).aL.aM.length:Int)) Px D3 (List.replicate (Int.toNat ((gD a0.aA a2).aL.aG.length:Int)) 0) Py) λo30=>N1 L Bj rec o30)
def Gp(L:Nat)(a2:Int)(a3:Int)(a1:List Ap)(a0:Ac):Nat->Int->List Ah->List Bool->List Int->List Int->List Int->Option (Nat×Tu8)
 |0,_,_,_,_,_,_=>none
 |n+1,Bj,Pv,Pw,Px,D3,Py=>Vs L a2 a3 a1 a0 (Gp L a2 a3 a1 a0 n) Bj Pv Pw Px D3 Py
theorem B2u(a2:Int)(a3:Int)(a1:List Ap)(a0:Ac):LP (EV (O22 L) L 9 c22.w.l.u.l.l) [0,1,2,3,4,8,9,12,19,20,21,22] [8,17,19,1030,1034,1038,1042] (B4u a2 a3 a1 a0) [.exit 0] (λn v=>Gp L a2 a3 a1 a0 n v.1 v.2.1 v.2.2.1 v.2.2.2.1 v.2.2.2.2.1 v.2.2.2.2.2) K:=lE (λ_=>rfl) λn v ih=>eE (N3 L a2 a3 a1 a0 (λBj Pv Pw Px D3 Py=>re (ih (Bj,Pv,Pw,Px,D3,Py))) v.1 v.2.1 v.2.2.1 v.2.2.2.1 v.2.2.2.2.1 v.2.2.2.2.2 (λBj Pv Pw Px D3 Py b1=>hq (B11 L (Mx (O22 L) L 9 0 3 c22.w.l.u.l.l.w.l.l.w.l ⟨[(37,.agg (B4 (gD a1 Bj))),(36,.loc 19 0),(2,I a2),(3,I a3),Bdc,(9,.loc 19 0),(11,.loc 11 0),(20,lv (.t46 a1)),(21,I (a1.length:Int)),(22,I Bj),(23,B (decide (Bj<(a1.length:Int)))),(24,.ref (B4 (gD a1 Bj))),(25,.agg (B4 (gD a1 Bj))),(26,.loc 11 1),(27,I (gD a1 Bj).bT),(28,I a2),(29,B ((gD a1 Bj).bT == a2)),(30,B ((gD a1 Bj).bT == a2)),(35,B b1)],[(8,zq2),(11,(B4 (gD a1 Bj))),(17,[.aQ true false (.t109 Pv) (.t4 Pw)]),(19,[I a3,I a2,.vw false 1030 3 1 (Int.toNat ((gD a0.aA a2).aD.length:Int)),.vw false 1034 3 1 (Int.toNat ((gD a0.aA a2).aL.aG.length:Int)),.vw false 1038 3 1 (Int.toNat ((gD a0.aA a2).aL.aG.length:Int)),.vw false 1042 3 1 (Int.toNat ((gD a0.aA a2).aL.aM.length:Int)),.mp 17]),(1030,[.aX (.t3 Px)]),(1034,[.aX (.t3 D3)]),(1038,[.aX (.t3 (List.replicate (Int.toNat ((gD a0.aA a2).aL.aG.length:Int)) 0))]),(1042,[.aX (.t3 Py)])],0⟩ (some 38) (kN (KA (O22 L) L 9 c22.w.l.u.l.l (rl [4,2,4,1]) (Hm (I2 (EV (O22 L) L 9 c22.w.l.u.l.l) [0,1,2,3,4,8,9,12,19,20,21,22] [8,17,19,1030,1034,1038,1042] n) [0,1,2,3,4,8,9,12,19,20,21,22] [8,17,19,1030,1034,1038,1042] K)))) (gD a1 Bj) (gD a1 Bj) Pv Pw a3 a2 (Int.toNat ((gD a0.aA a2).aD.length:Int)) (Int.toNat ((gD a0.aA a2).aL.aG.length:Int)) (Int.toNat ((gD a0.aA a2).aL.aG.length:Int)) (Int.toNat ((gD a0.aA a2).aL.aM.length:Int)) Px D3 (List.replicate (Int.toNat ((gD a0.aA a2).aL.aG.length:Int)) 0) Py) λo30=>N1 L Bj (λBj Pv Pw Px D3 Py=>re (ih (Bj,Pv,Pw,Px,D3,Py))) o30))
def Bp4(o31:Nat×Tu8)(a3:Int)(a2:Int)(a0:Ac)(v:List Int):St:=⟨[(0,.any),(1,.any),(2,.any),(3,.any),(4,.any),Bdc,(9,.loc 19 0),A8s,(19,.any),(22,.any),(44,.any)],[(8,zq2),(17,[.aQ true false (.t109 o31.2.2.1) (.t4 o31.2.2.2.1)]),(19,[I a3,I a2,.vw false 1030 3 1 (Int.toNat ((gD a0.aA a2).aD.length:Int)),.vw false 1034 3 1 (Int.toNat ((gD a0.aA a2).aL.aG.length:Int)),.vw false 1038 3 1 (Int.toNat ((gD a0.aA a2).aL.aG.length:Int)),.vw false 1042 3 1 (Int.toNat ((gD a0.aA a2).aL.aM.length:Int)),.mp 17]),(1030,[.aX (.t3 o31.2.2.2.2.1)]),(1034,[.aX (.t3 o31.2.2.2.2.2.1)]),(1038,[.aX (.t3 v)]),(1042,[.aX (.t3 o31.2.2.2.2.2.2)])],0⟩
def Bon(o31:Nat×Tu8)(a3:Int)(a2:Int)(a0:Ac)(es:Array MapEntry)(clock r:Nat)(v:List Int):St:=⟨[(0,.any),(1,.any),(2,.any),(3,.any),(4,.any),Bdc,(9,.loc 19 0),A8s,(19,.any),(22,.any),(44,.val (Value.pointer (some ⟨r,0,none⟩)))],[(8,zq2),(17,[.dH es clock true false (.t109 o31.2.2.1) (.t4 o31.2.2.2.1)]),(19,[I a3,I a2,.vw false 1030 3 1 (Int.toNat ((gD a0.aA a2).aD.length:Int)),.vw false 1034 3 1 (Int.toNat ((gD a0.aA a2).aL.aG.length:Int)),.vw false 1038 3 1 (Int.toNat ((gD a0.aA a2).aL.aG.length:Int)),.vw false 1042 3 1 (Int.toNat ((gD a0.aA a2).aL.aM.length:Int)),.mp 17]),(1030,[.aX (.t3 o31.2.2.2.2.1)]),(1034,[.aX (.t3 o31.2.2.2.2.2.1)]),(1038,[.aX (.t3 v)]),(1042,[.aX (.t3 o31.2.2.2.2.2.2)])],2043⟩
def Dk [An A (List Int)](L:Nat)(o31:Nat×Tu8)(a3:Int)(a2:Int)(a0:Ac)(i0:Nat)(v:List Int):A:=
 (jp (.cn (decide ((o31.2.2.1.getD i0 default).aK>=0))
 (.lf (decide ((o31.2.2.1.getD i0 default).aK<((Int.toNat ((gD a0.aA a2).aL.aG.length:Int)):Int))))
 (.lf false)) (λb32=>
 (cn b32
 (gq (0<=(o31.2.2.1.getD i0 default).aK)
 (gq ((o31.2.2.1.getD i0 default).aK<(((Int.toNat ((gD a0.aA a2).aL.aG.length:Int)):Nat):Int))
 (gq (0<=(o31.2.2.1.getD i0 default).aK)
 (gq ((o31.2.2.1.getD i0 default).aK<(((Int.toNat ((gD a0.aA a2).aL.aG.length:Int)):Nat):Int))
 (lf (v.set (Int.toNat ((o31.2.2.1.getD i0 default).aK)) (Bs ((gD v ((o31.2.2.1.getD i0 default).aK))+1))))))))
 (lf v))))
def Awn(x m:Int)(v:List Int):List Int:=if 0<=x/\x<m then v.set (Int.toNat x) (Bs (gD v x+1))else v
theorem A8y(x y m:Int)(v:List Int):Awn x m (Awn y m v)=Awn y m (Awn x m v):=by
 unfold Awn gD;by_cases h1:0<=x/\x<m<;>by_cases h2:0<=y/\y<m<;>simp only[h1,h2,if_true,if_false,and_self]
 by_cases e:x.toNat=y.toNat
 ·rw[e]
 ·have g:∀(p q:Nat) (z:Int),p≠q->(v.set p z).getD q default=v.getD q default:=λp q z h=>by
   simp[List.getD,List.getElem?_set_ne h]
  rw[g _ _ _ e,g _ _ _ (λh=>e h.symm),List.set_comm _ _ e]
theorem Bpu(o31:Nat×Tu8)(a3:Int)(a2:Int)(a0:Ac)(i:Nat)(v:List Int):(Dk L o31 a3 a2 a0 i v:Option _)=some (Awn ((o31.2.2.1.getD i default).aK) ((Int.toNat ((gD a0.aA a2).aL.aG.length:Int):Nat):Int) v):=by
 unfold Dk Awn;rw[B1c];by_cases h1:(0:Int)<=(o31.2.2.1.getD i default).aK<;>by_cases h2:(o31.2.2.1.getD i default).aK<((Int.toNat ((gD a0.aA a2).aL.aG.length:Int):Nat):Int)<;>simp only[BT.v,B1a,B1b,B1d,ge_iff_le,h1,h2,decide_true,decide_false,cond_true,cond_false,if_true,if_false,and_self,and_false,false_and,true_and]
theorem Aqr(o31:Nat×Tu8)(a3:Int)(a2:Int)(a0:Ac)(i j:Nat)(v:List Int)(hi:i<o31.2.2.1.length)(hj:j<o31.2.2.1.length):((Dk L o31 a3 a2 a0 i v:Option _).bind λv=>Dk L o31 a3 a2 a0 j v)=(Dk L o31 a3 a2 a0 j v:Option _).bind λv=>Dk L o31 a3 a2 a0 i v:=by
 simp only[Bpu,Option.bind_some,A8y]
def Vu(o31:Nat×Tu8)(a3:Int)(a2:Int)(a0:Ac)(n:Nat)(v:List Int):Option (List Int):=if o31.2.2.1.length<n then Ai7 (λi0 v=>Dk L o31 a3 a2 a0 i0 v) (List.range o31.2.2.1.length) v else none
theorem B2x(o31:Nat×Tu8)(a3:Int)(a2:Int)(a0:Ac)(v:List Int)(st:St)(h0:∀es clock r,Bw5 st 17 44 [.dH es clock true false (.t109 o31.2.2.1) (.t4 o31.2.2.2.1)] (.val (.pointer (some ⟨r,0,none⟩))) [0,1,2,3,4,8,9,11,19,22,44]=Bon o31 a3 a2 a0 es clock r v)(hl:Cu st= [8,17,19,1030,1034,1038,1042])(hbs:st.base=0):B4g (rgF Tryz.prog (O22 L) (EI (O22 L) L 9) L c22.w.u.l) 3 17 true false (.t109 o31.2.2.1) (.t4 o31.2.2.2.1) 44 45 46 47 [0,1,2,3,4,8,9,11,19,22,44] L st (λst9=>K .normal st9)=ob (Vu L o31 a3 a2 a0 L v) (kR (Bp4 o31 a3 a2 a0) K):=
 Bw6 (Bp4 o31 a3 a2 a0) (Bon o31 a3 a2 a0) (λi0 v=>Dk L o31 a3 a2 a0 i0 v) v h0 hl hbs (λes clock r i0 v G=>eE (Dk L o31 a3 a2 a0 i0 v)) (λes clock r v=>by kernel_rfl) (Aqr L o31 a3 a2 a0)
def Tz [An A Ao](L:Nat)(a3:Int)(a2:Int)(o31:Nat×Tu8)(o33:List Int):A:=
 (lf (⟨a3,a2,o31.2.2.2.2.1,o31.2.2.2.2.2.1,o33,o31.2.2.2.2.2.2⟩:Ao))
def T2 [An A Ao](L:Nat)(a3:Int)(a2:Int)(a0:Ac)(o31:Nat×Tu8)(nx15:(Nat×Tu8)->A):A:=
 (sl o31.1 [(nx15 o31)])
def Acq [An A Ao](a3:Int)(a2:Int)(a0:Ac)(o31:Nat×Tu8):A:=T2 L a3 a2 a0 o31 (λo31=>bd (Vu L o31 a3 a2 a0 L (List.replicate (Int.toNat ((gD a0.aA a2).aL.aG.length:Int)) 0)) λo33=>Tz L a3 a2 o31 o33)
def T1 [An A Ao](L:Nat)(a0:Ac)(a1:List Ap)(a2:Int)(a3:Int)(nx14:A):A:=
 (gi a2 a0.aA
 (gq (0<=((gD a0.aA a2).aD.length:Int))
 (gq (((gD a0.aA a2).aD.length:Int)*((8:Nat):Int)<=140737488355328)
 (gq (((gD a0.aA a2).aD.length:Int)<=9223372036854775807)
 (gq (0<=((gD a0.aA a2).aL.aG.length:Int))
 (gq (((gD a0.aA a2).aL.aG.length:Int)*((8:Nat):Int)<=140737488355328)
 (gq (((gD a0.aA a2).aL.aG.length:Int)<=9223372036854775807)
 (gq (0<=((gD a0.aA a2).aL.aG.length:Int))
 (gq (((gD a0.aA a2).aL.aG.length:Int)*((8:Nat):Int)<=140737488355328)
 (gq (((gD a0.aA a2).aL.aG.length:Int)<=9223372036854775807)
 (gq (0<=((gD a0.aA a2).aL.aM.length:Int))
 (gq (((gD a0.aA a2).aL.aM.length:Int)*((8:Nat):Int)<=140737488355328)
 (gq (((gD a0.aA a2).aL.aM.length:Int)<=9223372036854775807)
 nx14)))))))))))))
def Akf [An A Ao](a0:Ac)(a1:List Ap)(a2:Int)(a3:Int):A:=T1 L a0 a1 a2 a3 (bd (Gp L a2 a3 a1 a0 L 0 [] [] (List.replicate (Int.toNat ((gD a0.aA a2).aD.length:Int)) 0) (List.replicate (Int.toNat ((gD a0.aA a2).aL.aG.length:Int)) 0) (List.replicate (Int.toNat ((gD a0.aA a2).aL.aM.length:Int)) 0)) λo31=>Acq L a3 a2 a0 o31)
def Ic(a0:Ac)(a1:List Ap)(a2:Int)(a3:Int):Option Ao:=Akf L a0 a1 a2 a3
def X22:F6:=E4 (λ(x:Ao)=>.agg (Ma x)) 22 B7 Blp (cI .i64) (cI .i64) (Ic L) λa0 a1 a2 a3 r h=>hF Tryz.func22 (C:=O22 L) (oS _) L (λkk=>eE (T1 L a0 a1 a2 a3 (hq (B2u L (KA (O22 L) L 9 c22 (rl [4,1,2,1]) (KE Tryz.f22 kk)) a2 a3 a1 a0 L (0,[],[],(List.replicate (Int.toNat ((gD a0.aA a2).aD.length:Int)) 0),(List.replicate (Int.toNat ((gD a0.aA a2).aL.aG.length:Int)) 0),(List.replicate (Int.toNat ((gD a0.aA a2).aL.aM.length:Int)) 0))) λo31=>T2 L a3 a2 a0 o31 (λo31=>hq (B2x L (KA (O22 L) L 9 c22 (rl [6,1]) (KE Tryz.f22 kk)) o31 a3 a2 a0 (List.replicate (Int.toNat ((gD a0.aA a2).aL.aG.length:Int)) 0) (⟨[(43,.mp 17),(42,.loc 19 6),(41,.loc 19 0),(40,.loc 19 0),Bdc,(9,.loc 19 0)],[(8,zq2),(17,[.aQ true false (.t109 o31.2.2.1) (.t4 o31.2.2.2.1)]),(19,[I a3,I a2,.vw false 1030 3 1 (Int.toNat ((gD a0.aA a2).aD.length:Int)),.vw false 1034 3 1 (Int.toNat ((gD a0.aA a2).aL.aG.length:Int)),.vw false 1038 3 1 (Int.toNat ((gD a0.aA a2).aL.aG.length:Int)),.vw false 1042 3 1 (Int.toNat ((gD a0.aA a2).aL.aM.length:Int)),.mp 17]),(1030,[.aX (.t3 o31.2.2.2.2.1)]),(1034,[.aX (.t3 o31.2.2.2.2.2.1)]),(1038,[.aX (.t3 (List.replicate (Int.toNat ((gD a0.aA a2).aL.aG.length:Int)) 0))]),(1042,[.aX (.t3 o31.2.2.2.2.2.2)])],0⟩:St) (λ_ _ _=>by kernel_rfl) (by kernel_rfl) (by kernel_rfl)) λo33=>Tz L a3 a2 o31 o33)))) h
def Aou [An A (Ao×Int)](a0:Ac)(a1:List Ap)(a2:Int)(a3:Int):A:=
 (bd (Sj L (⟨a0.aF,a0.aA,a0.aH⟩:Ac)) λr1=>
 (cn (r1 != 0)
 (lf ((⟨0,0,[],[],[],[]⟩:Ao),r1))
 (bd (P5 L (⟨a0.aF,a0.aA,a0.aH⟩:Ac) a2 a3) λr2=>
 (cn r2
 (lf ((⟨0,0,[],[],[],[]⟩:Ao),2))
 (bd (Ic L (⟨a0.aF,a0.aA,a0.aH⟩:Ac) a1 a2 a3) λr3=>
 (lf (r3,0)))))))
def Oo(a0:Ac)(a1:List Ap)(a2:Int)(a3:Int):Option (Ao×Int):=Aou L a0 a1 a2 a3
def X8:F6:=E4 (λ(x:Ao×Int)=>.cK [.agg (Ma x.1),I x.2]) 8 B7 Blp (cI .i64) (cI .i64) (Oo L) λa0 a1 a2 a3 r h=>hF Tryz.func8 (oS [X20 L,X21 L,X22 L]) L (λkk=>eE (Aou L a0 a1 a2 a3)) h
end
end Go.Proofs.YthjhkpgonleelaaGreatDoor.Ev
