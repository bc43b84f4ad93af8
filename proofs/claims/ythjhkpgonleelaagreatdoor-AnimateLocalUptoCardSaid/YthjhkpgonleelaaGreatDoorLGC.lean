import Derived.Test.YthjhkpgonleelaaGreatDoorLG10
import Derived.Test.YthjhkpgonleelaaGreatDoorLG6
import Derived.Test.YthjhkpgonleelaaGreatDoorLG7
import Derived.Test.YthjhkpgonleelaaGreatDoorLG1
import Derived.Test.YthjhkpgonleelaaGreatDoorLIA
import Derived.Test.YthjhkpgonleelaaGreatDoorLG15
set_option maxRecDepth 100000
set_option maxHeartbeats 4000000
set_option linter.unusedVariables false
set_option linter.unusedSimpArgs false
set_option linter.unnecessarySimpa false
namespace Go.Proofs.YthjhkpgonleelaaGreatDoor.Ev
open Go An
noncomputable section
variable {A:Type} (L n:Nat) (kk:K5) (K:Ef) (k:Dj)
def c43:=CC Tryz.f43
def c66:=CC Tryz.f66
def c23:=CC Tryz.f23
def O23:Bc:=oL [X67 L]
def B2z(p1_6:List Am)(p1_7:Au)(v:List Am×Int):St:=⟨[(0,lv (.dN p1_6)),(1,I p1_7.bZ),(2,I (-1)),(6,Bhi),(7,.bA true (.dN v.1)),(8,I v.2)],[],1000⟩
def Al8 [An A (Nat×List Am×Int)](L:Nat)(p1_6:List Am)(p1_7:Au)(rec:List Am->Int->A)(T6:List Am)(Azd:Int):A:=
 (lw Azd p1_6
 (cn ((gD p1_6 Azd).dA != p1_7.bZ)
 (nq (gi Azd p1_6
 (gq ((T6.length+ [(gD p1_6 Azd)].length)*16<=140737488355328)
 (gq (T6.length+ [(gD p1_6 Azd)].length<=maxLen)
 (rec (T6++ [(gD p1_6 Azd)]) (Bu (Azd+1)))))))
 (nq (rec T6 (Bu (Azd+1)))))
 (lf (0,T6,Azd)))
def Vo(L:Nat)(p1_6:List Am)(p1_7:Au):Nat->List Am->Int->Option (Nat×List Am×Int)
 |0,_,_=>none
 |n+1,T6,Azd=>Al8 L p1_6 p1_7 (Vo L p1_6 p1_7 n) T6 Azd
theorem Bnk(p1_6:List Am)(p1_7:Au):LP (EV (O23 L) L 7 c66.w.l.u.l.l) [0,1,2,6,7,8] [] (B2z p1_6 p1_7) [.exit 0] (λn v=>Vo L p1_6 p1_7 n v.1 v.2) K:=lE (λ_=>rfl) λn v ih=>eE (Al8 L p1_6 p1_7 (λT6 Azd=>re (ih (T6,Azd))) v.1 v.2)
def B20(p1_6:List Am)(p1_7:Au)(v:List Am×Int):St:=⟨[(0,lv (.dN p1_6)),(1,I p1_7.bZ),(2,I p1_7.aJ),(6,Bhi),(7,.bA true (.dN v.1)),(8,I v.2)],[],1000⟩
def Al9 [An A (Nat×List Am×Int)](L:Nat)(p1_6:List Am)(p1_7:Au)(rec:List Am->Int->A)(Aze:List Am)(Ala:Int):A:=
 (lw Ala p1_6
 (cn ((gD p1_6 Ala).dA != p1_7.bZ)
 (nq (gi Ala p1_6
 (gq ((Aze.length+ [(gD p1_6 Ala)].length)*16<=140737488355328)
 (gq (Aze.length+ [(gD p1_6 Ala)].length<=maxLen)
 (rec (Aze++ [(gD p1_6 Ala)]) (Bu (Ala+1)))))))
 (cn (decide (p1_7.aJ>=0))
 (gi Ala p1_6
 (nq (cn ((gD p1_6 Ala).aR != p1_7.aJ)
 (gi Ala p1_6
 (gq ((Aze.length+ [(gD p1_6 Ala)].length)*16<=140737488355328)
 (gq (Aze.length+ [(gD p1_6 Ala)].length<=maxLen)
 (rec (Aze++ [(gD p1_6 Ala)]) (Bu (Ala+1))))))
 (rec Aze (Bu (Ala+1))))))
 (nq (rec Aze (Bu (Ala+1))))))
 (lf (0,Aze,Ala)))
def Qt(L:Nat)(p1_6:List Am)(p1_7:Au):Nat->List Am->Int->Option (Nat×List Am×Int)
 |0,_,_=>none
 |n+1,Aze,Ala=>Al9 L p1_6 p1_7 (Qt L p1_6 p1_7 n) Aze Ala
theorem Bgc(p1_6:List Am)(p1_7:Au):LP (EV (O23 L) L 7 c66.w.l.u.l.l) [0,1,2,6,7,8] [] (B20 p1_6 p1_7) [.exit 0] (λn v=>Qt L p1_6 p1_7 n v.1 v.2) K:=lE (λ_=>rfl) λn v ih=>eE (Al9 L p1_6 p1_7 (λAze Ala=>re (ih (Aze,Ala))) v.1 v.2)
def Bx5(p1_0:Int)(p1_1:Int)(p1_2:Nat)(p1_3:Nat)(p1_4:Nat)(p1_5:Nat)(p1_6:List Am)(p1_7:Au)(p1_8:Int)(p1_9:Int)(p1_10:Nat)(p1_11:Nat)(p1_12:Nat)(p1_13:Nat)(p1_14:List Int)(p1_15:List Int)(p1_16:List Int)(p1_17:List Int)(k:Dj):A54->Prop:=λo=>k (.bY [.agg [I p1_0,I p1_1,.vw false 29 3 1 p1_2,.vw false 31 3 1 p1_3,.vw false 33 3 1 p1_4,.vw false 38 3 1 p1_5],lv (.dN o.1)]) [(8,zq2),(11,[I p1_8,I p1_9,.vw false 29 3 1 p1_10,.vw false 31 3 1 p1_11,.vw false 33 3 1 p1_12,.vw false 38 3 1 p1_13]),(29,[.aX (.t3 o.2.1)]),(31,[.aX (.t3 o.2.2.1)]),(33,[.aX (.t3 p1_16)]),(38,[.aX (.t3 o.2.2.2)]),(1042,[I p1_0,I p1_1,.vw false 29 3 1 p1_2,.vw false 31 3 1 p1_3,.vw false 33 3 1 p1_4,.vw false 38 3 1 p1_5]),(1044,(B4 p1_7)),(1045,[I p1_0,I p1_1,.vw false 29 3 1 p1_2,.vw false 31 3 1 p1_3,.vw false 33 3 1 p1_4,.vw false 38 3 1 p1_5])]
def Amf [An A A54](L:Nat)(p1_14:List Int)(p1_7:Au)(p1_15:List Int)(p1_17:List Int)(o11:Nat×List Am×Int):A:=
 (sl o11.1 [(lf (o11.2.1,(p1_14.set (Int.toNat p1_7.aJ) (Bu ((gD p1_14 p1_7.aJ)-1))),p1_15,p1_17))])
def Amg [An A A54](L:Nat)(p1_14:List Int)(p1_15:List Int)(p1_17:List Int)(o12:Nat×List Am×Int):A:=
 (sl o12.1 [(lf (o12.2.1,p1_14,p1_15,p1_17))])
def Amh [An A A54](L:Nat)(p1_14:List Int)(p1_15:List Int)(p1_7:Au)(p1_17:List Int)(o13:Nat×List Am×Int):A:=
 (sl o13.1 [(lf (o13.2.1,p1_14,(p1_15.set (Int.toNat p1_7.aJ) (Bu ((gD p1_15 p1_7.aJ)+p1_7.Value))),p1_17))])
def Ami [An A A54](L:Nat)(p1_7:Au)(p1_14:List Int)(p1_15:List Int)(p1_17:List Int)(o14:Nat×List Am×Int):A:=
 (sl o14.1 [(gq ((o14.2.1.length+ [(⟨p1_7.bZ,p1_7.aJ⟩:Am)].length)*16<=140737488355328)
 (gq (o14.2.1.length+ [(⟨p1_7.bZ,p1_7.aJ⟩:Am)].length<=maxLen)
 (lf ((o14.2.1++ [(⟨p1_7.bZ,p1_7.aJ⟩:Am)]),p1_14,p1_15,p1_17))))])
def Ajo [An A A54](L:Nat)(p1_7:Au)(p1_14:List Int)(p1_15:List Int)(p1_17:List Int)(o15:Nat×List Am×Int):A:=
 (sl o15.1 [(gq ((o15.2.1.length+ [(⟨p1_7.bZ,p1_7.aJ⟩:Am)].length)*16<=140737488355328)
 (gq (o15.2.1.length+ [(⟨p1_7.bZ,p1_7.aJ⟩:Am)].length<=maxLen)
 (lf ((o15.2.1++ [(⟨p1_7.bZ,p1_7.aJ⟩:Am)]),p1_14,(p1_15.set (Int.toNat p1_7.aJ) (Bu ((gD p1_15 p1_7.aJ)-p1_7.Value))),p1_17))))])
def Am0 [An A A54](p1_0:Int)(p1_1:Int)(p1_2:Nat)(p1_3:Nat)(p1_4:Nat)(p1_5:Nat)(p1_6:List Am)(p1_7:Au)(p1_8:Int)(p1_9:Int)(p1_10:Nat)(p1_11:Nat)(p1_12:Nat)(p1_13:Nat)(p1_14:List Int)(p1_15:List Int)(p1_16:List Int)(p1_17:List Int)(nx6:A)(nx7:A)(nx8:A)(nx9:Bool->A)(nx10:A):A:=
 (jp (.cn (decide (p1_7.aJ>=0))
 (.lf (decide (p1_7.aJ<(p1_2:Int))))
 (.lf false)) (λb2=>
 (jp (.cn (decide (p1_7.aJ>=0))
 (.lf (decide (p1_7.aJ<(p1_3:Int))))
 (.lf false)) (λb3=>
 (jp (.cn (decide (p1_7.aJ>=0))
 (.lf (decide (p1_7.aJ<(p1_5:Int))))
 (.lf false)) (λb4=>
 (cn (p1_7.aQ == 1)
 (cn b2
 (gq (0<=p1_7.aJ)
 (gq (p1_7.aJ<((p1_2:Nat):Int))
 (gq (0<=p1_7.aJ)
 (gq (p1_7.aJ<((p1_2:Nat):Int))
 (lf (p1_6,(p1_14.set (Int.toNat p1_7.aJ) (Bu ((gD p1_14 p1_7.aJ)+1))),p1_15,p1_17))))))
 (lf (p1_6,p1_14,p1_15,p1_17)))
 (cn (p1_7.aQ == 2)
 (cn b2
 (gq (0<=p1_7.aJ)
 (gq (p1_7.aJ<((p1_2:Nat):Int))
 (gq (0<=p1_7.aJ)
 (gq (p1_7.aJ<((p1_2:Nat):Int))
 nx6))))
 nx7)
 (cn (p1_7.aQ == 4)
 (jb (.cn b3
 (.bd (Aiy L p1_7.Value) λr6=>
 (.lf r6))
 (.lf false)) (λb5=>
 (cn b5
 (gq (0<=p1_7.aJ)
 (gq (p1_7.aJ<((p1_3:Nat):Int))
 (gq (0<=p1_7.aJ)
 (gq (p1_7.aJ<((p1_3:Nat):Int))
 nx8))))
 (lf (p1_6,p1_14,p1_15,p1_17)))))
 (cn (p1_7.aQ == 5)
 (cn b3
 (nx9 b3)
 (lf (p1_6,p1_14,p1_15,p1_17)))
 (cn (p1_7.aQ == 6)
 (jb (.cn b3
 (.bd (Aiy L p1_7.Value) λr8=>
 (.lf r8))
 (.lf false)) (λb7=>
 (cn b7
 (gq (0<=p1_7.aJ)
 (gq (p1_7.aJ<((p1_3:Nat):Int))
 (gq (0<=p1_7.aJ)
 (gq (p1_7.aJ<((p1_3:Nat):Int))
 (lf (p1_6,p1_14,(p1_15.set (Int.toNat p1_7.aJ) (Bu ((gD p1_15 p1_7.aJ)-p1_7.Value))),p1_17))))))
 (lf (p1_6,p1_14,p1_15,p1_17)))))
 (cn (p1_7.aQ == 7)
 (jb (.cn b3
 (.bd (Aiy L p1_7.Value) λr10=>
 (.lf r10))
 (.lf false)) (λb9=>
 (cn b9
 (gq (0<=p1_7.aJ)
 (gq (p1_7.aJ<((p1_3:Nat):Int))
 (gq (0<=p1_7.aJ)
 (gq (p1_7.aJ<((p1_3:Nat):Int))
 nx10))))
 (lf (p1_6,p1_14,p1_15,p1_17)))))
 (cn (p1_7.aQ == 8)
 (cn b4
 (gq (0<=p1_7.aJ)
 (gq (p1_7.aJ<((p1_5:Nat):Int))
 (gq (0<=p1_7.aJ)
 (gq (p1_7.aJ<((p1_5:Nat):Int))
 (lf (p1_6,p1_14,p1_15,(p1_17.set (Int.toNat p1_7.aJ) (Bu ((gD p1_17 p1_7.aJ)+1)))))))))
 (lf (p1_6,p1_14,p1_15,p1_17)))
 (cn (p1_7.aQ == 9)
 (cn b4
 (gq (0<=p1_7.aJ)
 (gq (p1_7.aJ<((p1_5:Nat):Int))
 (gq (0<=p1_7.aJ)
 (gq (p1_7.aJ<((p1_5:Nat):Int))
 (lf (p1_6,p1_14,p1_15,(p1_17.set (Int.toNat p1_7.aJ) (Bu ((gD p1_17 p1_7.aJ)-1)))))))))
 (lf (p1_6,p1_14,p1_15,p1_17)))
 (lf (p1_6,p1_14,p1_15,p1_17))))))))))))))))
def Axk [An A A54](p1_0:Int)(p1_1:Int)(p1_2:Nat)(p1_3:Nat)(p1_4:Nat)(p1_5:Nat)(p1_6:List Am)(p1_7:Au)(p1_8:Int)(p1_9:Int)(p1_10:Nat)(p1_11:Nat)(p1_12:Nat)(p1_13:Nat)(p1_14:List Int)(p1_15:List Int)(p1_16:List Int)(p1_17:List Int):A:=Am0 L p1_0 p1_1 p1_2 p1_3 p1_4 p1_5 p1_6 p1_7 p1_8 p1_9 p1_10 p1_11 p1_12 p1_13 p1_14 p1_15 p1_16 p1_17 (bd (Vo L p1_6 p1_7 L [] 0) λo11=>Amf L p1_14 p1_7 p1_15 p1_17 o11) (bd (Vo L p1_6 p1_7 L [] 0) λo12=>Amg L p1_14 p1_15 p1_17 o12) (bd (Qt L p1_6 p1_7 L [] 0) λo13=>Amh L p1_14 p1_15 p1_7 p1_17 o13) (λb3=>bd (Qt L p1_6 p1_7 L [] 0) λo14=>Ami L p1_7 p1_14 p1_15 p1_17 o14) (bd (Qt L p1_6 p1_7 L [] 0) λo15=>Ajo L p1_7 p1_14 p1_15 p1_17 o15)
def Al7(p1_0:Int)(p1_1:Int)(p1_2:Nat)(p1_3:Nat)(p1_4:Nat)(p1_5:Nat)(p1_6:List Am)(p1_7:Au)(p1_8:Int)(p1_9:Int)(p1_10:Nat)(p1_11:Nat)(p1_12:Nat)(p1_13:Nat)(p1_14:List Int)(p1_15:List Int)(p1_16:List Int)(p1_17:List Int):Option A54:=Axk L p1_0 p1_1 p1_2 p1_3 p1_4 p1_5 p1_6 p1_7 p1_8 p1_9 p1_10 p1_11 p1_12 p1_13 p1_14 p1_15 p1_16 p1_17
theorem Bz4(p1_0:Int)(p1_1:Int)(p1_2:Nat)(p1_3:Nat)(p1_4:Nat)(p1_5:Nat)(p1_6:List Am)(p1_7:Au)(p1_8:Int)(p1_9:Int)(p1_10:Nat)(p1_11:Nat)(p1_12:Nat)(p1_13:Nat)(p1_14:List Int)(p1_15:List Int)(p1_16:List Int)(p1_17:List Int):YO (O23 L) L 9 43 [.agg [I p1_0,I p1_1,.vw false 29 3 1 p1_2,.vw false 31 3 1 p1_3,.vw false 33 3 1 p1_4,.vw false 38 3 1 p1_5],lv (.dN p1_6),.agg (B4 p1_7)] [(8,zq2),(11,[I p1_8,I p1_9,.vw false 29 3 1 p1_10,.vw false 31 3 1 p1_11,.vw false 33 3 1 p1_12,.vw false 38 3 1 p1_13]),(29,[.aX (.t3 p1_14)]),(31,[.aX (.t3 p1_15)]),(33,[.aX (.t3 p1_16)]),(38,[.aX (.t3 p1_17)])] k=ob (Al7 L p1_0 p1_1 p1_2 p1_3 p1_4 p1_5 p1_6 p1_7 p1_8 p1_9 p1_10 p1_11 p1_12 p1_13 p1_14 p1_15 p1_16 p1_17) (Bx5 p1_0 p1_1 p1_2 p1_3 p1_4 p1_5 p1_6 p1_7 p1_8 p1_9 p1_10 p1_11 p1_12 p1_13 p1_14 p1_15 p1_16 p1_17 k):=(C4 _ _ _ jn4 _ _ _ _ _ _ _).trans (eE (Am0 L p1_0 p1_1 p1_2 p1_3 p1_4 p1_5 p1_6 p1_7 p1_8 p1_9 p1_10 p1_11 p1_12 p1_13 p1_14 p1_15 p1_16 p1_17 (hq (Bnk L (KA (O23 L) L 7 c66 (rl [4,1,2,1]) (KJ Tryz.f66 (KCQ (O23 L) L 8 1 4 c43.x.l.u.l.w.r.l.u ⟨[(78,I p1_7.bZ),(77,.loc 1044 3),(76,lv (.dN p1_6)),(1,lv (.dN p1_6)),Bpc,Bpd,Bpe,(7,Bhi)],[(8,zq2),(11,[I p1_8,I p1_9,.vw false 29 3 1 p1_10,.vw false 31 3 1 p1_11,.vw false 33 3 1 p1_12,.vw false 38 3 1 p1_13]),(29,[.aX (.t3 (p1_14.set (Int.toNat p1_7.aJ) (Bu ((gD p1_14 p1_7.aJ)-1))))]),(31,[.aX (.t3 p1_15)]),(33,[.aX (.t3 p1_16)]),(38,[.aX (.t3 p1_17)]),(1042,[I p1_0,I p1_1,.vw false 29 3 1 p1_2,.vw false 31 3 1 p1_3,.vw false 33 3 1 p1_4,.vw false 38 3 1 p1_5]),(1044,(B4 p1_7)),(1045,zq2)],1039⟩ (some 79) (kN (KA (O23 L) L 8 c43 (rl [8,1,2,1,5,1,2]) (KJ Tryz.f43 k)))))) p1_6 p1_7 L ([],0)) λo11=>Amf L p1_14 p1_7 p1_15 p1_17 o11) (hq (Bnk L (KA (O23 L) L 7 c66 (rl [4,1,2,1]) (KJ Tryz.f66 (KCQ (O23 L) L 8 1 4 c43.x.l.u.l.w.r.l.u ⟨[(78,I p1_7.bZ),(77,.loc 1044 3),(76,lv (.dN p1_6)),(1,lv (.dN p1_6)),Bpc,Bpd,Bpe,(7,Bhi)],[(8,zq2),(11,[I p1_8,I p1_9,.vw false 29 3 1 p1_10,.vw false 31 3 1 p1_11,.vw false 33 3 1 p1_12,.vw false 38 3 1 p1_13]),(29,[.aX (.t3 p1_14)]),(31,[.aX (.t3 p1_15)]),(33,[.aX (.t3 p1_16)]),(38,[.aX (.t3 p1_17)]),(1042,[I p1_0,I p1_1,.vw false 29 3 1 p1_2,.vw false 31 3 1 p1_3,.vw false 33 3 1 p1_4,.vw false 38 3 1 p1_5]),(1044,(B4 p1_7)),(1045,zq2)],1039⟩ (some 79) (kN (KA (O23 L) L 8 c43 (rl [8,1,2,1,5,1,2]) (KJ Tryz.f43 k)))))) p1_6 p1_7 L ([],0)) λo12=>Amg L p1_14 p1_15 p1_17 o12) (hq (Bgc L (KA (O23 L) L 7 c66 (rl [4,1,2,1]) (KJ Tryz.f66 (KCQ (O23 L) L 8 1 6 c43.x.l.u.l.x.l.u.l.u ⟨[(106,I p1_7.aJ),(105,.loc 1044 4),(104,I p1_7.bZ),(103,.loc 1044 3),(102,lv (.dN p1_6)),(1,lv (.dN p1_6)),Bpc,Bpd,Bpe,(7,Bhi)],[(8,zq2),(11,[I p1_8,I p1_9,.vw false 29 3 1 p1_10,.vw false 31 3 1 p1_11,.vw false 33 3 1 p1_12,.vw false 38 3 1 p1_13]),(29,[.aX (.t3 p1_14)]),(31,[.aX (.t3 (p1_15.set (Int.toNat p1_7.aJ) (Bu ((gD p1_15 p1_7.aJ)+p1_7.Value))))]),(33,[.aX (.t3 p1_16)]),(38,[.aX (.t3 p1_17)]),(1042,[I p1_0,I p1_1,.vw false 29 3 1 p1_2,.vw false 31 3 1 p1_3,.vw false 33 3 1 p1_4,.vw false 38 3 1 p1_5]),(1044,(B4 p1_7)),(1045,zq2)],1039⟩ (some 107) (kN (KA (O23 L) L 8 c43 (rl [8,1,2,1,8,1,2,1,2]) (KJ Tryz.f43 k)))))) p1_6 p1_7 L ([],0)) λo13=>Amh L p1_14 p1_15 p1_7 p1_17 o13) (λb3=>hq (Bgc L (KA (O23 L) L 7 c66 (rl [4,1,2,1]) (KJ Tryz.f66 (Bnb Tryz.prog (O23 L) (EI (O23 L) L 8) [] (List.drop 6 c43.x.l.u.l.x.u.r.l.u.l.ops) ⟨[(115,I p1_7.aJ),(114,.loc 1044 4),(113,I p1_7.bZ),(112,.loc 1044 3),(111,lv (.dN p1_6)),(1,lv (.dN p1_6)),Bpc,Bpd,Bpe,(7,Bhi),(110,B b3)],[(8,zq2),(11,[I p1_8,I p1_9,.vw false 29 3 1 p1_10,.vw false 31 3 1 p1_11,.vw false 33 3 1 p1_12,.vw false 38 3 1 p1_13]),(29,[.aX (.t3 p1_14)]),(31,[.aX (.t3 p1_15)]),(33,[.aX (.t3 p1_16)]),(38,[.aX (.t3 p1_17)]),(1042,[I p1_0,I p1_1,.vw false 29 3 1 p1_2,.vw false 31 3 1 p1_3,.vw false 33 3 1 p1_4,.vw false 38 3 1 p1_5]),(1044,(B4 p1_7)),(1045,zq2)],1039⟩ (some 116) (kN (KA (O23 L) L 8 c43 (rl [8,1,2,1,11,1,2,1]) (KJ Tryz.f43 k)))))) p1_6 p1_7 L ([],0)) λo14=>Ami L p1_7 p1_14 p1_15 p1_17 o14) (hq (Bgc L (KA (O23 L) L 7 c66 (rl [4,1,2,1]) (KJ Tryz.f66 (Bnb Tryz.prog (O23 L) (EI (O23 L) L 8) [] (List.drop 6 c43.x.l.u.l.x.x.r.l.u.l.u.ops) ⟨[(172,I p1_7.aJ),(171,.loc 1044 4),(170,I p1_7.bZ),(169,.loc 1044 3),(168,lv (.dN p1_6)),(1,lv (.dN p1_6)),Bpc,Bpd,Bpe,(7,Bhi)],[(8,zq2),(11,[I p1_8,I p1_9,.vw false 29 3 1 p1_10,.vw false 31 3 1 p1_11,.vw false 33 3 1 p1_12,.vw false 38 3 1 p1_13]),(29,[.aX (.t3 p1_14)]),(31,[.aX (.t3 (p1_15.set (Int.toNat p1_7.aJ) (Bu ((gD p1_15 p1_7.aJ)-p1_7.Value))))]),(33,[.aX (.t3 p1_16)]),(38,[.aX (.t3 p1_17)]),(1042,[I p1_0,I p1_1,.vw false 29 3 1 p1_2,.vw false 31 3 1 p1_3,.vw false 33 3 1 p1_4,.vw false 38 3 1 p1_5]),(1044,(B4 p1_7)),(1045,zq2)],1039⟩ (some 173) (kN (KA (O23 L) L 8 c43 (rl [8,1,2,1,17,1,2,1,2]) (KJ Tryz.f43 k)))))) p1_6 p1_7 L ([],0)) λo15=>Ajo L p1_7 p1_14 p1_15 p1_17 o15)))
def B2y(a1:List Au)(a2:Int)(a3:Int)(a0:Ac)(v:Tu9):St:=⟨[(0,.any),(1,lv (.t46 a1)),(2,I a2),(3,I a3),(4,.any),Bbt,(9,.any),(10,.any),(11,.loc 11 0),(12,lv (.dN v.1)),(13,I v.2.1),(14,.any)],[(8,zq2),(11,[I a3,I a2,.vw false 29 3 1 (Int.toNat ((gD a0.aA a2).aD.length:Int)),.vw false 31 3 1 (Int.toNat ((gD a0.aA a2).aK.aG.length:Int)),.vw false 33 3 1 (Int.toNat ((gD a0.aA a2).aK.aG.length:Int)),.vw false 38 3 1 (Int.toNat ((gD a0.aA a2).aK.aL.length:Int))]),(29,[.aX (.t3 v.2.2.1)]),(31,[.aX (.t3 v.2.2.2.1)]),(33,[.aX (.t3 (List.replicate (Int.toNat ((gD a0.aA a2).aK.aG.length:Int)) 0))]),(38,[.aX (.t3 v.2.2.2.2)])],0⟩
def Ajp [An A (Nat×Tu9)](L:Nat)(Bj:Int)(rec:List Am->Int->List Int->List Int->List Int->A)(o16:A54):A:=
 (rec o16.1 (Bu (Bj+1)) o16.2.1 o16.2.2.1 o16.2.2.2)
def Aj1 [An A (Nat×Tu9)](L:Nat)(a1:List Au)(a2:Int)(a3:Int)(a0:Ac)(rec:List Am->Int->List Int->List Int->List Int->A)(Af:List Am)(Bj:Int)(C1:List Int)(C2:List Int)(Gq:List Int)(nx11:(List Am)->Int->(List Int)->(List Int)->(List Int)->Bool->A):A:=
 (lw Bj a1
 (jb (.cn ((gD a1 Bj).bW == a2)
 (.gq (0<=Bj)
 (.gq (Bj<(a1.length:Int))
 (.lf (decide ((gD a1 Bj).Time<=a3)))))
 (.lf false)) (λb1=>
 (cn b1
 (gi Bj a1
 (nx11 Af Bj C1 C2 Gq b1))
 (rec Af (Bu (Bj+1)) C1 C2 Gq))))
 (lf (0,Af,Bj,C1,C2,Gq)))
def Axy [An A (Nat×Tu9)](a1:List Au)(a2:Int)(a3:Int)(a0:Ac)(rec:List Am->Int->List Int->List Int->List Int->A)(Af:List Am)(Bj:Int)(C1:List Int)(C2:List Int)(Gq:List Int):A:=Aj1 L a1 a2 a3 a0 rec Af Bj C1 C2 Gq (λAf Bj C1 C2 Gq b1=>bd (Al7 L a3 a2 (Int.toNat ((gD a0.aA a2).aD.length:Int)) (Int.toNat ((gD a0.aA a2).aK.aG.length:Int)) (Int.toNat ((gD a0.aA a2).aK.aG.length:Int)) (Int.toNat ((gD a0.aA a2).aK.aL.length:Int)) Af (gD a1 Bj) a3 a2 (Int.toNat ((gD a0.aA a2).aD.length:Int)) (Int.toNat ((gD a0.aA a2).aK.aG.length:Int)) (Int.toNat ((gD a0.aA a2).aK.aG.length:Int)) (Int.toNat ((gD a0.aA a2).aK.aL.length:Int)) C1 C2 (List.replicate (Int.toNat ((gD a0.aA a2).aK.aG.length:Int)) 0) Gq) λo16=>Ajp L Bj rec o16)
def Acf(L:Nat)(a1:List Au)(a2:Int)(a3:Int)(a0:Ac):Nat->List Am->Int->List Int->List Int->List Int->Option (Nat×Tu9)
 |0,_,_,_,_,_=>none
 |n+1,Af,Bj,C1,C2,Gq=>Axy L a1 a2 a3 a0 (Acf L a1 a2 a3 a0 n) Af Bj C1 C2 Gq
theorem B00(a1:List Au)(a2:Int)(a3:Int)(a0:Ac):LP (EV (O23 L) L 9 c23.x.u.l.u.l.r.l) [0,1,2,3,4,8,9,10,11,12,13,14] [8,11,29,31,33,38] (B2y a1 a2 a3 a0) [.exit 0] (λn v=>Acf L a1 a2 a3 a0 n v.1 v.2.1 v.2.2.1 v.2.2.2.1 v.2.2.2.2) K:=lE (λ_=>rfl) λn v ih=>eE (Aj1 L a1 a2 a3 a0 (λAf Bj C1 C2 Gq=>re (ih (Af,Bj,C1,C2,Gq))) v.1 v.2.1 v.2.2.1 v.2.2.2.1 v.2.2.2.2 (λAf Bj C1 C2 Gq b1=>hq (Bz4 L (B64 Tryz.prog (O23 L) (EI (O23 L) L 9) [] (List.drop 7 c23.x.u.l.u.l.r.l.u.l.l.u.l.ops) ⟨[(68,.agg (B4 (gD a1 Bj))),(67,.ref (B4 (gD a1 Bj))),(66,I Bj),(65,lv (.t46 a1)),(64,lv (.dN Af)),(63,.agg [I a3,I a2,.vw false 29 3 1 (Int.toNat ((gD a0.aA a2).aD.length:Int)),.vw false 31 3 1 (Int.toNat ((gD a0.aA a2).aK.aG.length:Int)),.vw false 33 3 1 (Int.toNat ((gD a0.aA a2).aK.aG.length:Int)),.vw false 38 3 1 (Int.toNat ((gD a0.aA a2).aK.aL.length:Int))]),(1,lv (.t46 a1)),(2,I a2),(3,I a3),Bbt,(11,.loc 11 0),(12,lv (.dN Af)),(13,I Bj),(40,I Bj),(41,lv (.t46 a1)),(42,I (a1.length:Int)),(43,B (decide (Bj<(a1.length:Int)))),(46,lv (.t46 a1)),(47,I Bj),(48,.ref (B4 (gD a1 Bj))),(49,.ref [I (gD a1 Bj).bW,I (gD a1 Bj).aQ,I (gD a1 Bj).bZ,I (gD a1 Bj).aJ,I (gD a1 Bj).Value]),(50,I (gD a1 Bj).bW),(51,I a2),(52,B ((gD a1 Bj).bW == a2)),(53,B ((gD a1 Bj).bW == a2)),(61,B b1)],[(8,zq2),(11,[I a3,I a2,.vw false 29 3 1 (Int.toNat ((gD a0.aA a2).aD.length:Int)),.vw false 31 3 1 (Int.toNat ((gD a0.aA a2).aK.aG.length:Int)),.vw false 33 3 1 (Int.toNat ((gD a0.aA a2).aK.aG.length:Int)),.vw false 38 3 1 (Int.toNat ((gD a0.aA a2).aK.aL.length:Int))]),(29,[.aX (.t3 C1)]),(31,[.aX (.t3 C2)]),(33,[.aX (.t3 (List.replicate (Int.toNat ((gD a0.aA a2).aK.aG.length:Int)) 0))]),(38,[.aX (.t3 Gq)])],0⟩ (some 69) (kN (KA (O23 L) L 9 c23.x.u.l.u.l.r.l (rl [2,2,2,1]) (Hf (Io (EV (O23 L) L 9 c23.x.u.l.u.l.r.l) [0,1,2,3,4,8,9,10,11,12,13,14] [8,11,29,31,33,38] n) [0,1,2,3,4,8,9,10,11,12,13,14] [8,11,29,31,33,38] K)))) a3 a2 (Int.toNat ((gD a0.aA a2).aD.length:Int)) (Int.toNat ((gD a0.aA a2).aK.aG.length:Int)) (Int.toNat ((gD a0.aA a2).aK.aG.length:Int)) (Int.toNat ((gD a0.aA a2).aK.aL.length:Int)) Af (gD a1 Bj) a3 a2 (Int.toNat ((gD a0.aA a2).aD.length:Int)) (Int.toNat ((gD a0.aA a2).aK.aG.length:Int)) (Int.toNat ((gD a0.aA a2).aK.aG.length:Int)) (Int.toNat ((gD a0.aA a2).aK.aL.length:Int)) C1 C2 (List.replicate (Int.toNat ((gD a0.aA a2).aK.aG.length:Int)) 0) Gq) λo16=>Ajp L Bj (λAf Bj C1 C2 Gq=>re (ih (Af,Bj,C1,C2,Gq))) o16))
def B21(o17:Nat×Tu9)(a3:Int)(a2:Int)(a0:Ac)(v:Int×List Int):St:=⟨[(0,.any),(1,.any),(2,.any),(3,.any),(4,.any),Bbt,(9,.any),(10,.any),(11,.loc 11 0),(12,lv (.dN o17.2.1)),(13,.any),(14,I v.1)],[(8,zq2),(11,[I a3,I a2,.vw false 29 3 1 (Int.toNat ((gD a0.aA a2).aD.length:Int)),.vw false 31 3 1 (Int.toNat ((gD a0.aA a2).aK.aG.length:Int)),.vw false 33 3 1 (Int.toNat ((gD a0.aA a2).aK.aG.length:Int)),.vw false 38 3 1 (Int.toNat ((gD a0.aA a2).aK.aL.length:Int))]),(29,[.aX (.t3 o17.2.2.2.1)]),(31,[.aX (.t3 o17.2.2.2.2.1)]),(33,[.aX (.t3 v.2)]),(38,[.aX (.t3 o17.2.2.2.2.2)])],0⟩
def Ama [An A (Nat×Int×List Int)](L:Nat)(o17:Nat×Tu9)(a3:Int)(a2:Int)(a0:Ac)(rec:Int->List Int->A)(Hw:Int)(A5w:List Int):A:=
 (lw Hw o17.2.1
 (gi Hw o17.2.1
 (gq (0<=(gD o17.2.1 Hw).aR)
 (gq ((gD o17.2.1 Hw).aR<(((Int.toNat ((gD a0.aA a2).aK.aG.length:Int)):Nat):Int))
 (gq (0<=(gD o17.2.1 Hw).aR)
 (gq ((gD o17.2.1 Hw).aR<(((Int.toNat ((gD a0.aA a2).aK.aG.length:Int)):Nat):Int))
 (rec (Bu (Hw+1)) (A5w.set (Int.toNat ((gD o17.2.1 Hw).aR)) (Bu ((gD A5w ((gD o17.2.1 Hw).aR))+1)))))))))
 (lf (0,Hw,A5w)))
def Acg(L:Nat)(o17:Nat×Tu9)(a3:Int)(a2:Int)(a0:Ac):Nat->Int->List Int->Option (Nat×Int×List Int)
 |0,_,_=>none
 |n+1,Hw,A5w=>Ama L o17 a3 a2 a0 (Acg L o17 a3 a2 a0 n) Hw A5w
theorem B01(o17:Nat×Tu9)(a3:Int)(a2:Int)(a0:Ac):LP (EV (O23 L) L 9 c23.x.w.l.u.l.r.l) [0,1,2,3,4,8,9,10,11,12,13,14] [8,11,29,31,33,38] (B21 o17 a3 a2 a0) [.exit 2] (λn v=>Acg L o17 a3 a2 a0 n v.1 v.2) K:=lE (λ_=>rfl) λn v ih=>eE (Ama L o17 a3 a2 a0 (λHw A5w=>re (ih (Hw,A5w))) v.1 v.2)
def Ajq [An A Ao](L:Nat)(a3:Int)(a2:Int)(o17:Nat×Tu9)(o18:Nat×Int×List Int):A:=
 (sl o18.1 [(lf (⟨a3,a2,o17.2.2.2.1,o17.2.2.2.2.1,o18.2.2,o17.2.2.2.2.2⟩:Ao))])
def Aj3 [An A Ao](L:Nat)(a3:Int)(a2:Int)(a0:Ac)(o17:Nat×Tu9)(nx13:(Nat×Tu9)->A):A:=
 (sl o17.1 [(nx13 o17)])
def Awn [An A Ao](a3:Int)(a2:Int)(a0:Ac)(o17:Nat×Tu9):A:=Aj3 L a3 a2 a0 o17 (λo17=>bd (Acg L o17 a3 a2 a0 L 0 (List.replicate (Int.toNat ((gD a0.aA a2).aK.aG.length:Int)) 0)) λo18=>Ajq L a3 a2 o17 o18)
def Aj2 [An A Ao](L:Nat)(a0:Ac)(a1:List Au)(a2:Int)(a3:Int)(nx12:A):A:=
 (gi a2 a0.aA
 (gq (0<=((gD a0.aA a2).aD.length:Int))
 (gq (((gD a0.aA a2).aD.length:Int)*((8:Nat):Int)<=140737488355328)
 (gq (((gD a0.aA a2).aD.length:Int)<=9223372036854775807)
 (gq (0<=((gD a0.aA a2).aK.aG.length:Int))
 (gq (((gD a0.aA a2).aK.aG.length:Int)*((8:Nat):Int)<=140737488355328)
 (gq (((gD a0.aA a2).aK.aG.length:Int)<=9223372036854775807)
 (gq (0<=((gD a0.aA a2).aK.aG.length:Int))
 (gq (((gD a0.aA a2).aK.aG.length:Int)*((8:Nat):Int)<=140737488355328)
 (gq (((gD a0.aA a2).aK.aG.length:Int)<=9223372036854775807)
 (gq (0<=((gD a0.aA a2).aK.aL.length:Int))
 (gq (((gD a0.aA a2).aK.aL.length:Int)*((8:Nat):Int)<=140737488355328)
 (gq (((gD a0.aA a2).aK.aL.length:Int)<=9223372036854775807)
 nx12)))))))))))))
def A51 [An A Ao](a0:Ac)(a1:List Au)(a2:Int)(a3:Int):A:=Aj2 L a0 a1 a2 a3 (bd (Acf L a1 a2 a3 a0 L [] 0 (List.replicate (Int.toNat ((gD a0.aA a2).aD.length:Int)) 0) (List.replicate (Int.toNat ((gD a0.aA a2).aK.aG.length:Int)) 0) (List.replicate (Int.toNat ((gD a0.aA a2).aK.aL.length:Int)) 0)) λo17=>Awn L a3 a2 a0 o17)
def Aj7(a0:Ac)(a1:List Au)(a2:Int)(a3:Int):Option Ao:=A51 L a0 a1 a2 a3
def X23:F3:=E4 (λ(x:Ao)=>.agg (Lr x)) 23 B7 Bj2 (cI .i64) (cI .i64) (Aj7 L) λa0 a1 a2 a3 r h=>hF Tryz.func23 (C:=O23 L) (oS _) L (λkk=>eE (Aj2 L a0 a1 a2 a3 (hq (B00 L (KA (O23 L) L 9 c23 (rl [10,1,2,1,1]) (KE Tryz.f23 kk)) a1 a2 a3 a0 L ([],0,(List.replicate (Int.toNat ((gD a0.aA a2).aD.length:Int)) 0),(List.replicate (Int.toNat ((gD a0.aA a2).aK.aG.length:Int)) 0),(List.replicate (Int.toNat ((gD a0.aA a2).aK.aL.length:Int)) 0))) λo17=>Aj3 L a3 a2 a0 o17 (λo17=>hq (B01 L (KA (O23 L) L 9 c23 (rl [12,1,2,1,1]) (KE Tryz.f23 kk)) o17 a3 a2 a0 L (0,(List.replicate (Int.toNat ((gD a0.aA a2).aK.aG.length:Int)) 0))) λo18=>Ajq L a3 a2 o17 o18)))) h
def Bb4 [An A (Ao×Int)](a0:Ac)(a1:List Au)(a2:Int)(a3:Int):A:=
 (bd (Uo L (⟨a0.aF,a0.aA,a0.aH⟩:Ac)) λr1=>
 (cn (r1 != 0)
 (lf ((⟨0,0,[],[],[],[]⟩:Ao),r1))
 (jp (.cn (decide (a2<0))
 (.lf true)
 (.lf (decide (a2>=(a0.aA.length:Int))))) (λb2=>
 (jp (.cn b2
 (.lf true)
 (.lf (decide (a3<0)))) (λb3=>
 (jp (.cn b3
 (.lf true)
 (.lf (decide (a3>1000000000)))) (λb4=>
 (cn b4
 (lf ((⟨0,0,[],[],[],[]⟩:Ao),2))
 (bd (Aj7 L (⟨a0.aF,a0.aA,a0.aH⟩:Ac) a1 a2 a3) λr5=>
 (lf (r5,0))))))))))))
def Bbz(a0:Ac)(a1:List Au)(a2:Int)(a3:Int):Option (Ao×Int):=Bb4 L a0 a1 a2 a3
def X9:F3:=E4 (λ(x:Ao×Int)=>.bY [.agg (Lr x.1),I x.2]) 9 B7 Bj2 (cI .i64) (cI .i64) (Bbz L) λa0 a1 a2 a3 r h=>hF Tryz.func9 (oS [X18 L,X23 L]) L (λkk=>eE (Bb4 L a0 a1 a2 a3)) h
end
end Go.Proofs.YthjhkpgonleelaaGreatDoor.Ev
namespace Go.Proofs.YthjhkpgonleelaaGreatDoor.Ev
open Go An
noncomputable section
variable {A:Type} (L n:Nat) (kk:K5) (K:Ef) (k:Dj)
def c10:=CC Tryz.f10
def O10:Bc:=oL [X20 L,X21 L,X22 L]
def B2l(a1:List Au)(a2:Int)(a3:Int)(a4:Int)(a5:Int)(a0:Ac)(v:List Ao×Int):St:=⟨[(0,.any),(1,lv (.t46 a1)),(2,I a2),(3,I a3),(4,I a4),(5,.any),(6,.loc 6 0),(12,.bA true (.t32 [])),(13,I 0),(14,.any),(15,.bA true (.t32 v.1)),(51,I a5),(52,I v.2)],[(6,(Cm a0))],0⟩
def Af6 [An A (Nat×List Ao×Int)](a1:List Au)(a2:Int)(a3:Int)(a4:Int)(a5:Int)(a0:Ac)(rec:List Ao->Int->A)(Be6:List Ao)(Bq:Int):A:=
 (cn (decide (Bq<a5))
 (bd (J1 L (⟨a0.aF,a0.aA,a0.aH⟩:Ac) a1 a2 (Bu (a3+(Bu (Bq*a4))))) λr8=>
 (gq ((Be6.length+ [r8].length)*112<=140737488355328)
 (gq (Be6.length+ [r8].length<=maxLen)
 (rec (Be6++ [r8]) (Bu (Bq+1))))))
 (lf (0,Be6,Bq)))
def Wx(L:Nat)(a1:List Au)(a2:Int)(a3:Int)(a4:Int)(a5:Int)(a0:Ac):Nat->List Ao->Int->Option (Nat×List Ao×Int)
 |0,_,_=>none
 |n+1,Be6,Bq=>Af6 L a1 a2 a3 a4 a5 a0 (Wx L a1 a2 a3 a4 a5 a0 n) Be6 Bq
theorem B0m(a1:List Au)(a2:Int)(a3:Int)(a4:Int)(a5:Int)(a0:Ac):LP (EV (O10 L) L 9 c10.x.l.u.l.l) [0,1,2,3,4,5,6,12,13,14,15,51,52] [6] (B2l a1 a2 a3 a4 a5 a0) [.exit 0] (λn v=>Wx L a1 a2 a3 a4 a5 a0 n v.1 v.2) K:=lE (λ_=>rfl) λn v ih=>eE (Af6 L a1 a2 a3 a4 a5 a0 (λBe6 Bq=>re (ih (Be6,Bq))) v.1 v.2)
def Af9 [An A ((List Ao)×Int)](L:Nat)(o9:Nat×List Ao×Int):A:=
 (sl o9.1 [(lf (o9.2.1,0))])
def Agd [An A ((List Ao)×Int)](a0:Ac)(a1:List Au)(a2:Int)(a3:Int)(a4:Int)(a5:Int)(nx1:A):A:=
 (bd (U7 L (⟨a0.aF,a0.aA,a0.aH⟩:Ac)) λr1=>
 (cn (r1 != 0)
 (lf ([],r1))
 (bd (Sx L (⟨a0.aF,a0.aA,a0.aH⟩:Ac) a2 a3) λr2=>
 (jp (.cn r2
 (.lf true)
 (.lf (decide (a4<1)))) (λb3=>
 (jp (.cn b3
 (.lf true)
 (.lf (decide (a4>1000000000)))) (λb4=>
 (jp (.cn b4
 (.lf true)
 (.lf (decide (a5<0)))) (λb5=>
 (jp (.cn b5
 (.lf true)
 (.lf (decide (a5>1000)))) (λb6=>
 (jp (.cn b6
 (.lf true)
 (.lf (decide ((Bu (a3+(Bu ((Bu (a5-1))*a4))))>1000000000)))) (λb7=>
 (cn b7
 (lf ([],2))
 nx1))))))))))))))
def Aw7 [An A ((List Ao)×Int)](a0:Ac)(a1:List Au)(a2:Int)(a3:Int)(a4:Int)(a5:Int):A:=Agd L a0 a1 a2 a3 a4 a5 (bd (Wx L a1 a2 a3 a4 a5 a0 L [] 0) λo9=>Af9 L o9)
def Abh(a0:Ac)(a1:List Au)(a2:Int)(a3:Int)(a4:Int)(a5:Int):Option ((List Ao)×Int):=Aw7 L a0 a1 a2 a3 a4 a5
def X10:F3:=E6 (λ(x:(List Ao)×Int)=>.bY [lv (.t32 x.1),I x.2]) 10 B7 Bj2 (cI .i64) (cI .i64) (cI .i64) (cI .i64) (Abh L) λa0 a1 a2 a3 a4 a5 r h=>hF Tryz.func10 (C:=O10 L) (oS _) L (λkk=>eE (Agd L a0 a1 a2 a3 a4 a5 (hq (B0m L (KA (O10 L) L 9 c10 (rl [8,1,2,1]) (KE Tryz.f10 kk)) a1 a2 a3 a4 a5 a0 L ([],0)) λo9=>Af9 L o9))) h
end
end Go.Proofs.YthjhkpgonleelaaGreatDoor.Ev
namespace Go.Proofs.YthjhkpgonleelaaGreatDoor.Ev
open Go An
noncomputable section
variable {A:Type} (L n:Nat) (kk:K5) (K:Ef) (k:Dj)
def c11:=CC Tryz.f11
def O11:Bc:=oL [X18 L,X23 L]
def B2m(a1:List Au)(a2:Int)(a3:Int)(a4:Int)(a5:Int)(a0:Ac)(v:List Ao×Int):St:=⟨[(0,.any),(1,lv (.t46 a1)),(2,I a2),(3,I a3),(4,I a4),(5,I a5),(6,.loc 6 0),(12,.bA true (.t32 [])),(13,I 0),(14,.any),(15,.bA true (.t32 v.1)),(16,I v.2)],[(6,(Cm a0))],0⟩
def Apb [An A (Nat×List Ao×Int)](a1:List Au)(a2:Int)(a3:Int)(a4:Int)(a5:Int)(a0:Ac)(rec:List Ao->Int->A)(Dg:List Ao)(Bq:Int):A:=
 (cn (decide (Bq<a5))
 (bd (Aj7 L (⟨a0.aF,a0.aA,a0.aH⟩:Ac) a1 a2 (Bu (a3+(Bu (Bq*a4))))) λr10=>
 (gq ((Dg.length+ [r10].length)*112<=140737488355328)
 (gq (Dg.length+ [r10].length<=maxLen)
 (rec (Dg++ [r10]) (Bu (Bq+1))))))
 (lf (0,Dg,Bq)))
def Afs(L:Nat)(a1:List Au)(a2:Int)(a3:Int)(a4:Int)(a5:Int)(a0:Ac):Nat->List Ao->Int->Option (Nat×List Ao×Int)
 |0,_,_=>none
 |n+1,Dg,Bq=>Apb L a1 a2 a3 a4 a5 a0 (Afs L a1 a2 a3 a4 a5 a0 n) Dg Bq
theorem B0n(a1:List Au)(a2:Int)(a3:Int)(a4:Int)(a5:Int)(a0:Ac):LP (EV (O11 L) L 9 c11.x.w.l.u.l.l) [0,1,2,3,4,5,6,12,13,14,15,16] [6] (B2m a1 a2 a3 a4 a5 a0) [.exit 0] (λn v=>Afs L a1 a2 a3 a4 a5 a0 n v.1 v.2) K:=lE (λ_=>rfl) λn v ih=>eE (Apb L a1 a2 a3 a4 a5 a0 (λDg Bq=>re (ih (Dg,Bq))) v.1 v.2)
def Api [An A ((List Ao)×Int)](L:Nat)(o11:Nat×List Ao×Int):A:=
 (sl o11.1 [(lf (o11.2.1,0))])
def Apk [An A ((List Ao)×Int)](a0:Ac)(a1:List Au)(a2:Int)(a3:Int)(a4:Int)(a5:Int)(nx1:A):A:=
 (bd (Uo L (⟨a0.aF,a0.aA,a0.aH⟩:Ac)) λr1=>
 (cn (r1 != 0)
 (lf ([],r1))
 (jp (.cn (decide (a2<0))
 (.lf true)
 (.lf (decide (a2>=(a0.aA.length:Int))))) (λb2=>
 (jp (.cn b2
 (.lf true)
 (.lf (decide (a3<0)))) (λb3=>
 (jp (.cn b3
 (.lf true)
 (.lf (decide (a3>1000000000)))) (λb4=>
 (jp (.cn b4
 (.lf true)
 (.lf (decide (a4<1)))) (λb5=>
 (jp (.cn b5
 (.lf true)
 (.lf (decide (a4>1000000000)))) (λb6=>
 (jp (.cn b6
 (.lf true)
 (.lf (decide (a5<0)))) (λb7=>
 (jp (.cn b7
 (.lf true)
 (.lf (decide (a5>1000)))) (λb8=>
 (cn b8
 (lf ([],2))
 (jp (.cn (decide (a5>0))
 (.lf (decide ((Bu (a3+(Bu ((Bu (a5-1))*a4))))>1000000000)))
 (.lf false)) (λb9=>
 (cn b9
 (lf ([],2))
 nx1))))))))))))))))))))
def A85 [An A ((List Ao)×Int)](a0:Ac)(a1:List Au)(a2:Int)(a3:Int)(a4:Int)(a5:Int):A:=Apk L a0 a1 a2 a3 a4 a5 (bd (Afs L a1 a2 a3 a4 a5 a0 L [] 0) λo11=>Api L o11)
def Auu(a0:Ac)(a1:List Au)(a2:Int)(a3:Int)(a4:Int)(a5:Int):Option ((List Ao)×Int):=A85 L a0 a1 a2 a3 a4 a5
def X11:F3:=E6 (λ(x:(List Ao)×Int)=>.bY [lv (.t32 x.1),I x.2]) 11 B7 Bj2 (cI .i64) (cI .i64) (cI .i64) (cI .i64) (Auu L) λa0 a1 a2 a3 a4 a5 r h=>hF Tryz.func11 (C:=O11 L) (oS _) L (λkk=>eE (Apk L a0 a1 a2 a3 a4 a5 (hq (B0n L (KA (O11 L) L 9 c11 (rl [12,1,2,1]) (KE Tryz.f11 kk)) a1 a2 a3 a4 a5 a0 L ([],0)) λo11=>Api L o11))) h
def c24:=CC Tryz.f24
def O24(L:Nat):Bc:=oL []
def B22(a0:List Int)(a1:List Int)(v:Tu5):St:=⟨[(0,lv (.t3 a0)),(1,lv (.t3 a1)),(4,B v.1),(5,I v.2)],[],0⟩
def Tl [An A (Nat×Tu5)](L:Nat)(a0:List Int)(a1:List Int)(rec:Bool->Int->A)(Ak:Bool)(Af:Int):A:=
 (lw Af a0
 (gi Af a1
 (cn ((gD a0 Af) != (gD a1 Af))
 (lf (0,false,Af))
 (rec Ak (Bu (Af+1)))))
 (lf (1,Ak,Af)))
def H7(L:Nat)(a0:List Int)(a1:List Int):Nat->Bool->Int->Option (Nat×Tu5)
 |0,_,_=>none
 |n+1,Ak,Af=>Tl L a0 a1 (H7 L a0 a1 n) Ak Af
theorem B02(a0:List Int)(a1:List Int):LP (EV (O24 L) L 9 c24.w.l.u.l.l) [0,1,4,5] [] (B22 a0 a1) [.ret,.exit 0] (λn v=>H7 L a0 a1 n v.1 v.2) K:=lE (λ_=>rfl) λn v ih=>eE (Tl L a0 a1 (λAk Af=>re (ih (Ak,Af))) v.1 v.2)
def Tr [An A Bool](L:Nat)(o1:Nat×Tu5):A:=
 (sl o1.1 [(lf o1.2.1),
 (lf true)])
def Tz [An A Bool](L:Nat)(a0:List Int)(a1:List Int)(nx1:A):A:=
 (cn ((a0.length:Int) != (a1.length:Int))
 (lf false)
 nx1)
def Aqo [An A Bool](a0:List Int)(a1:List Int):A:=Tz L a0 a1 (bd (H7 L a0 a1 L false 0) λo1=>Tr L o1)
def Mc(a0:List Int)(a1:List Int):Option Bool:=Aqo L a0 a1
def X24:F3:=E2 B 24 cl3 cl3 (Mc L) λa0 a1 r h=>hF Tryz.func24 (C:=O24 L) (oS _) L (λkk=>eE (Tz L a0 a1 (hq (B02 L (KA (O24 L) L 9 c24 (rl [4,1,2,1]) (KE Tryz.f24 kk)) a0 a1 L (false,0)) λo1=>Tr L o1))) h
def Atm [An A Bool](a0:Ao)(a1:Ao):A:=
 (jp (.cn (a0.Time == a1.Time)
 (.lf (a0.bW == a1.bW))
 (.lf false)) (λb1=>
 (jb (.cn b1
 (.bd (Mc L a0.dY a1.dY) λr3=>
 (.lf r3))
 (.lf false)) (λb2=>
 (jb (.cn b2
 (.bd (Mc L a0.Held a1.Held) λr5=>
 (.lf r5))
 (.lf false)) (λb4=>
 (jb (.cn b4
 (.bd (Mc L a0.dB a1.dB) λr7=>
 (.lf r7))
 (.lf false)) (λb6=>
 (jb (.cn b6
 (.bd (Mc L a0.Items a1.Items) λr9=>
 (.lf r9))
 (.lf false)) (λb8=>
 (lf b8)))))))))))
def O8(a0:Ao)(a1:Ao):Option Bool:=Atm L a0 a1
def X12:F3:=E2 B 12 Ry Ry (O8 L) λa0 a1 r h=>hF Tryz.func12 (oS [X24 L]) L (λkk=>eE (Atm L a0 a1)) h
def c13:=CC Tryz.f13
def O13:Bc:=oL [X12 L]
def B2n(a0:List Ao)(a1:List Ao)(v:Tu5):St:=⟨[(0,lv (.t32 a0)),(1,lv (.t32 a1)),(4,B v.1),(5,I v.2)],[],0⟩
def Ajg [An A (Nat×Tu5)](a0:List Ao)(a1:List Ao)(rec:Bool->Int->A)(Ak:Bool)(Af:Int):A:=
 (lw Af a0
 (gi Af a1
 (bd (O8 L (gD a0 Af) (gD a1 Af)) λr1=>
 (cn (!r1)
 (lf (0,false,Af))
 (rec Ak (Bu (Af+1))))))
 (lf (1,Ak,Af)))
def g8(L:Nat)(a0:List Ao)(a1:List Ao):Nat->Bool->Int->Option (Nat×Tu5)
 |0,_,_=>none
 |n+1,Ak,Af=>Ajg L a0 a1 (g8 L a0 a1 n) Ak Af
theorem B0o(a0:List Ao)(a1:List Ao):LP (EV (O13 L) L 9 c13.w.l.u.l.l) [0,1,4,5] [] (B2n a0 a1) [.ret,.exit 0] (λn v=>g8 L a0 a1 n v.1 v.2) K:=lE (λ_=>rfl) λn v ih=>eE (Ajg L a0 a1 (λAk Af=>re (ih (Ak,Af))) v.1 v.2)
def Ajn [An A Bool](L:Nat)(o2:Nat×Tu5):A:=
 (sl o2.1 [(lf o2.2.1),
 (lf true)])
def Aj0 [An A Bool](L:Nat)(a0:List Ao)(a1:List Ao)(nx1:A):A:=
 (cn ((a0.length:Int) != (a1.length:Int))
 (lf false)
 nx1)
def A23 [An A Bool](a0:List Ao)(a1:List Ao):A:=Aj0 L a0 a1 (bd (g8 L a0 a1 L false 0) λo2=>Ajn L o2)
def Ap3(a0:List Ao)(a1:List Ao):Option Bool:=A23 L a0 a1
def X13:F3:=E2 B 13 B6u B6u (Ap3 L) λa0 a1 r h=>hF Tryz.func13 (C:=O13 L) (oS _) L (λkk=>eE (Aj0 L a0 a1 (hq (B0o L (KA (O13 L) L 9 c13 (rl [4,1,2,1]) (KE Tryz.f13 kk)) a0 a1 L (false,0)) λo2=>Ajn L o2))) h
end
end Go.Proofs.YthjhkpgonleelaaGreatDoor.Ev
namespace Go.Proofs.YthjhkpgonleelaaGreatDoor.Ev
open Go An
noncomputable section
variable {A:Type} (L n:Nat) (kk:K5) (K:Ef) (k:Dj)
def Jj(L:Nat):Option Bool:=some true
def oA7:Bc:=orN [(29,X29 100),(8,X8 100),(10,X10 100),(12,X12 100),(13,X13 100)]
def iA7:Nat->Bool:=λf=>inL f [40,41,42,43,56,57,58,59,62,63,65,66,86,87,88,89,90,91,92,93,94,98,99,100,101,102,103,104,105,106,107,108,109,110,111,113,114,115,117,119,120,153,154,155,156,159,160,163,164,166,167,184,188,189,190,191,196,197,198,213,215,219,1102869988105,1102869988110,1114410582365,4398046511170]
def nA7:Nat->Bool:=λf=>inL f [29,8,10,12,13]
def X7(L:Nat):F3:=E0 B 7 (Jj L) λr h=>by
 injection h with h
 subst h;exact Bkc (inl:=iA7) (nb:=nA7) (base:=oA7) Bw8 mixed (Bkn _ (by kernel_rfl)) 100 9 40 (λkk=>by kernel_rfl)
def Ahh [An A Bool](a0:H1):A:=
 (jp (.cn (decide ((a0.bK.length:Int)>300))
 (.lf true)
 (.cn (decide (a0.N>60))
 (.lf (decide (a0.N<=1000)))
 (.lf false))) (λb1=>
 (cn b1
 (bd (Jj L) λr2=>
 (lf r2))
 (bd (Je L (⟨a0.P.aF,a0.P.aA,a0.P.aH⟩:Ac) a0.bK a0.bW a0.T) λr3=>
 (bd (Bbz L (⟨a0.P.aF,a0.P.aA,a0.P.aH⟩:Ac) a0.bK a0.bW a0.T) λr4=>
 (bd (Abh L (⟨a0.P.aF,a0.P.aA,a0.P.aH⟩:Ac) a0.bK a0.bW a0.T a0.Step a0.N) λr5=>
 (bd (Auu L (⟨a0.P.aF,a0.P.aA,a0.P.aH⟩:Ac) a0.bK a0.bW a0.T a0.Step a0.N) λr6=>
 (jb (.cn (r3.2 == r4.2)
 (.bd (O8 L r3.1 r4.1) λr8=>
 (.lf r8))
 (.lf false)) (λb7=>
 (jp (.cn b7
 (.lf (r5.2 == r6.2))
 (.lf false)) (λb9=>
 (jb (.cn b9
 (.bd (Ap3 L r5.1 r6.1) λr11=>
 (.lf r11))
 (.lf false)) (λb10=>
 (jb (.cn b10
 (.bd (Jj L) λr13=>
 (.lf r13))
 (.lf false)) (λb12=>
 (lf b12))))))))))))))))
def Atb(a0:H1):Option Bool:=Ahh L a0
theorem h3(a0:H1)(r:Bool)(h:Atb L a0=some r):W3 Tryz.prog 3 [.agg (Uv a0)] (B r):=(show Ho Tryz.prog 3 [.agg (Uv a0)] B r from hF Tryz.func3 (oS [X7 L,X8 L,X9 L,X10 L,X11 L,X12 L,X13 L]) L (λkk=>eE (Ahh L a0)) h)
def c4:=CC Tryz.f4
def O4:Bc:=oL [X7 L,X8 L,X10 L,X12 L]
def B7u(r3:(List Ao)×Int)(a0:H1)(v:Tu5):St:=⟨[(0,.any),zq7,(2,B v.1),(3,lv (.t32 r3.1)),(4,.any),(5,I v.2)],[(1,(Uv a0))],0⟩
def Z0 [An A (Nat×Tu5)](r3:(List Ao)×Int)(a0:H1)(rec:Bool->Int->A)(Ah:Bool)(Ak:Int):A:=
 (cn (decide (Ak<(r3.1.length:Int)))
 (bd (Je L (⟨a0.P.aF,a0.P.aA,a0.P.aH⟩:Ac) a0.bK a0.bW (Bu (a0.T+(Bu (Ak*a0.Step))))) λr6=>
 (cn (r6.2 != 0)
 (lf (0,false,Ak))
 (gi Ak r3.1
 (bd (O8 L r6.1 (gD r3.1 Ak)) λr7=>
 (cn (!r7)
 (lf (0,false,Ak))
 (rec Ah (Bu (Ak+1))))))))
 (lf (1,Ah,Ak)))
def R6(L:Nat)(r3:(List Ao)×Int)(a0:H1):Nat->Bool->Int->Option (Nat×Tu5)
 |0,_,_=>none
 |n+1,Ah,Ak=>Z0 L r3 a0 (R6 L r3 a0 n) Ah Ak
theorem B68(r3:(List Ao)×Int)(a0:H1):LP (EV (O4 L) L 9 c4.x.u.l.u.l.l) [0,1,2,3,4,5] [1] (B7u r3 a0) [.ret,.exit 0] (λn v=>R6 L r3 a0 n v.1 v.2) K:=lE (λ_=>rfl) λn v ih=>eE (Z0 L r3 a0 (λAh Ak=>re (ih (Ah,Ak))) v.1 v.2)
def q6 [An A Bool](o8:Nat×Tu5):A:=
 (sl o8.1 [(lf o8.2.1),
 (bd (Jj L) λr9=>
 (lf r9))])
def Aan [An A Bool](a0:H1)(nx1:((List Ao)×Int)->A):A:=
 (jp (.cn (decide ((a0.bK.length:Int)>300))
 (.lf true)
 (.cn (decide (a0.N>60))
 (.lf (decide (a0.N<=1000)))
 (.lf false))) (λb1=>
 (cn b1
 (bd (Jj L) λr2=>
 (lf r2))
 (bd (Abh L (⟨a0.P.aF,a0.P.aA,a0.P.aH⟩:Ac) a0.bK a0.bW a0.T a0.Step a0.N) λr3=>
 (cn (r3.2 != 0)
 (jb (.cn ((r3.1.length:Int) == 0)
 (.bd (Jj L) λr5=>
 (.lf r5))
 (.lf false)) (λb4=>
 (lf b4)))
 (cn ((r3.1.length:Int) != a0.N)
 (lf false)
 (nx1 r3)))))))
def Ase [An A Bool](a0:H1):A:=Aan L a0 (λr3=>bd (R6 L r3 a0 L false 0) λo8=>q6 L o8)
def Asc(a0:H1):Option Bool:=Ase L a0
theorem h4(a0:H1)(r:Bool)(h:Asc L a0=some r):W3 Tryz.prog 4 [.agg (Uv a0)] (B r):=(show Ho Tryz.prog 4 [.agg (Uv a0)] B r from hF Tryz.func4 (C:=O4 L) (oS _) L (λkk=>eE (Aan L a0 (λr3=>hq (B68 L (KA (O4 L) L 9 c4 (rl [10,1,2,1]) (KE Tryz.f4 kk)) r3 a0 L (false,0)) λo8=>q6 L o8))) h)
def Azi [An A Bool](L:Nat)(a0:Ao):A:=
 (jp (.cn (decide ((a0.dY.length:Int)<=50))
 (.lf (decide ((a0.Held.length:Int)<=50)))
 (.lf false)) (λb1=>
 (jp (.cn b1
 (.lf (decide ((a0.dB.length:Int)<=50)))
 (.lf false)) (λb2=>
 (jp (.cn b2
 (.lf (decide ((a0.Items.length:Int)<=50)))
 (.lf false)) (λb3=>
 (lf b3)))))))
def Ap1(a0:Ao):Option Bool:=Azi L a0
def X14:F3:=E1 B 14 Ry (Ap1 L) λa0 r h=>hF Tryz.func14 (oS []) L (λkk=>eE (Azi L a0)) h
def Ahe(L:Nat)(a0:Int):Option Yb:=if -9223372036854775808<=a0/\a0<=9223372036854775807 then some (Bw9 a0)else none
def X44(L:Nat):F3:=E1 S 44 (cI .i64) (Ahe L) λa0 r h=>by
 unfold Ahe at h;split at h
 ·rename_i hn;injection h with h
  subst h;exact Btn a0 hn.1 hn.2
 ·cases h
def A28 [An A Yb](a0:Int):A:=
 (bd (Ahe L a0) λr1=>
 (lf r1))
def Anl(a0:Int):Option Yb:=A28 L a0
def X25:F3:=E1 S 25 (cI .i64) (Anl L) λa0 r h=>hF Tryz.func25 (oS [X44 L]) L (λkk=>eE (A28 L a0)) h
def c26:=CC Tryz.f26
def O26:Bc:=oL [X25 L]
def B23(a1:List Int)(v:Yb×Int):St:=⟨[(0,S v.1),(1,.any),(4,S (⟨#[]⟩:Yb)),(7,lv (.t3 a1)),(8,I (a1.length:Int)),(9,I v.2)],[],0⟩
def Ajh [An A (Nat×Yb×Int)](a1:List Int)(rec:Yb->Int->A)(Ah:Yb)(Bj:Int):A:=
 (lw Bj a1
 (bd (Anl L (gD a1 Bj)) λr1=>
 (cn (!decide ((((⟨#[32]⟩:Yb).size+r1.size:Nat):Int)>IntKind.i64.max))
 (cn (!decide (((Ah.size+((⟨#[32]⟩:Yb)++r1).size:Nat):Int)>IntKind.i64.max))
 (rec (Ah++((⟨#[32]⟩:Yb)++r1)) (Bu (Bj+1)))
 fl)
 fl))
 (lf (0,Ah,Bj)))
def j6(L:Nat)(a1:List Int):Nat->Yb->Int->Option (Nat×Yb×Int)
 |0,_,_=>none
 |n+1,Ah,Bj=>Ajh L a1 (j6 L a1 n) Ah Bj
theorem B03(a1:List Int):LP (EV (O26 L) L 9 c26.u.l.u.l.l) [0,1,4,7,8,9] [] (B23 a1) [.exit 0] (λn v=>j6 L a1 n v.1 v.2) K:=lE (λ_=>rfl) λn v ih=>eE (Ajh L a1 (λAh Bj=>re (ih (Ah,Bj))) v.1 v.2)
def Ajr [An A Yb](L:Nat)(o2:Nat×Yb×Int):A:=
 (sl o2.1 [(cn (!decide (((o2.2.1.size+(⟨#[10]⟩:Yb).size:Nat):Int)>IntKind.i64.max))
 (lf (o2.2.1++(⟨#[10]⟩:Yb)))
 fl)])
def A25 [An A Yb](a0:Yb)(a1:List Int):A:=(bd (j6 L a1 L a0 0) λo2=>Ajr L o2)
def Ur(a0:Yb)(a1:List Int):Option Yb:=A25 L a0 a1
def X26:F3:=E2 S 26 cS cl3 (Ur L) λa0 a1 r h=>hF Tryz.func26 (C:=O26 L) (oS _) L (λkk=>eE ((hq (B03 L (KA (O26 L) L 9 c26 (rl [2,1,2,1]) (KE Tryz.f26 kk)) a1 L (a0,0)) λo2=>Ajr L o2))) h
def Aqq [An A Yb](a0:Ao):A:=
 (bd (Anl L a0.Time) λr1=>
 (cn (!decide ((((⟨#[97,116,32]⟩:Yb).size+r1.size:Nat):Int)>IntKind.i64.max))
 (cn (!decide (((((⟨#[97,116,32]⟩:Yb)++r1).size+(⟨#[32,115,105,116,101,32]⟩:Yb).size:Nat):Int)>IntKind.i64.max))
 (bd (Anl L a0.bW) λr2=>
 (cn (!decide ((((((⟨#[97,116,32]⟩:Yb)++r1)++(⟨#[32,115,105,116,101,32]⟩:Yb)).size+r2.size:Nat):Int)>IntKind.i64.max))
 (cn (!decide (((((((⟨#[97,116,32]⟩:Yb)++r1)++(⟨#[32,115,105,116,101,32]⟩:Yb))++r2).size+(⟨#[10]⟩:Yb).size:Nat):Int)>IntKind.i64.max))
 (bd (Ur L (⟨#[112,114,111,99,115]⟩:Yb) a0.dY) λr3=>
 (cn (!decide ((((((((⟨#[97,116,32]⟩:Yb)++r1)++(⟨#[32,115,105,116,101,32]⟩:Yb))++r2)++(⟨#[10]⟩:Yb)).size+r3.size:Nat):Int)>IntKind.i64.max))
 (bd (Ur L (⟨#[104,101,108,100]⟩:Yb) a0.Held) λr4=>
 (cn (!decide (((((((((⟨#[97,116,32]⟩:Yb)++r1)++(⟨#[32,115,105,116,101,32]⟩:Yb))++r2)++(⟨#[10]⟩:Yb))++r3).size+r4.size:Nat):Int)>IntKind.i64.max))
 (bd (Ur L (⟨#[119,97,105,116,105,110,103]⟩:Yb) a0.dB) λr5=>
 (cn (!decide ((((((((((⟨#[97,116,32]⟩:Yb)++r1)++(⟨#[32,115,105,116,101,32]⟩:Yb))++r2)++(⟨#[10]⟩:Yb))++r3)++r4).size+r5.size:Nat):Int)>IntKind.i64.max))
 (bd (Ur L (⟨#[105,116,101,109,115]⟩:Yb) a0.Items) λr6=>
 (cn (!decide (((((((((((⟨#[97,116,32]⟩:Yb)++r1)++(⟨#[32,115,105,116,101,32]⟩:Yb))++r2)++(⟨#[10]⟩:Yb))++r3)++r4)++r5).size+r6.size:Nat):Int)>IntKind.i64.max))
 (lf (((((((((⟨#[97,116,32]⟩:Yb)++r1)++(⟨#[32,115,105,116,101,32]⟩:Yb))++r2)++(⟨#[10]⟩:Yb))++r3)++r4)++r5)++r6))
 fl))
 fl))
 fl))
 fl))
 fl)
 fl))
 fl)
 fl))
def Zj(a0:Ao):Option Yb:=Aqq L a0
def X15:F3:=E1 S 15 Ry (Zj L) λa0 r h=>hF Tryz.func15 (oS [X25 L,X26 L]) L (λkk=>eE (Aqq L a0)) h
end
end Go.Proofs.YthjhkpgonleelaaGreatDoor.Ev
namespace Go.Proofs.YthjhkpgonleelaaGreatDoor.Ev
open Go An
noncomputable section
variable {A:Type} (L n:Nat) (kk:K5) (K:Ef) (k:Dj)
def Aqp [An A Bool](a0:Ao)(a1:Ao):A:=
 (jp (.cn (a0.Time == a1.Time)
 (.lf (a0.bW == a1.bW))
 (.lf false)) (λb1=>
 (jb (.cn b1
 (.bd (Ep L a0.dY a1.dY) λr3=>
 (.lf r3))
 (.lf false)) (λb2=>
 (jb (.cn b2
 (.bd (Ep L a0.Held a1.Held) λr5=>
 (.lf r5))
 (.lf false)) (λb4=>
 (jb (.cn b4
 (.bd (Ep L a0.dB a1.dB) λr7=>
 (.lf r7))
 (.lf false)) (λb6=>
 (jb (.cn b6
 (.bd (Ep L a0.Items a1.Items) λr9=>
 (.lf r9))
 (.lf false)) (λb8=>
 (lf b8)))))))))))
def Ap4(a0:Ao)(a1:Ao):Option Bool:=Aqp L a0 a1
def X17:F3:=E2 B 17 Ry Ry (Ap4 L) λa0 a1 r h=>hF Tryz.func17 (oS [X29 L]) L (λkk=>eE (Aqp L a0 a1)) h
def Ahi [An A Bool](a0:Ao)(a1:Ao):A:=
 (bd (Ap1 L a0) λr1=>
 (jb (.cn (!r1)
 (.lf true)
 (.bd (Ap1 L a1) λr3=>
 (.lf (!r3)))) (λb2=>
 (cn b2
 (bd (Jj L) λr4=>
 (lf r4))
 (bd (Zj L a0) λr5=>
 (bd (A2m L a0) λr6=>
 (cn (r5.toList == r6.toList)
 (bd (Ap4 L a0 a1) λr7=>
 (bd (O8 L a0 a1) λr8=>
 (cn (r7 == r8)
 (bd (Zj L a0) λr9=>
 (bd (Zj L a1) λr10=>
 (bd (O8 L a0 a1) λr11=>
 (cn ((r9.toList == r10.toList) == r11)
 (bd (Jj L) λr12=>
 (lf r12))
 (lf false)))))
 (lf false))))
 (lf false))))))))
def Atc(a0:Ao)(a1:Ao):Option Bool:=Ahi L a0 a1
theorem h5(a0:Ao)(a1:Ao)(r:Bool)(h:Atc L a0 a1=some r):W3 Tryz.prog 5 [.agg (Lr a0),.agg (Lr a1)] (B r):=(show Ho Tryz.prog 5 [.agg (Lr a0),.agg (Lr a1)] B r from hF Tryz.func5 (oS [X7 L,X12 L,X14 L,X15 L,X16 L,X17 L]) L (λkk=>eE (Ahi L a0 a1)) h)
def Yq [An A Bool](a0:H1)(a1:Au)(a2:Int):A:=
 (jb (.cn (decide ((a0.bK.length:Int)>300))
 (.lf true)
 (.bd (Uo L (⟨a0.P.aF,a0.P.aA,a0.P.aH⟩:Ac)) λr2=>
 (.lf (r2 != 0)))) (λb1=>
 (jp (.cn b1
 (.lf true)
 (.cn (a1.bW == a0.bW)
 (.lf (decide (a1.Time<=a0.T)))
 (.lf false))) (λb3=>
 (cn b3
 (bd (Jj L) λr4=>
 (lf r4))
 (cn (!decide ((Bu ((a0.bK.length:Int)+1))=0))
 (gq ((0:Int)<=0)
 (gq (0<=(Int.tmod (Bu (a2)) (Bu ((a0.bK.length:Int)+1))))
 (gq (((Int.tmod (Bu (a2)) (Bu ((a0.bK.length:Int)+1))):Int)<=(a0.bK.length:Int))
 (gq (((a0.bK.length:Int):Int)<=(a0.bK.length:Int))
 (gq ((0+((a0.bK.take (Int.toNat (Int.tmod (Bu (a2)) (Bu ((a0.bK.length:Int)+1))))).drop 0).length)*48<=140737488355328)
 (gq (0+((a0.bK.take (Int.toNat (Int.tmod (Bu (a2)) (Bu ((a0.bK.length:Int)+1))))).drop 0).length<=maxLen)
 (gq ((((a0.bK.take (Int.toNat (Int.tmod (Bu (a2)) (Bu ((a0.bK.length:Int)+1))))).drop 0).length+ [a1].length)*48<=140737488355328)
 (gq (((a0.bK.take (Int.toNat (Int.tmod (Bu (a2)) (Bu ((a0.bK.length:Int)+1))))).drop 0).length+ [a1].length<=maxLen)
 (gq (0<=(Int.tmod (Bu (a2)) (Bu ((a0.bK.length:Int)+1))))
 (gq (((Int.tmod (Bu (a2)) (Bu ((a0.bK.length:Int)+1))):Int)<=(a0.bK.length:Int))
 (gq (((a0.bK.length:Int):Int)<=(a0.bK.length:Int))
 (gq (((a0.bK.length:Int):Int)<=(a0.bK.length:Int))
 (gq (((((a0.bK.take (Int.toNat (Int.tmod (Bu (a2)) (Bu ((a0.bK.length:Int)+1))))).drop 0)++ [a1]).length+((a0.bK.take (Int.toNat (a0.bK.length:Int))).drop (Int.toNat (Int.tmod (Bu (a2)) (Bu ((a0.bK.length:Int)+1))))).length)*48<=140737488355328)
 (gq ((((a0.bK.take (Int.toNat (Int.tmod (Bu (a2)) (Bu ((a0.bK.length:Int)+1))))).drop 0)++ [a1]).length+((a0.bK.take (Int.toNat (a0.bK.length:Int))).drop (Int.toNat (Int.tmod (Bu (a2)) (Bu ((a0.bK.length:Int)+1))))).length<=maxLen)
 (bd (Je L (⟨a0.P.aF,a0.P.aA,a0.P.aH⟩:Ac) a0.bK a0.bW a0.T) λr5=>
 (bd (Je L (⟨a0.P.aF,a0.P.aA,a0.P.aH⟩:Ac) ((((a0.bK.take (Int.toNat (Int.tmod (Bu (a2)) (Bu ((a0.bK.length:Int)+1))))).drop 0)++ [a1])++((a0.bK.take (Int.toNat (a0.bK.length:Int))).drop (Int.toNat (Int.tmod (Bu (a2)) (Bu ((a0.bK.length:Int)+1)))))) a0.bW a0.T) λr6=>
 (jb (.cn (r5.2 == r6.2)
 (.bd (O8 L r5.1 r6.1) λr8=>
 (.lf r8))
 (.lf false)) (λb7=>
 (jb (.cn b7
 (.bd (Jj L) λr10=>
 (.lf r10))
 (.lf false)) (λb9=>
 (lf b9)))))))))))))))))))))
 fl))))))
def Yj(a0:H1)(a1:Au)(a2:Int):Option Bool:=Yq L a0 a1 a2
theorem h6(a0:H1)(a1:Au)(a2:Int)(r:Bool)(h:Yj L a0 a1 a2=some r):W3 Tryz.prog 6 [.agg (Uv a0),.agg (B4 a1),V .u8 a2] (B r):=(show Ho Tryz.prog 6 [.agg (Uv a0),.agg (B4 a1),V .u8 a2] B r from hF Tryz.func6 (oS [X7 L,X8 L,X12 L,X18 L]) L (λkk=>eE (Yq L a0 a1 a2)) h)
end
end Go.Proofs.YthjhkpgonleelaaGreatDoor.Ev
