import Derived.Test.YthjhkpgonleelaaGreatDoorDG10
import Derived.Test.YthjhkpgonleelaaGreatDoorDG6
import Derived.Test.YthjhkpgonleelaaGreatDoorDG7
import Derived.Test.YthjhkpgonleelaaGreatDoorDG1
import Derived.Test.YthjhkpgonleelaaGreatDoorDIA
import Derived.Test.YthjhkpgonleelaaGreatDoorDG15
set_option maxRecDepth 100000
set_option maxHeartbeats 4000000
set_option linter.unusedVariables false
set_option linter.unusedSimpArgs false
set_option linter.unnecessarySimpa false
namespace Go.Proofs.YthjhkpgonleelaaGreatDoor.Ev
open Go An
noncomputable section
variable {A:Type} (L n:Nat) (kk:Lr) (K:Ei) (k:Dj)
def c43:=CC Tryz.f43
def c66:=CC Tryz.f66
def c23:=CC Tryz.f23
def O23:Bc:=oL [X67 L]
def B4y(p1_6:List Ah)(p1_7:Ap)(v:List Ah×Int):St:=⟨[(0,lv (.dN p1_6)),(1,I p1_7.bI),(2,I (-1)),(6,Bi9),(7,.bB true (.dN v.1)),(8,I v.2)],[],1000⟩
def Wc [An A (Nat×List Ah×Int)](L:Nat)(p1_6:List Ah)(p1_7:Ap)(rec:List Ah->Int->A)(Lo:List Ah)(A0p:Int):A:=
 (lw A0p p1_6
 (cn ((gD p1_6 A0p).bG != p1_7.bI)
 (nq (gi A0p p1_6
 (gq ((Lo.length+ [(gD p1_6 A0p)].length)*16<=140737488355328)
 (gq (Lo.length+ [(gD p1_6 A0p)].length<=maxLen)
 (rec (Lo++ [(gD p1_6 A0p)]) (Bs (A0p+1)))))))
 (nq (rec Lo (Bs (A0p+1)))))
 (lf (0,Lo,A0p)))
def Gx(L:Nat)(p1_6:List Ah)(p1_7:Ap):Nat->List Ah->Int->Option (Nat×List Ah×Int)
 |0,_,_=>none
 |n+1,Lo,A0p=>Wc L p1_6 p1_7 (Gx L p1_6 p1_7 n) Lo A0p
theorem Bpg(p1_6:List Ah)(p1_7:Ap):LP (EV (O23 L) L 7 c66.w.l.u.l.l) [0,1,2,6,7,8] [] (B4y p1_6 p1_7) [.exit 0] (λn v=>Gx L p1_6 p1_7 n v.1 v.2) K:=lE (λ_=>rfl) λn v ih=>eE (Wc L p1_6 p1_7 (λLo A0p=>re (ih (Lo,A0p))) v.1 v.2)
def B4z(p1_6:List Ah)(p1_7:Ap)(v:List Ah×Int):St:=⟨[(0,lv (.dN p1_6)),(1,I p1_7.bI),(2,I p1_7.aI),(6,Bi9),(7,.bB true (.dN v.1)),(8,I v.2)],[],1000⟩
def Wd [An A (Nat×List Ah×Int)](L:Nat)(p1_6:List Ah)(p1_7:Ap)(rec:List Ah->Int->A)(Yc:List Ah)(Amg:Int):A:=
 (lw Amg p1_6
 (cn ((gD p1_6 Amg).bG != p1_7.bI)
 (nq (gi Amg p1_6
 (gq ((Yc.length+ [(gD p1_6 Amg)].length)*16<=140737488355328)
 (gq (Yc.length+ [(gD p1_6 Amg)].length<=maxLen)
 (rec (Yc++ [(gD p1_6 Amg)]) (Bs (Amg+1)))))))
 (cn (decide (p1_7.aI>=0))
 (gi Amg p1_6
 (nq (cn ((gD p1_6 Amg).aK != p1_7.aI)
 (gi Amg p1_6
 (gq ((Yc.length+ [(gD p1_6 Amg)].length)*16<=140737488355328)
 (gq (Yc.length+ [(gD p1_6 Amg)].length<=maxLen)
 (rec (Yc++ [(gD p1_6 Amg)]) (Bs (Amg+1))))))
 (rec Yc (Bs (Amg+1))))))
 (nq (rec Yc (Bs (Amg+1))))))
 (lf (0,Yc,Amg)))
def E8(L:Nat)(p1_6:List Ah)(p1_7:Ap):Nat->List Ah->Int->Option (Nat×List Ah×Int)
 |0,_,_=>none
 |n+1,Yc,Amg=>Wd L p1_6 p1_7 (E8 L p1_6 p1_7 n) Yc Amg
theorem Bhz(p1_6:List Ah)(p1_7:Ap):LP (EV (O23 L) L 7 c66.w.l.u.l.l) [0,1,2,6,7,8] [] (B4z p1_6 p1_7) [.exit 0] (λn v=>E8 L p1_6 p1_7 n v.1 v.2) K:=lE (λ_=>rfl) λn v ih=>eE (Wd L p1_6 p1_7 (λYc Amg=>re (ih (Yc,Amg))) v.1 v.2)
def Bz4(p1_0:Int)(p1_1:Int)(p1_2:Nat)(p1_3:Nat)(p1_4:Nat)(p1_5:Nat)(p1_6:List Ah)(p1_7:Ap)(p1_8:Int)(p1_9:Int)(p1_10:Nat)(p1_11:Nat)(p1_12:Nat)(p1_13:Nat)(p1_14:List Int)(p1_15:List Int)(p1_16:List Int)(p1_17:List Int)(k:Dj):A7d->Prop:=λo=>k (.cK [.agg [I p1_0,I p1_1,.vw false 29 3 1 p1_2,.vw false 31 3 1 p1_3,.vw false 33 3 1 p1_4,.vw false 38 3 1 p1_5],lv (.dN o.1)]) [(8,zq2),(11,[I p1_8,I p1_9,.vw false 29 3 1 p1_10,.vw false 31 3 1 p1_11,.vw false 33 3 1 p1_12,.vw false 38 3 1 p1_13]),(29,[.aX (.t3 o.2.1)]),(31,[.aX (.t3 o.2.2.1)]),(33,[.aX (.t3 p1_16)]),(38,[.aX (.t3 o.2.2.2)]),(1042,[I p1_0,I p1_1,.vw false 29 3 1 p1_2,.vw false 31 3 1 p1_3,.vw false 33 3 1 p1_4,.vw false 38 3 1 p1_5]),(1044,(B4 p1_7)),(1045,[I p1_0,I p1_1,.vw false 29 3 1 p1_2,.vw false 31 3 1 p1_3,.vw false 33 3 1 p1_4,.vw false 38 3 1 p1_5])]
def Wn [An A A7d](L:Nat)(p1_14:List Int)(p1_7:Ap)(p1_15:List Int)(p1_17:List Int)(o11:Nat×List Ah×Int):A:=
 (sl o11.1 [(lf (o11.2.1,(p1_14.set (Int.toNat p1_7.aI) (Bs ((gD p1_14 p1_7.aI)-1))),p1_15,p1_17))])
def Wo [An A A7d](L:Nat)(p1_14:List Int)(p1_15:List Int)(p1_17:List Int)(o12:Nat×List Ah×Int):A:=
 (sl o12.1 [(lf (o12.2.1,p1_14,p1_15,p1_17))])
def Wp [An A A7d](L:Nat)(p1_14:List Int)(p1_15:List Int)(p1_7:Ap)(p1_17:List Int)(o13:Nat×List Ah×Int):A:=
 (sl o13.1 [(lf (o13.2.1,p1_14,(p1_15.set (Int.toNat p1_7.aI) (Bs ((gD p1_15 p1_7.aI)+p1_7.Value))),p1_17))])
def Wq [An A A7d](L:Nat)(p1_7:Ap)(p1_14:List Int)(p1_15:List Int)(p1_17:List Int)(o14:Nat×List Ah×Int):A:=
 (sl o14.1 [(gq ((o14.2.1.length+ [(⟨p1_7.bI,p1_7.aI⟩:Ah)].length)*16<=140737488355328)
 (gq (o14.2.1.length+ [(⟨p1_7.bI,p1_7.aI⟩:Ah)].length<=maxLen)
 (lf ((o14.2.1++ [(⟨p1_7.bI,p1_7.aI⟩:Ah)]),p1_14,p1_15,p1_17))))])
def Uu [An A A7d](L:Nat)(p1_7:Ap)(p1_14:List Int)(p1_15:List Int)(p1_17:List Int)(o15:Nat×List Ah×Int):A:=
 (sl o15.1 [(gq ((o15.2.1.length+ [(⟨p1_7.bI,p1_7.aI⟩:Ah)].length)*16<=140737488355328)
 (gq (o15.2.1.length+ [(⟨p1_7.bI,p1_7.aI⟩:Ah)].length<=maxLen)
 (lf ((o15.2.1++ [(⟨p1_7.bI,p1_7.aI⟩:Ah)]),p1_14,(p1_15.set (Int.toNat p1_7.aI) (Bs ((gD p1_15 p1_7.aI)-p1_7.Value))),p1_17))))])
def Xa [An A A7d](p1_0:Int)(p1_1:Int)(p1_2:Nat)(p1_3:Nat)(p1_4:Nat)(p1_5:Nat)(p1_6:List Ah)(p1_7:Ap)(p1_8:Int)(p1_9:Int)(p1_10:Nat)(p1_11:Nat)(p1_12:Nat)(p1_13:Nat)(p1_14:List Int)(p1_15:List Int)(p1_16:List Int)(p1_17:List Int)(nx6:A)(nx7:A)(nx8:A)(nx9:Bool->A)(nx10:A):A:=
 (jp (.cn (decide (p1_7.aI>=0))
 (.lf (decide (p1_7.aI<(p1_2:Int))))
 (.lf false)) (λb2=>
 (jp (.cn (decide (p1_7.aI>=0))
 (.lf (decide (p1_7.aI<(p1_3:Int))))
 (.lf false)) (λb3=>
 (jp (.cn (decide (p1_7.aI>=0))
 (.lf (decide (p1_7.aI<(p1_5:Int))))
 (.lf false)) (λb4=>
 (cn (p1_7.aO == 1)
 (cn b2
 (gq (0<=p1_7.aI)
 (gq (p1_7.aI<((p1_2:Nat):Int))
 (gq (0<=p1_7.aI)
 (gq (p1_7.aI<((p1_2:Nat):Int))
 (lf (p1_6,(p1_14.set (Int.toNat p1_7.aI) (Bs ((gD p1_14 p1_7.aI)+1))),p1_15,p1_17))))))
 (lf (p1_6,p1_14,p1_15,p1_17)))
 (cn (p1_7.aO == 2)
 (cn b2
 (gq (0<=p1_7.aI)
 (gq (p1_7.aI<((p1_2:Nat):Int))
 (gq (0<=p1_7.aI)
 (gq (p1_7.aI<((p1_2:Nat):Int))
 nx6))))
 nx7)
 (cn (p1_7.aO == 4)
 (jb (.cn b3
 (.bd (Z4 L p1_7.Value) λr6=>
 (.lf r6))
 (.lf false)) (λb5=>
 (cn b5
 (gq (0<=p1_7.aI)
 (gq (p1_7.aI<((p1_3:Nat):Int))
 (gq (0<=p1_7.aI)
 (gq (p1_7.aI<((p1_3:Nat):Int))
 nx8))))
 (lf (p1_6,p1_14,p1_15,p1_17)))))
 (cn (p1_7.aO == 5)
 (cn b3
 (nx9 b3)
 (lf (p1_6,p1_14,p1_15,p1_17)))
 (cn (p1_7.aO == 6)
 (jb (.cn b3
 (.bd (Z4 L p1_7.Value) λr8=>
 (.lf r8))
 (.lf false)) (λb7=>
 (cn b7
 (gq (0<=p1_7.aI)
 (gq (p1_7.aI<((p1_3:Nat):Int))
 (gq (0<=p1_7.aI)
 (gq (p1_7.aI<((p1_3:Nat):Int))
 (lf (p1_6,p1_14,(p1_15.set (Int.toNat p1_7.aI) (Bs ((gD p1_15 p1_7.aI)-p1_7.Value))),p1_17))))))
 (lf (p1_6,p1_14,p1_15,p1_17)))))
 (cn (p1_7.aO == 7)
 (jb (.cn b3
 (.bd (Z4 L p1_7.Value) λr10=>
 (.lf r10))
 (.lf false)) (λb9=>
 (cn b9
 (gq (0<=p1_7.aI)
 (gq (p1_7.aI<((p1_3:Nat):Int))
 (gq (0<=p1_7.aI)
 (gq (p1_7.aI<((p1_3:Nat):Int))
 nx10))))
 (lf (p1_6,p1_14,p1_15,p1_17)))))
 (cn (p1_7.aO == 8)
 (cn b4
 (gq (0<=p1_7.aI)
 (gq (p1_7.aI<((p1_5:Nat):Int))
 (gq (0<=p1_7.aI)
 (gq (p1_7.aI<((p1_5:Nat):Int))
 (lf (p1_6,p1_14,p1_15,(p1_17.set (Int.toNat p1_7.aI) (Bs ((gD p1_17 p1_7.aI)+1)))))))))
 (lf (p1_6,p1_14,p1_15,p1_17)))
 (cn (p1_7.aO == 9)
 (cn b4
 (gq (0<=p1_7.aI)
 (gq (p1_7.aI<((p1_5:Nat):Int))
 (gq (0<=p1_7.aI)
 (gq (p1_7.aI<((p1_5:Nat):Int))
 (lf (p1_6,p1_14,p1_15,(p1_17.set (Int.toNat p1_7.aI) (Bs ((gD p1_17 p1_7.aI)-1)))))))))
 (lf (p1_6,p1_14,p1_15,p1_17)))
 (lf (p1_6,p1_14,p1_15,p1_17))))))))))))))))
def Amy [An A A7d](p1_0:Int)(p1_1:Int)(p1_2:Nat)(p1_3:Nat)(p1_4:Nat)(p1_5:Nat)(p1_6:List Ah)(p1_7:Ap)(p1_8:Int)(p1_9:Int)(p1_10:Nat)(p1_11:Nat)(p1_12:Nat)(p1_13:Nat)(p1_14:List Int)(p1_15:List Int)(p1_16:List Int)(p1_17:List Int):A:=Xa L p1_0 p1_1 p1_2 p1_3 p1_4 p1_5 p1_6 p1_7 p1_8 p1_9 p1_10 p1_11 p1_12 p1_13 p1_14 p1_15 p1_16 p1_17 (bd (Gx L p1_6 p1_7 L [] 0) λo11=>Wn L p1_14 p1_7 p1_15 p1_17 o11) (bd (Gx L p1_6 p1_7 L [] 0) λo12=>Wo L p1_14 p1_15 p1_17 o12) (bd (E8 L p1_6 p1_7 L [] 0) λo13=>Wp L p1_14 p1_15 p1_7 p1_17 o13) (λb3=>bd (E8 L p1_6 p1_7 L [] 0) λo14=>Wq L p1_7 p1_14 p1_15 p1_17 o14) (bd (E8 L p1_6 p1_7 L [] 0) λo15=>Uu L p1_7 p1_14 p1_15 p1_17 o15)
def Mk(p1_0:Int)(p1_1:Int)(p1_2:Nat)(p1_3:Nat)(p1_4:Nat)(p1_5:Nat)(p1_6:List Ah)(p1_7:Ap)(p1_8:Int)(p1_9:Int)(p1_10:Nat)(p1_11:Nat)(p1_12:Nat)(p1_13:Nat)(p1_14:List Int)(p1_15:List Int)(p1_16:List Int)(p1_17:List Int):Option A7d:=Amy L p1_0 p1_1 p1_2 p1_3 p1_4 p1_5 p1_6 p1_7 p1_8 p1_9 p1_10 p1_11 p1_12 p1_13 p1_14 p1_15 p1_16 p1_17
theorem B12(p1_0:Int)(p1_1:Int)(p1_2:Nat)(p1_3:Nat)(p1_4:Nat)(p1_5:Nat)(p1_6:List Ah)(p1_7:Ap)(p1_8:Int)(p1_9:Int)(p1_10:Nat)(p1_11:Nat)(p1_12:Nat)(p1_13:Nat)(p1_14:List Int)(p1_15:List Int)(p1_16:List Int)(p1_17:List Int):YO (O23 L) L 9 43 [.agg [I p1_0,I p1_1,.vw false 29 3 1 p1_2,.vw false 31 3 1 p1_3,.vw false 33 3 1 p1_4,.vw false 38 3 1 p1_5],lv (.dN p1_6),.agg (B4 p1_7)] [(8,zq2),(11,[I p1_8,I p1_9,.vw false 29 3 1 p1_10,.vw false 31 3 1 p1_11,.vw false 33 3 1 p1_12,.vw false 38 3 1 p1_13]),(29,[.aX (.t3 p1_14)]),(31,[.aX (.t3 p1_15)]),(33,[.aX (.t3 p1_16)]),(38,[.aX (.t3 p1_17)])] k=ob (Mk L p1_0 p1_1 p1_2 p1_3 p1_4 p1_5 p1_6 p1_7 p1_8 p1_9 p1_10 p1_11 p1_12 p1_13 p1_14 p1_15 p1_16 p1_17) (Bz4 p1_0 p1_1 p1_2 p1_3 p1_4 p1_5 p1_6 p1_7 p1_8 p1_9 p1_10 p1_11 p1_12 p1_13 p1_14 p1_15 p1_16 p1_17 k):=(C4 _ _ _ jn4 _ _ _ _ _ _ _).trans (eE (Xa L p1_0 p1_1 p1_2 p1_3 p1_4 p1_5 p1_6 p1_7 p1_8 p1_9 p1_10 p1_11 p1_12 p1_13 p1_14 p1_15 p1_16 p1_17 (hq (Bpg L (KA (O23 L) L 7 c66 (rl [4,1,2,1]) (KJ Tryz.f66 (KCQ (O23 L) L 8 1 4 c43.x.l.u.l.w.r.l.u ⟨[(78,I p1_7.bI),(77,.loc 1044 3),(76,lv (.dN p1_6)),(1,lv (.dN p1_6)),Bq5,Bq6,Bq7,(7,Bi9)],[(8,zq2),(11,[I p1_8,I p1_9,.vw false 29 3 1 p1_10,.vw false 31 3 1 p1_11,.vw false 33 3 1 p1_12,.vw false 38 3 1 p1_13]),(29,[.aX (.t3 (p1_14.set (Int.toNat p1_7.aI) (Bs ((gD p1_14 p1_7.aI)-1))))]),(31,[.aX (.t3 p1_15)]),(33,[.aX (.t3 p1_16)]),(38,[.aX (.t3 p1_17)]),(1042,[I p1_0,I p1_1,.vw false 29 3 1 p1_2,.vw false 31 3 1 p1_3,.vw false 33 3 1 p1_4,.vw false 38 3 1 p1_5]),(1044,(B4 p1_7)),(1045,zq2)],1039⟩ (some 79) (kN (KA (O23 L) L 8 c43 (rl [8,1,2,1,5,1,2]) (KJ Tryz.f43 k)))))) p1_6 p1_7 L ([],0)) λo11=>Wn L p1_14 p1_7 p1_15 p1_17 o11) (hq (Bpg L (KA (O23 L) L 7 c66 (rl [4,1,2,1]) (KJ Tryz.f66 (KCQ (O23 L) L 8 1 4 c43.x.l.u.l.w.r.l.u ⟨[(78,I p1_7.bI),(77,.loc 1044 3),(76,lv (.dN p1_6)),(1,lv (.dN p1_6)),Bq5,Bq6,Bq7,(7,Bi9)],[(8,zq2),(11,[I p1_8,I p1_9,.vw false 29 3 1 p1_10,.vw false 31 3 1 p1_11,.vw false 33 3 1 p1_12,.vw false 38 3 1 p1_13]),(29,[.aX (.t3 p1_14)]),(31,[.aX (.t3 p1_15)]),(33,[.aX (.t3 p1_16)]),(38,[.aX (.t3 p1_17)]),(1042,[I p1_0,I p1_1,.vw false 29 3 1 p1_2,.vw false 31 3 1 p1_3,.vw false 33 3 1 p1_4,.vw false 38 3 1 p1_5]),(1044,(B4 p1_7)),(1045,zq2)],1039⟩ (some 79) (kN (KA (O23 L) L 8 c43 (rl [8,1,2,1,5,1,2]) (KJ Tryz.f43 k)))))) p1_6 p1_7 L ([],0)) λo12=>Wo L p1_14 p1_15 p1_17 o12) (hq (Bhz L (KA (O23 L) L 7 c66 (rl [4,1,2,1]) (KJ Tryz.f66 (KCQ (O23 L) L 8 1 6 c43.x.l.u.l.x.l.u.l.u ⟨[(106,I p1_7.aI),(105,.loc 1044 4),(104,I p1_7.bI),(103,.loc 1044 3),(102,lv (.dN p1_6)),(1,lv (.dN p1_6)),Bq5,Bq6,Bq7,(7,Bi9)],[(8,zq2),(11,[I p1_8,I p1_9,.vw false 29 3 1 p1_10,.vw false 31 3 1 p1_11,.vw false 33 3 1 p1_12,.vw false 38 3 1 p1_13]),(29,[.aX (.t3 p1_14)]),(31,[.aX (.t3 (p1_15.set (Int.toNat p1_7.aI) (Bs ((gD p1_15 p1_7.aI)+p1_7.Value))))]),(33,[.aX (.t3 p1_16)]),(38,[.aX (.t3 p1_17)]),(1042,[I p1_0,I p1_1,.vw false 29 3 1 p1_2,.vw false 31 3 1 p1_3,.vw false 33 3 1 p1_4,.vw false 38 3 1 p1_5]),(1044,(B4 p1_7)),(1045,zq2)],1039⟩ (some 107) (kN (KA (O23 L) L 8 c43 (rl [8,1,2,1,8,1,2,1,2]) (KJ Tryz.f43 k)))))) p1_6 p1_7 L ([],0)) λo13=>Wp L p1_14 p1_15 p1_7 p1_17 o13) (λb3=>hq (Bhz L (KA (O23 L) L 7 c66 (rl [4,1,2,1]) (KJ Tryz.f66 (Bo7 Tryz.prog (O23 L) (EI (O23 L) L 8) [] (List.drop 6 c43.x.l.u.l.x.u.r.l.u.l.ops) ⟨[(115,I p1_7.aI),(114,.loc 1044 4),(113,I p1_7.bI),(112,.loc 1044 3),(111,lv (.dN p1_6)),(1,lv (.dN p1_6)),Bq5,Bq6,Bq7,(7,Bi9),(110,B b3)],[(8,zq2),(11,[I p1_8,I p1_9,.vw false 29 3 1 p1_10,.vw false 31 3 1 p1_11,.vw false 33 3 1 p1_12,.vw false 38 3 1 p1_13]),(29,[.aX (.t3 p1_14)]),(31,[.aX (.t3 p1_15)]),(33,[.aX (.t3 p1_16)]),(38,[.aX (.t3 p1_17)]),(1042,[I p1_0,I p1_1,.vw false 29 3 1 p1_2,.vw false 31 3 1 p1_3,.vw false 33 3 1 p1_4,.vw false 38 3 1 p1_5]),(1044,(B4 p1_7)),(1045,zq2)],1039⟩ (some 116) (kN (KA (O23 L) L 8 c43 (rl [8,1,2,1,11,1,2,1]) (KJ Tryz.f43 k)))))) p1_6 p1_7 L ([],0)) λo14=>Wq L p1_7 p1_14 p1_15 p1_17 o14) (hq (Bhz L (KA (O23 L) L 7 c66 (rl [4,1,2,1]) (KJ Tryz.f66 (Bo7 Tryz.prog (O23 L) (EI (O23 L) L 8) [] (List.drop 6 c43.x.l.u.l.x.x.r.l.u.l.u.ops) ⟨[(172,I p1_7.aI),(171,.loc 1044 4),(170,I p1_7.bI),(169,.loc 1044 3),(168,lv (.dN p1_6)),(1,lv (.dN p1_6)),Bq5,Bq6,Bq7,(7,Bi9)],[(8,zq2),(11,[I p1_8,I p1_9,.vw false 29 3 1 p1_10,.vw false 31 3 1 p1_11,.vw false 33 3 1 p1_12,.vw false 38 3 1 p1_13]),(29,[.aX (.t3 p1_14)]),(31,[.aX (.t3 (p1_15.set (Int.toNat p1_7.aI) (Bs ((gD p1_15 p1_7.aI)-p1_7.Value))))]),(33,[.aX (.t3 p1_16)]),(38,[.aX (.t3 p1_17)]),(1042,[I p1_0,I p1_1,.vw false 29 3 1 p1_2,.vw false 31 3 1 p1_3,.vw false 33 3 1 p1_4,.vw false 38 3 1 p1_5]),(1044,(B4 p1_7)),(1045,zq2)],1039⟩ (some 173) (kN (KA (O23 L) L 8 c43 (rl [8,1,2,1,17,1,2,1,2]) (KJ Tryz.f43 k)))))) p1_6 p1_7 L ([],0)) λo15=>Uu L p1_7 p1_14 p1_15 p1_17 o15)))
def B4x(a1:List Ap)(a2:Int)(a3:Int)(a0:Ac)(v:Tu9):St:=⟨[(0,.any),(1,lv (.t46 a1)),(2,I a2),(3,I a3),(4,.any),Bdc,(9,.any),(10,.any),(11,.loc 11 0),(12,lv (.dN v.1)),(13,I v.2.1),(14,.any)],[(8,zq2),(11,[I a3,I a2,.vw false 29 3 1 (Int.toNat ((gD a0.aA a2).aD.length:Int)),.vw false 31 3 1 (Int.toNat ((gD a0.aA a2).aL.aG.length:Int)),.vw false 33 3 1 (Int.toNat ((gD a0.aA a2).aL.aG.length:Int)),.vw false 38 3 1 (Int.toNat ((gD a0.aA a2).aL.aM.length:Int))]),(29,[.aX (.t3 v.2.2.1)]),(31,[.aX (.t3 v.2.2.2.1)]),(33,[.aX (.t3 (List.replicate (Int.toNat ((gD a0.aA a2).aL.aG.length:Int)) 0))]),(38,[.aX (.t3 v.2.2.2.2)])],0⟩
def Uv [An A (Nat×Tu9)](L:Nat)(Bj:Int)(rec:List Ah->Int->List Int->List Int->List Int->A)(o16:A7d):A:=
 (rec o16.1 (Bs (Bj+1)) o16.2.1 o16.2.2.1 o16.2.2.2)
def U4 [An A (Nat×Tu9)](L:Nat)(a1:List Ap)(a2:Int)(a3:Int)(a0:Ac)(rec:List Ah->Int->List Int->List Int->List Int->A)(Af:List Ah)(Bj:Int)(Cp:List Int)(Cq:List Int)(D3:List Int)(nx11:(List Ah)->Int->(List Int)->(List Int)->(List Int)->Bool->A):A:=
 (lw Bj a1
 (jb (.cn ((gD a1 Bj).bT == a2)
 (.gq (0<=Bj)
 (.gq (Bj<(a1.length:Int))
 (.lf (decide ((gD a1 Bj).Time<=a3)))))
 (.lf false)) (λb1=>
 (cn b1
 (gi Bj a1
 (nx11 Af Bj Cp Cq D3 b1))
 (rec Af (Bs (Bj+1)) Cp Cq D3))))
 (lf (0,Af,Bj,Cp,Cq,D3)))
def Adp [An A (Nat×Tu9)](a1:List Ap)(a2:Int)(a3:Int)(a0:Ac)(rec:List Ah->Int->List Int->List Int->List Int->A)(Af:List Ah)(Bj:Int)(Cp:List Int)(Cq:List Int)(D3:List Int):A:=U4 L a1 a2 a3 a0 rec Af Bj Cp Cq D3 (λAf Bj Cp Cq D3 b1=>bd (Mk L a3 a2 (Int.toNat ((gD a0.aA a2).aD.length:Int)) (Int.toNat ((gD a0.aA a2).aL.aG.length:Int)) (Int.toNat ((gD a0.aA a2).aL.aG.length:Int)) (Int.toNat ((gD a0.aA a2).aL.aM.length:Int)) Af (gD a1 Bj) a3 a2 (Int.toNat ((gD a0.aA a2).aD.length:Int)) (Int.toNat ((gD a0.aA a2).aL.aG.length:Int)) (Int.toNat ((gD a0.aA a2).aL.aG.length:Int)) (Int.toNat ((gD a0.aA a2).aL.aM.length:Int)) Cp Cq (List.replicate (Int.toNat ((gD a0.aA a2).aL.aG.length:Int)) 0) D3) λo16=>Uv L Bj rec o16)
def Je(L:Nat)(a1:List Ap)(a2:Int)(a3:Int)(a0:Ac):Nat->List Ah->Int->List Int->List Int->List Int->Option (Nat×Tu9)
 |0,_,_,_,_,_=>none
 |n+1,Af,Bj,Cp,Cq,D3=>Adp L a1 a2 a3 a0 (Je L a1 a2 a3 a0 n) Af Bj Cp Cq D3
theorem B2y(a1:List Ap)(a2:Int)(a3:Int)(a0:Ac):LP (EV (O23 L) L 9 c23.x.u.l.u.l.r.l) [0,1,2,3,4,8,9,10,11,12,13,14] [8,11,29,31,33,38] (B4x a1 a2 a3 a0) [.exit 0] (λn v=>Je L a1 a2 a3 a0 n v.1 v.2.1 v.2.2.1 v.2.2.2.1 v.2.2.2.2) K:=lE (λ_=>rfl) λn v ih=>eE (U4 L a1 a2 a3 a0 (λAf Bj Cp Cq D3=>re (ih (Af,Bj,Cp,Cq,D3))) v.1 v.2.1 v.2.2.1 v.2.2.2.1 v.2.2.2.2 (λAf Bj Cp Cq D3 b1=>hq (B12 L (B85 Tryz.prog (O23 L) (EI (O23 L) L 9) [] (List.drop 7 c23.x.u.l.u.l.r.l.u.l.l.u.l.ops) ⟨[(68,.agg (B4 (gD a1 Bj))),(67,.ref (B4 (gD a1 Bj))),(66,I Bj),(65,lv (.t46 a1)),(64,lv (.dN Af)),(63,.agg [I a3,I a2,.vw false 29 3 1 (Int.toNat ((gD a0.aA a2).aD.length:Int)),.vw false 31 3 1 (Int.toNat ((gD a0.aA a2).aL.aG.length:Int)),.vw false 33 3 1 (Int.toNat ((gD a0.aA a2).aL.aG.length:Int)),.vw false 38 3 1 (Int.toNat ((gD a0.aA a2).aL.aM.length:Int))]),(1,lv (.t46 a1)),(2,I a2),(3,I a3),Bdc,(11,.loc 11 0),(12,lv (.dN Af)),(13,I Bj),(40,I Bj),(41,lv (.t46 a1)),(42,I (a1.length:Int)),(43,B (decide (Bj<(a1.length:Int)))),(46,lv (.t46 a1)),(47,I Bj),(48,.ref (B4 (gD a1 Bj))),(49,.ref [I (gD a1 Bj).bT,I (gD a1 Bj).aO,I (gD a1 Bj).bI,I (gD a1 Bj).aI,I (gD a1 Bj).Value]),(50,I (gD a1 Bj).bT),(51,I a2),(52,B ((gD a1 Bj).bT == a2)),(53,B ((gD a1 Bj).bT == a2)),(61,B b1)],[(8,zq2),(11,[I a3,I a2,.vw false 29 3 1 (Int.toNat ((gD a0.aA a2).aD.length:Int)),.vw false 31 3 1 (Int.toNat ((gD a0.aA a2).aL.aG.length:Int)),.vw false 33 3 1 (Int.toNat ((gD a0.aA a2).aL.aG.length:Int)),.vw false 38 3 1 (Int.toNat ((gD a0.aA a2).aL.aM.length:Int))]),(29,[.aX (.t3 Cp)]),(31,[.aX (.t3 Cq)]),(33,[.aX (.t3 (List.replicate (Int.toNat ((gD a0.aA a2).aL.aG.length:Int)) 0))]),(38,[.aX (.t3 D3)])],0⟩ (some 69) (kN (KA (O23 L) L 9 c23.x.u.l.u.l.r.l (rl [2,2,2,1]) (Hm (I2 (EV (O23 L) L 9 c23.x.u.l.u.l.r.l) [0,1,2,3,4,8,9,10,11,12,13,14] [8,11,29,31,33,38] n) [0,1,2,3,4,8,9,10,11,12,13,14] [8,11,29,31,33,38] K)))) a3 a2 (Int.toNat ((gD a0.aA a2).aD.length:Int)) (Int.toNat ((gD a0.aA a2).aL.aG.length:Int)) (Int.toNat ((gD a0.aA a2).aL.aG.length:Int)) (Int.toNat ((gD a0.aA a2).aL.aM.length:Int)) Af (gD a1 Bj) a3 a2 (Int.toNat ((gD a0.aA a2).aD.length:Int)) (Int.toNat ((gD a0.aA a2).aL.aG.length:Int)) (Int.toNat ((gD a0.aA a2).aL.aG.length:Int)) (Int.toNat ((gD a0.aA a2).aL.aM.length:Int)) Cp Cq (List.replicate (Int.toNat ((gD a0.aA a2).aL.aG.length:Int)) 0) D3) λo16=>Uv L Bj (λAf Bj Cp Cq D3=>re (ih (Af,Bj,Cp,Cq,D3))) o16))
def B40(o17:Nat×Tu9)(a3:Int)(a2:Int)(a0:Ac)(v:Int×List Int):St:=⟨[(0,.any),(1,.any),(2,.any),(3,.any),(4,.any),Bdc,(9,.any),(10,.any),(11,.loc 11 0),(12,lv (.dN o17.2.1)),(13,.any),(14,I v.1)],[(8,zq2),(11,[I a3,I a2,.vw false 29 3 1 (Int.toNat ((gD a0.aA a2).aD.length:Int)),.vw false 31 3 1 (Int.toNat ((gD a0.aA a2).aL.aG.length:Int)),.vw false 33 3 1 (Int.toNat ((gD a0.aA a2).aL.aG.length:Int)),.vw false 38 3 1 (Int.toNat ((gD a0.aA a2).aL.aM.length:Int))]),(29,[.aX (.t3 o17.2.2.2.1)]),(31,[.aX (.t3 o17.2.2.2.2.1)]),(33,[.aX (.t3 v.2)]),(38,[.aX (.t3 o17.2.2.2.2.2)])],0⟩
def We [An A (Nat×Int×List Int)](L:Nat)(o17:Nat×Tu9)(a3:Int)(a2:Int)(a0:Ac)(rec:Int->List Int->A)(H6:Int)(d7:List Int):A:=
 (lw H6 o17.2.1
 (gi H6 o17.2.1
 (gq (0<=(gD o17.2.1 H6).aK)
 (gq ((gD o17.2.1 H6).aK<(((Int.toNat ((gD a0.aA a2).aL.aG.length:Int)):Nat):Int))
 (gq (0<=(gD o17.2.1 H6).aK)
 (gq ((gD o17.2.1 H6).aK<(((Int.toNat ((gD a0.aA a2).aL.aG.length:Int)):Nat):Int))
 (rec (Bs (H6+1)) (d7.set (Int.toNat ((gD o17.2.1 H6).aK)) (Bs ((gD d7 ((gD o17.2.1 H6).aK))+1)))))))))
 (lf (0,H6,d7)))
def Jf(L:Nat)(o17:Nat×Tu9)(a3:Int)(a2:Int)(a0:Ac):Nat->Int->List Int->Option (Nat×Int×List Int)
 |0,_,_=>none
 |n+1,H6,d7=>We L o17 a3 a2 a0 (Jf L o17 a3 a2 a0 n) H6 d7
theorem B2z(o17:Nat×Tu9)(a3:Int)(a2:Int)(a0:Ac):LP (EV (O23 L) L 9 c23.x.w.l.u.l.r.l) [0,1,2,3,4,8,9,10,11,12,13,14] [8,11,29,31,33,38] (B40 o17 a3 a2 a0) [.exit 2] (λn v=>Jf L o17 a3 a2 a0 n v.1 v.2) K:=lE (λ_=>rfl) λn v ih=>eE (We L o17 a3 a2 a0 (λH6 d7=>re (ih (H6,d7))) v.1 v.2)
def Abf [An A Ao](L:Nat)(a3:Int)(a2:Int)(o17:Nat×Tu9)(o18:Nat×Int×List Int):A:=
 (sl o18.1 [(lf (⟨a3,a2,o17.2.2.2.1,o17.2.2.2.2.1,o18.2.2,o17.2.2.2.2.2⟩:Ao))])
def Aca [An A Ao](L:Nat)(a3:Int)(a2:Int)(a0:Ac)(o17:Nat×Tu9)(nx13:(Nat×Tu9)->A):A:=
 (sl o17.1 [(nx13 o17)])
def Ak0 [An A Ao](a3:Int)(a2:Int)(a0:Ac)(o17:Nat×Tu9):A:=Aca L a3 a2 a0 o17 (λo17=>bd (Jf L o17 a3 a2 a0 L 0 (List.replicate (Int.toNat ((gD a0.aA a2).aL.aG.length:Int)) 0)) λo18=>Abf L a3 a2 o17 o18)
def Ab9 [An A Ao](L:Nat)(a0:Ac)(a1:List Ap)(a2:Int)(a3:Int)(nx12:A):A:=
 (gi a2 a0.aA
 (gq (0<=((gD a0.aA a2).aD.length:Int))
 (gq (((gD a0.aA a2).aD.length:Int)*((8:Nat):Int)<=140737488355328)
 (gq (((gD a0.aA a2).aD.length:Int)<=9223372036854775807)
 (gq (0<=((gD a0.aA a2).aL.aG.length:Int))
 (gq (((gD a0.aA a2).aL.aG.length:Int)*((8:Nat):Int)<=140737488355328)
 (gq (((gD a0.aA a2).aL.aG.length:Int)<=9223372036854775807)
 (gq (0<=((gD a0.aA a2).aL.aG.length:Int))
 (gq (((gD a0.aA a2).aL.aG.length:Int)*((8:Nat):Int)<=140737488355328)
 (gq (((gD a0.aA a2).aL.aG.length:Int)<=9223372036854775807)
 (gq (0<=((gD a0.aA a2).aL.aM.length:Int))
 (gq (((gD a0.aA a2).aL.aM.length:Int)*((8:Nat):Int)<=140737488355328)
 (gq (((gD a0.aA a2).aL.aM.length:Int)<=9223372036854775807)
 nx12)))))))))))))
def Att [An A Ao](a0:Ac)(a1:List Ap)(a2:Int)(a3:Int):A:=Ab9 L a0 a1 a2 a3 (bd (Je L a1 a2 a3 a0 L [] 0 (List.replicate (Int.toNat ((gD a0.aA a2).aD.length:Int)) 0) (List.replicate (Int.toNat ((gD a0.aA a2).aL.aG.length:Int)) 0) (List.replicate (Int.toNat ((gD a0.aA a2).aL.aM.length:Int)) 0)) λo17=>Ak0 L a3 a2 a0 o17)
def P4(a0:Ac)(a1:List Ap)(a2:Int)(a3:Int):Option Ao:=Att L a0 a1 a2 a3
def X23:F6:=E4 (λ(x:Ao)=>.agg (Ma x)) 23 B7 Blp (cI .i64) (cI .i64) (P4 L) λa0 a1 a2 a3 r h=>hF Tryz.func23 (C:=O23 L) (oS _) L (λkk=>eE (Ab9 L a0 a1 a2 a3 (hq (B2y L (KA (O23 L) L 9 c23 (rl [10,1,2,1,1]) (KE Tryz.f23 kk)) a1 a2 a3 a0 L ([],0,(List.replicate (Int.toNat ((gD a0.aA a2).aD.length:Int)) 0),(List.replicate (Int.toNat ((gD a0.aA a2).aL.aG.length:Int)) 0),(List.replicate (Int.toNat ((gD a0.aA a2).aL.aM.length:Int)) 0))) λo17=>Aca L a3 a2 a0 o17 (λo17=>hq (B2z L (KA (O23 L) L 9 c23 (rl [12,1,2,1,1]) (KE Tryz.f23 kk)) o17 a3 a2 a0 L (0,(List.replicate (Int.toNat ((gD a0.aA a2).aL.aG.length:Int)) 0))) λo18=>Abf L a3 a2 o17 o18)))) h
def A4e [An A (Ao×Int)](a0:Ac)(a1:List Ap)(a2:Int)(a3:Int):A:=
 (bd (Sa L (⟨a0.aF,a0.aA,a0.aH⟩:Ac)) λr1=>
 (cn (r1 != 0)
 (lf ((⟨0,0,[],[],[],[]⟩:Ao),r1))
 (jp (.cn (decide (a2<0))
 (.lf true)
 (.lf (decide (a2>=(a0.aA.length:Int))))) (λb2=>
 (jp (.cn b2
 (.lf true)
 (.lf (decide (a3<0)))) (λb3=>
 (jp (.cn b3
 (.lf true)
 (.lf (decide (a3>1000000000)))) (λb4=>
 (cn b4
 (lf ((⟨0,0,[],[],[],[]⟩:Ao),2))
 (bd (P4 L (⟨a0.aF,a0.aA,a0.aH⟩:Ac) a1 a2 a3) λr5=>
 (lf (r5,0))))))))))))
def Aq0(a0:Ac)(a1:List Ap)(a2:Int)(a3:Int):Option (Ao×Int):=A4e L a0 a1 a2 a3
def X9:F6:=E4 (λ(x:Ao×Int)=>.cK [.agg (Ma x.1),I x.2]) 9 B7 Blp (cI .i64) (cI .i64) (Aq0 L) λa0 a1 a2 a3 r h=>hF Tryz.func9 (oS [X18 L,X23 L]) L (λkk=>eE (A4e L a0 a1 a2 a3)) h
end
end Go.Proofs.YthjhkpgonleelaaGreatDoor.Ev
namespace Go.Proofs.YthjhkpgonleelaaGreatDoor.Ev
open Go An
noncomputable section
variable {A:Type} (L n:Nat) (kk:Lr) (K:Ei) (k:Dj)
def c10:=CC Tryz.f10
def O10:Bc:=oL [X20 L,X21 L,X22 L]
def B4k(a1:List Ap)(a2:Int)(a3:Int)(a4:Int)(a5:Int)(a0:Ac)(v:List Ao×Int):St:=⟨[(0,.any),(1,lv (.t46 a1)),(2,I a2),(3,I a3),(4,I a4),(5,.any),(6,.loc 6 0),(12,.bB true (.t32 [])),(13,I 0),(14,.any),(15,.bB true (.t32 v.1)),(51,I a5),(52,I v.2)],[(6,(Cm a0))],0⟩
def Qx [An A (Nat×List Ao×Int)](a1:List Ap)(a2:Int)(a3:Int)(a4:Int)(a5:Int)(a0:Ac)(rec:List Ao->Int->A)(Bgq:List Ao)(Br:Int):A:=
 (cn (decide (Br<a5))
 (bd (Ic L (⟨a0.aF,a0.aA,a0.aH⟩:Ac) a1 a2 (Bs (a3+(Bs (Br*a4))))) λr8=>
 (gq ((Bgq.length+ [r8].length)*112<=140737488355328)
 (gq (Bgq.length+ [r8].length<=maxLen)
 (rec (Bgq++ [r8]) (Bs (Br+1))))))
 (lf (0,Bgq,Br)))
def Hh(L:Nat)(a1:List Ap)(a2:Int)(a3:Int)(a4:Int)(a5:Int)(a0:Ac):Nat->List Ao->Int->Option (Nat×List Ao×Int)
 |0,_,_=>none
 |n+1,Bgq,Br=>Qx L a1 a2 a3 a4 a5 a0 (Hh L a1 a2 a3 a4 a5 a0 n) Bgq Br
theorem B2k(a1:List Ap)(a2:Int)(a3:Int)(a4:Int)(a5:Int)(a0:Ac):LP (EV (O10 L) L 9 c10.x.l.u.l.l) [0,1,2,3,4,5,6,12,13,14,15,51,52] [6] (B4k a1 a2 a3 a4 a5 a0) [.exit 0] (λn v=>Hh L a1 a2 a3 a4 a5 a0 n v.1 v.2) K:=lE (λ_=>rfl) λn v ih=>eE (Qx L a1 a2 a3 a4 a5 a0 (λBgq Br=>re (ih (Bgq,Br))) v.1 v.2)
def Qz [An A ((List Ao)×Int)](L:Nat)(o9:Nat×List Ao×Int):A:=
 (sl o9.1 [(lf (o9.2.1,0))])
def Ra [An A ((List Ao)×Int)](a0:Ac)(a1:List Ap)(a2:Int)(a3:Int)(a4:Int)(a5:Int)(nx1:A):A:=
 (bd (Sj L (⟨a0.aF,a0.aA,a0.aH⟩:Ac)) λr1=>
 (cn (r1 != 0)
 (lf ([],r1))
 (bd (P5 L (⟨a0.aF,a0.aA,a0.aH⟩:Ac) a2 a3) λr2=>
 (jp (.cn r2
 (.lf true)
 (.lf (decide (a4<1)))) (λb3=>
 (jp (.cn b3
 (.lf true)
 (.lf (decide (a4>1000000000)))) (λb4=>
 (jp (.cn b4
 (.lf true)
 (.lf (decide (a5<0)))) (λb5=>
 (jp (.cn b5
 (.lf true)
 (.lf (decide (a5>1000)))) (λb6=>
 (jp (.cn b6
 (.lf true)
 (.lf (decide ((Bs (a3+(Bs ((Bs (a5-1))*a4))))>1000000000)))) (λb7=>
 (cn b7
 (lf ([],2))
 nx1))))))))))))))
def Amo [An A ((List Ao)×Int)](a0:Ac)(a1:List Ap)(a2:Int)(a3:Int)(a4:Int)(a5:Int):A:=Ra L a0 a1 a2 a3 a4 a5 (bd (Hh L a1 a2 a3 a4 a5 a0 L [] 0) λo9=>Qz L o9)
def Mi(a0:Ac)(a1:List Ap)(a2:Int)(a3:Int)(a4:Int)(a5:Int):Option ((List Ao)×Int):=Amo L a0 a1 a2 a3 a4 a5
def X10:F6:=E6 (λ(x:(List Ao)×Int)=>.cK [lv (.t32 x.1),I x.2]) 10 B7 Blp (cI .i64) (cI .i64) (cI .i64) (cI .i64) (Mi L) λa0 a1 a2 a3 a4 a5 r h=>hF Tryz.func10 (C:=O10 L) (oS _) L (λkk=>eE (Ra L a0 a1 a2 a3 a4 a5 (hq (B2k L (KA (O10 L) L 9 c10 (rl [8,1,2,1]) (KE Tryz.f10 kk)) a1 a2 a3 a4 a5 a0 L ([],0)) λo9=>Qz L o9))) h
end
end Go.Proofs.YthjhkpgonleelaaGreatDoor.Ev
namespace Go.Proofs.YthjhkpgonleelaaGreatDoor.Ev
open Go An
noncomputable section
variable {A:Type} (L n:Nat) (kk:Lr) (K:Ei) (k:Dj)
def c11:=CC Tryz.f11
def O11:Bc:=oL [X18 L,X23 L]
def B4l(a1:List Ap)(a2:Int)(a3:Int)(a4:Int)(a5:Int)(a0:Ac)(v:List Ao×Int):St:=⟨[(0,.any),(1,lv (.t46 a1)),(2,I a2),(3,I a3),(4,I a4),(5,I a5),(6,.loc 6 0),(12,.bB true (.t32 [])),(13,I 0),(14,.any),(15,.bB true (.t32 v.1)),(16,I v.2)],[(6,(Cm a0))],0⟩
def Yi [An A (Nat×List Ao×Int)](a1:List Ap)(a2:Int)(a3:Int)(a4:Int)(a5:Int)(a0:Ac)(rec:List Ao->Int->A)(Dg:List Ao)(Br:Int):A:=
 (cn (decide (Br<a5))
 (bd (P4 L (⟨a0.aF,a0.aA,a0.aH⟩:Ac) a1 a2 (Bs (a3+(Bs (Br*a4))))) λr10=>
 (gq ((Dg.length+ [r10].length)*112<=140737488355328)
 (gq (Dg.length+ [r10].length<=maxLen)
 (rec (Dg++ [r10]) (Bs (Br+1))))))
 (lf (0,Dg,Br)))
def Kq(L:Nat)(a1:List Ap)(a2:Int)(a3:Int)(a4:Int)(a5:Int)(a0:Ac):Nat->List Ao->Int->Option (Nat×List Ao×Int)
 |0,_,_=>none
 |n+1,Dg,Br=>Yi L a1 a2 a3 a4 a5 a0 (Kq L a1 a2 a3 a4 a5 a0 n) Dg Br
theorem B2l(a1:List Ap)(a2:Int)(a3:Int)(a4:Int)(a5:Int)(a0:Ac):LP (EV (O11 L) L 9 c11.x.w.l.u.l.l) [0,1,2,3,4,5,6,12,13,14,15,16] [6] (B4l a1 a2 a3 a4 a5 a0) [.exit 0] (λn v=>Kq L a1 a2 a3 a4 a5 a0 n v.1 v.2) K:=lE (λ_=>rfl) λn v ih=>eE (Yi L a1 a2 a3 a4 a5 a0 (λDg Br=>re (ih (Dg,Br))) v.1 v.2)
def Ag9 [An A ((List Ao)×Int)](L:Nat)(o11:Nat×List Ao×Int):A:=
 (sl o11.1 [(lf (o11.2.1,0))])
def Ahg [An A ((List Ao)×Int)](a0:Ac)(a1:List Ap)(a2:Int)(a3:Int)(a4:Int)(a5:Int)(nx1:A):A:=
 (bd (Sa L (⟨a0.aF,a0.aA,a0.aH⟩:Ac)) λr1=>
 (cn (r1 != 0)
 (lf ([],r1))
 (jp (.cn (decide (a2<0))
 (.lf true)
 (.lf (decide (a2>=(a0.aA.length:Int))))) (λb2=>
 (jp (.cn b2
 (.lf true)
 (.lf (decide (a3<0)))) (λb3=>
 (jp (.cn b3
 (.lf true)
 (.lf (decide (a3>1000000000)))) (λb4=>
 (jp (.cn b4
 (.lf true)
 (.lf (decide (a4<1)))) (λb5=>
 (jp (.cn b5
 (.lf true)
 (.lf (decide (a4>1000000000)))) (λb6=>
 (jp (.cn b6
 (.lf true)
 (.lf (decide (a5<0)))) (λb7=>
 (jp (.cn b7
 (.lf true)
 (.lf (decide (a5>1000)))) (λb8=>
 (cn b8
 (lf ([],2))
 (jp (.cn (decide (a5>0))
 (.lf (decide ((Bs (a3+(Bs ((Bs (a5-1))*a4))))>1000000000)))
 (.lf false)) (λb9=>
 (cn b9
 (lf ([],2))
 nx1))))))))))))))))))))
def Av4 [An A ((List Ao)×Int)](a0:Ac)(a1:List Ap)(a2:Int)(a3:Int)(a4:Int)(a5:Int):A:=Ahg L a0 a1 a2 a3 a4 a5 (bd (Kq L a1 a2 a3 a4 a5 a0 L [] 0) λo11=>Ag9 L o11)
def j7(a0:Ac)(a1:List Ap)(a2:Int)(a3:Int)(a4:Int)(a5:Int):Option ((List Ao)×Int):=Av4 L a0 a1 a2 a3 a4 a5
def X11:F6:=E6 (λ(x:(List Ao)×Int)=>.cK [lv (.t32 x.1),I x.2]) 11 B7 Blp (cI .i64) (cI .i64) (cI .i64) (cI .i64) (j7 L) λa0 a1 a2 a3 a4 a5 r h=>hF Tryz.func11 (C:=O11 L) (oS _) L (λkk=>eE (Ahg L a0 a1 a2 a3 a4 a5 (hq (B2l L (KA (O11 L) L 9 c11 (rl [12,1,2,1]) (KE Tryz.f11 kk)) a1 a2 a3 a4 a5 a0 L ([],0)) λo11=>Ag9 L o11))) h
def c24:=CC Tryz.f24
def O24(L:Nat):Bc:=oL []
def B41(a0:List Int)(a1:List Int)(v:Tu5):St:=⟨[(0,lv (.t3 a0)),(1,lv (.t3 a1)),(4,B v.1),(5,I v.2)],[],0⟩
def T8 [An A (Nat×Tu5)](L:Nat)(a0:List Int)(a1:List Int)(rec:Bool->Int->A)(Al:Bool)(Af:Int):A:=
 (lw Af a0
 (gi Af a1
 (cn ((gD a0 Af) != (gD a1 Af))
 (lf (0,false,Af))
 (rec Al (Bs (Af+1)))))
 (lf (1,Al,Af)))
def Ij(L:Nat)(a0:List Int)(a1:List Int):Nat->Bool->Int->Option (Nat×Tu5)
 |0,_,_=>none
 |n+1,Al,Af=>T8 L a0 a1 (Ij L a0 a1 n) Al Af
theorem B20(a0:List Int)(a1:List Int):LP (EV (O24 L) L 9 c24.w.l.u.l.l) [0,1,4,5] [] (B41 a0 a1) [.ret,.exit 0] (λn v=>Ij L a0 a1 n v.1 v.2) K:=lE (λ_=>rfl) λn v ih=>eE (T8 L a0 a1 (λAl Af=>re (ih (Al,Af))) v.1 v.2)
def Ut [An A Bool](L:Nat)(o1:Nat×Tu5):A:=
 (sl o1.1 [(lf o1.2.1),
 (lf true)])
def U3 [An A Bool](L:Nat)(a0:List Int)(a1:List Int)(nx1:A):A:=
 (cn ((a0.length:Int) != (a1.length:Int))
 (lf false)
 nx1)
def Arl [An A Bool](a0:List Int)(a1:List Int):A:=U3 L a0 a1 (bd (Ij L a0 a1 L false 0) λo1=>Ut L o1)
def Mw(a0:List Int)(a1:List Int):Option Bool:=Arl L a0 a1
def X24:F6:=E2 B 24 cl3 cl3 (Mw L) λa0 a1 r h=>hF Tryz.func24 (C:=O24 L) (oS _) L (λkk=>eE (U3 L a0 a1 (hq (B20 L (KA (O24 L) L 9 c24 (rl [4,1,2,1]) (KE Tryz.f24 kk)) a0 a1 L (false,0)) λo1=>Ut L o1))) h
def Aus [An A Bool](a0:Ao)(a1:Ao):A:=
 (jp (.cn (a0.Time == a1.Time)
 (.lf (a0.bT == a1.bT))
 (.lf false)) (λb1=>
 (jb (.cn b1
 (.bd (Mw L a0.dZ a1.dZ) λr3=>
 (.lf r3))
 (.lf false)) (λb2=>
 (jb (.cn b2
 (.bd (Mw L a0.Held a1.Held) λr5=>
 (.lf r5))
 (.lf false)) (λb4=>
 (jb (.cn b4
 (.bd (Mw L a0.dB a1.dB) λr7=>
 (.lf r7))
 (.lf false)) (λb6=>
 (jb (.cn b6
 (.bd (Mw L a0.Items a1.Items) λr9=>
 (.lf r9))
 (.lf false)) (λb8=>
 (lf b8)))))))))))
def I5(a0:Ao)(a1:Ao):Option Bool:=Aus L a0 a1
def X12:F6:=E2 B 12 So So (I5 L) λa0 a1 r h=>hF Tryz.func12 (oS [X24 L]) L (λkk=>eE (Aus L a0 a1)) h
def c13:=CC Tryz.f13
def O13:Bc:=oL [X12 L]
def B4m(a0:List Ao)(a1:List Ao)(v:Tu5):St:=⟨[(0,lv (.t32 a0)),(1,lv (.t32 a1)),(4,B v.1),(5,I v.2)],[],0⟩
def T9 [An A (Nat×Tu5)](a0:List Ao)(a1:List Ao)(rec:Bool->Int->A)(Al:Bool)(Af:Int):A:=
 (lw Af a0
 (gi Af a1
 (bd (I5 L (gD a0 Af) (gD a1 Af)) λr1=>
 (cn (!r1)
 (lf (0,false,Af))
 (rec Al (Bs (Af+1))))))
 (lf (1,Al,Af)))
def Ik(L:Nat)(a0:List Ao)(a1:List Ao):Nat->Bool->Int->Option (Nat×Tu5)
 |0,_,_=>none
 |n+1,Al,Af=>T9 L a0 a1 (Ik L a0 a1 n) Al Af
theorem B2m(a0:List Ao)(a1:List Ao):LP (EV (O13 L) L 9 c13.w.l.u.l.l) [0,1,4,5] [] (B4m a0 a1) [.ret,.exit 0] (λn v=>Ik L a0 a1 n v.1 v.2) K:=lE (λ_=>rfl) λn v ih=>eE (T9 L a0 a1 (λAl Af=>re (ih (Al,Af))) v.1 v.2)
def Abe [An A Bool](L:Nat)(o2:Nat×Tu5):A:=
 (sl o2.1 [(lf o2.2.1),
 (lf true)])
def Ab8 [An A Bool](L:Nat)(a0:List Ao)(a1:List Ao)(nx1:A):A:=
 (cn ((a0.length:Int) != (a1.length:Int))
 (lf false)
 nx1)
def Arm [An A Bool](a0:List Ao)(a1:List Ao):A:=Ab8 L a0 a1 (bd (Ik L a0 a1 L false 0) λo2=>Abe L o2)
def Vi(a0:List Ao)(a1:List Ao):Option Bool:=Arm L a0 a1
def X13:F6:=E2 B 13 B8v B8v (Vi L) λa0 a1 r h=>hF Tryz.func13 (C:=O13 L) (oS _) L (λkk=>eE (Ab8 L a0 a1 (hq (B2m L (KA (O13 L) L 9 c13 (rl [4,1,2,1]) (KE Tryz.f13 kk)) a0 a1 L (false,0)) λo2=>Abe L o2))) h
end
end Go.Proofs.YthjhkpgonleelaaGreatDoor.Ev
namespace Go.Proofs.YthjhkpgonleelaaGreatDoor.Ev
open Go An
noncomputable section
variable {A:Type} (L n:Nat) (kk:Lr) (K:Ei) (k:Dj)
def Jy(L:Nat):Option Bool:=some true
def oA7:Bc:=orN [(29,X29 100),(8,X8 100),(10,X10 100),(12,X12 100),(13,X13 100)]
def iA7:Nat->Bool:=λf=>inL f [40,41,42,43,56,57,58,59,62,63,65,66,86,87,88,89,90,91,92,93,94,98,99,100,101,102,103,104,105,106,107,108,109,110,111,113,114,115,117,119,120,153,154,155,156,159,160,163,164,166,167,184,188,189,190,191,196,197,198,213,215,219,1102869988105,1102869988110,1114410582365,4398046511170]
def nA7:Nat->Bool:=λf=>inL f [29,8,10,12,13]
def X7(L:Nat):F6:=E0 B 7 (Jy L) λr h=>by
 injection h with h
 subst h;exact Bl2 (inl:=iA7) (nb:=nA7) (base:=oA7) By5 mixed (Bmf _ (by kernel_rfl)) 100 9 40 (λkk=>by kernel_rfl)
def Zq [An A Bool](a0:Ie):A:=
 (jp (.cn (decide ((a0.bQ.length:Int)>300))
 (.lf true)
 (.cn (decide (a0.N>60))
 (.lf (decide (a0.N<=1000)))
 (.lf false))) (λb1=>
 (cn b1
 (bd (Jy L) λr2=>
 (lf r2))
 (bd (Oo L (⟨a0.P.aF,a0.P.aA,a0.P.aH⟩:Ac) a0.bQ a0.bT a0.T) λr3=>
 (bd (Aq0 L (⟨a0.P.aF,a0.P.aA,a0.P.aH⟩:Ac) a0.bQ a0.bT a0.T) λr4=>
 (bd (Mi L (⟨a0.P.aF,a0.P.aA,a0.P.aH⟩:Ac) a0.bQ a0.bT a0.T a0.Step a0.N) λr5=>
 (bd (j7 L (⟨a0.P.aF,a0.P.aA,a0.P.aH⟩:Ac) a0.bQ a0.bT a0.T a0.Step a0.N) λr6=>
 (jb (.cn (r3.2 == r4.2)
 (.bd (I5 L r3.1 r4.1) λr8=>
 (.lf r8))
 (.lf false)) (λb7=>
 (jp (.cn b7
 (.lf (r5.2 == r6.2))
 (.lf false)) (λb9=>
 (jb (.cn b9
 (.bd (Vi L r5.1 r6.1) λr11=>
 (.lf r11))
 (.lf false)) (λb10=>
 (jb (.cn b10
 (.bd (Jy L) λr13=>
 (.lf r13))
 (.lf false)) (λb12=>
 (lf b12))))))))))))))))
def Zk(a0:Ie):Option Bool:=Zq L a0
theorem h3(a0:Ie)(r:Bool)(h:Zk L a0=some r):X2 Tryz.prog 3 [.agg (Vn a0)] (B r):=(show Ho Tryz.prog 3 [.agg (Vn a0)] B r from hF Tryz.func3 (oS [X7 L,X8 L,X9 L,X10 L,X11 L,X12 L,X13 L]) L (λkk=>eE (Zq L a0)) h)
def c4:=CC Tryz.f4
def O4:Bc:=oL [X7 L,X8 L,X10 L,X12 L]
def B9w(r3:(List Ao)×Int)(a0:Ie)(v:Tu5):St:=⟨[(0,.any),zq7,(2,B v.1),(3,lv (.t32 r3.1)),(4,.any),(5,I v.2)],[(1,(Vn a0))],0⟩
def t8 [An A (Nat×Tu5)](r3:(List Ao)×Int)(a0:Ie)(rec:Bool->Int->A)(Ai:Bool)(Al:Int):A:=
 (cn (decide (Al<(r3.1.length:Int)))
 (bd (Oo L (⟨a0.P.aF,a0.P.aA,a0.P.aH⟩:Ac) a0.bQ a0.bT (Bs (a0.T+(Bs (Al*a0.Step))))) λr6=>
 (cn (r6.2 != 0)
 (lf (0,false,Al))
 (gi Al r3.1
 (bd (I5 L r6.1 (gD r3.1 Al)) λr7=>
 (cn (!r7)
 (lf (0,false,Al))
 (rec Ai (Bs (Al+1))))))))
 (lf (1,Ai,Al)))
def Sv(L:Nat)(r3:(List Ao)×Int)(a0:Ie):Nat->Bool->Int->Option (Nat×Tu5)
 |0,_,_=>none
 |n+1,Ai,Al=>t8 L r3 a0 (Sv L r3 a0 n) Ai Al
theorem B89(r3:(List Ao)×Int)(a0:Ie):LP (EV (O4 L) L 9 c4.x.u.l.u.l.l) [0,1,2,3,4,5] [1] (B9w r3 a0) [.ret,.exit 0] (λn v=>Sv L r3 a0 n v.1 v.2) K:=lE (λ_=>rfl) λn v ih=>eE (t8 L r3 a0 (λAi Al=>re (ih (Ai,Al))) v.1 v.2)
def Aar [An A Bool](o8:Nat×Tu5):A:=
 (sl o8.1 [(lf o8.2.1),
 (bd (Jy L) λr9=>
 (lf r9))])
def Abt [An A Bool](a0:Ie)(nx1:((List Ao)×Int)->A):A:=
 (jp (.cn (decide ((a0.bQ.length:Int)>300))
 (.lf true)
 (.cn (decide (a0.N>60))
 (.lf (decide (a0.N<=1000)))
 (.lf false))) (λb1=>
 (cn b1
 (bd (Jy L) λr2=>
 (lf r2))
 (bd (Mi L (⟨a0.P.aF,a0.P.aA,a0.P.aH⟩:Ac) a0.bQ a0.bT a0.T a0.Step a0.N) λr3=>
 (cn (r3.2 != 0)
 (jb (.cn ((r3.1.length:Int) == 0)
 (.bd (Jy L) λr5=>
 (.lf r5))
 (.lf false)) (λb4=>
 (lf b4)))
 (cn ((r3.1.length:Int) != a0.N)
 (lf false)
 (nx1 r3)))))))
def Atf [An A Bool](a0:Ie):A:=Abt L a0 (λr3=>bd (Sv L r3 a0 L false 0) λo8=>Aar L o8)
def Atc(a0:Ie):Option Bool:=Atf L a0
theorem h4(a0:Ie)(r:Bool)(h:Atc L a0=some r):X2 Tryz.prog 4 [.agg (Vn a0)] (B r):=(show Ho Tryz.prog 4 [.agg (Vn a0)] B r from hF Tryz.func4 (C:=O4 L) (oS _) L (λkk=>eE (Abt L a0 (λr3=>hq (B89 L (KA (O4 L) L 9 c4 (rl [10,1,2,1]) (KE Tryz.f4 kk)) r3 a0 L (false,0)) λo8=>Aar L o8))) h)
def A0t [An A Bool](L:Nat)(a0:Ao):A:=
 (jp (.cn (decide ((a0.dZ.length:Int)<=50))
 (.lf (decide ((a0.Held.length:Int)<=50)))
 (.lf false)) (λb1=>
 (jp (.cn b1
 (.lf (decide ((a0.dB.length:Int)<=50)))
 (.lf false)) (λb2=>
 (jp (.cn b2
 (.lf (decide ((a0.Items.length:Int)<=50)))
 (.lf false)) (λb3=>
 (lf b3)))))))
def Aqy(a0:Ao):Option Bool:=A0t L a0
def X14:F6:=E1 B 14 So (Aqy L) λa0 r h=>hF Tryz.func14 (oS []) L (λkk=>eE (A0t L a0)) h
def Air(L:Nat)(a0:Int):Option Yb:=if -9223372036854775808<=a0/\a0<=9223372036854775807 then some (By6 a0)else none
def X44(L:Nat):F6:=E1 S 44 (cI .i64) (Air L) λa0 r h=>by
 unfold Air at h;split at h
 ·rename_i hn;injection h with h
  subst h;exact Bvh a0 hn.1 hn.2
 ·cases h
def A4j [An A Yb](a0:Int):A:=
 (bd (Air L a0) λr1=>
 (lf r1))
def Aol(a0:Int):Option Yb:=A4j L a0
def X25:F6:=E1 S 25 (cI .i64) (Aol L) λa0 r h=>hF Tryz.func25 (oS [X44 L]) L (λkk=>eE (A4j L a0)) h
def c26:=CC Tryz.f26
def O26:Bc:=oL [X25 L]
def B42(a1:List Int)(v:Yb×Int):St:=⟨[(0,S v.1),(1,.any),(4,S (⟨#[]⟩:Yb)),(7,lv (.t3 a1)),(8,I (a1.length:Int)),(9,I v.2)],[],0⟩
def Aku [An A (Nat×Yb×Int)](a1:List Int)(rec:Yb->Int->A)(Ai:Yb)(Bj:Int):A:=
 (lw Bj a1
 (bd (Aol L (gD a1 Bj)) λr1=>
 (cn (!decide ((((⟨#[32]⟩:Yb).size+r1.size:Nat):Int)>IntKind.i64.max))
 (cn (!decide (((Ai.size+((⟨#[32]⟩:Yb)++r1).size:Nat):Int)>IntKind.i64.max))
 (rec (Ai++((⟨#[32]⟩:Yb)++r1)) (Bs (Bj+1)))
 fl)
 fl))
 (lf (0,Ai,Bj)))
def Aah(L:Nat)(a1:List Int):Nat->Yb->Int->Option (Nat×Yb×Int)
 |0,_,_=>none
 |n+1,Ai,Bj=>Aku L a1 (Aah L a1 n) Ai Bj
theorem B21(a1:List Int):LP (EV (O26 L) L 9 c26.u.l.u.l.l) [0,1,4,7,8,9] [] (B42 a1) [.exit 0] (λn v=>Aah L a1 n v.1 v.2) K:=lE (λ_=>rfl) λn v ih=>eE (Aku L a1 (λAi Bj=>re (ih (Ai,Bj))) v.1 v.2)
def Ak1 [An A Yb](L:Nat)(o2:Nat×Yb×Int):A:=
 (sl o2.1 [(cn (!decide (((o2.2.1.size+(⟨#[10]⟩:Yb).size:Nat):Int)>IntKind.i64.max))
 (lf (o2.2.1++(⟨#[10]⟩:Yb)))
 fl)])
def A4g [An A Yb](a0:Yb)(a1:List Int):A:=(bd (Aah L a1 L a0 0) λo2=>Ak1 L o2)
def Vj(a0:Yb)(a1:List Int):Option Yb:=A4g L a0 a1
def X26:F6:=E2 S 26 cS cl3 (Vj L) λa0 a1 r h=>hF Tryz.func26 (C:=O26 L) (oS _) L (λkk=>eE ((hq (B21 L (KA (O26 L) L 9 c26 (rl [2,1,2,1]) (KE Tryz.f26 kk)) a1 L (a0,0)) λo2=>Ak1 L o2))) h
def Arp [An A Yb](a0:Ao):A:=
 (bd (Aol L a0.Time) λr1=>
 (cn (!decide ((((⟨#[97,116,32]⟩:Yb).size+r1.size:Nat):Int)>IntKind.i64.max))
 (cn (!decide (((((⟨#[97,116,32]⟩:Yb)++r1).size+(⟨#[32,115,105,116,101,32]⟩:Yb).size:Nat):Int)>IntKind.i64.max))
 (bd (Aol L a0.bT) λr2=>
 (cn (!decide ((((((⟨#[97,116,32]⟩:Yb)++r1)++(⟨#[32,115,105,116,101,32]⟩:Yb)).size+r2.size:Nat):Int)>IntKind.i64.max))
 (cn (!decide (((((((⟨#[97,116,32]⟩:Yb)++r1)++(⟨#[32,115,105,116,101,32]⟩:Yb))++r2).size+(⟨#[10]⟩:Yb).size:Nat):Int)>IntKind.i64.max))
 (bd (Vj L (⟨#[112,114,111,99,115]⟩:Yb) a0.dZ) λr3=>
 (cn (!decide ((((((((⟨#[97,116,32]⟩:Yb)++r1)++(⟨#[32,115,105,116,101,32]⟩:Yb))++r2)++(⟨#[10]⟩:Yb)).size+r3.size:Nat):Int)>IntKind.i64.max))
 (bd (Vj L (⟨#[104,101,108,100]⟩:Yb) a0.Held) λr4=>
 (cn (!decide (((((((((⟨#[97,116,32]⟩:Yb)++r1)++(⟨#[32,115,105,116,101,32]⟩:Yb))++r2)++(⟨#[10]⟩:Yb))++r3).size+r4.size:Nat):Int)>IntKind.i64.max))
 (bd (Vj L (⟨#[119,97,105,116,105,110,103]⟩:Yb) a0.dB) λr5=>
 (cn (!decide ((((((((((⟨#[97,116,32]⟩:Yb)++r1)++(⟨#[32,115,105,116,101,32]⟩:Yb))++r2)++(⟨#[10]⟩:Yb))++r3)++r4).size+r5.size:Nat):Int)>IntKind.i64.max))
 (bd (Vj L (⟨#[105,116,101,109,115]⟩:Yb) a0.Items) λr6=>
 (cn (!decide (((((((((((⟨#[97,116,32]⟩:Yb)++r1)++(⟨#[32,115,105,116,101,32]⟩:Yb))++r2)++(⟨#[10]⟩:Yb))++r3)++r4)++r5).size+r6.size:Nat):Int)>IntKind.i64.max))
 (lf (((((((((⟨#[97,116,32]⟩:Yb)++r1)++(⟨#[32,115,105,116,101,32]⟩:Yb))++r2)++(⟨#[10]⟩:Yb))++r3)++r4)++r5)++r6))
 fl))
 fl))
 fl))
 fl))
 fl)
 fl))
 fl)
 fl))
def j8(a0:Ao):Option Yb:=Arp L a0
def X15:F6:=E1 S 15 So (j8 L) λa0 r h=>hF Tryz.func15 (oS [X25 L,X26 L]) L (λkk=>eE (Arp L a0)) h
end
end Go.Proofs.YthjhkpgonleelaaGreatDoor.Ev
namespace Go.Proofs.YthjhkpgonleelaaGreatDoor.Ev
open Go An
noncomputable section
variable {A:Type} (L n:Nat) (kk:Lr) (K:Ei) (k:Dj)
def Aro [An A Bool](a0:Ao)(a1:Ao):A:=
 (jp (.cn (a0.Time == a1.Time)
 (.lf (a0.bT == a1.bT))
 (.lf false)) (λb1=>
 (jb (.cn b1
 (.bd (Et L a0.dZ a1.dZ) λr3=>
 (.lf r3))
 (.lf false)) (λb2=>
 (jb (.cn b2
 (.bd (Et L a0.Held a1.Held) λr5=>
 (.lf r5))
 (.lf false)) (λb4=>
 (jb (.cn b4
 (.bd (Et L a0.dB a1.dB) λr7=>
 (.lf r7))
 (.lf false)) (λb6=>
 (jb (.cn b6
 (.bd (Et L a0.Items a1.Items) λr9=>
 (.lf r9))
 (.lf false)) (λb8=>
 (lf b8)))))))))))
def Aq1(a0:Ao)(a1:Ao):Option Bool:=Aro L a0 a1
def X17:F6:=E2 B 17 So So (Aq1 L) λa0 a1 r h=>hF Tryz.func17 (oS [X29 L]) L (λkk=>eE (Aro L a0 a1)) h
def Aiv [An A Bool](a0:Ao)(a1:Ao):A:=
 (bd (Aqy L a0) λr1=>
 (jb (.cn (!r1)
 (.lf true)
 (.bd (Aqy L a1) λr3=>
 (.lf (!r3)))) (λb2=>
 (cn b2
 (bd (Jy L) λr4=>
 (lf r4))
 (bd (j8 L a0) λr5=>
 (bd (A3x L a0) λr6=>
 (cn (r5.toList == r6.toList)
 (bd (Aq1 L a0 a1) λr7=>
 (bd (I5 L a0 a1) λr8=>
 (cn (r7 == r8)
 (bd (j8 L a0) λr9=>
 (bd (j8 L a1) λr10=>
 (bd (I5 L a0 a1) λr11=>
 (cn ((r9.toList == r10.toList) == r11)
 (bd (Jy L) λr12=>
 (lf r12))
 (lf false)))))
 (lf false))))
 (lf false))))))))
def Auh(a0:Ao)(a1:Ao):Option Bool:=Aiv L a0 a1
theorem h5(a0:Ao)(a1:Ao)(r:Bool)(h:Auh L a0 a1=some r):X2 Tryz.prog 5 [.agg (Ma a0),.agg (Ma a1)] (B r):=(show Ho Tryz.prog 5 [.agg (Ma a0),.agg (Ma a1)] B r from hF Tryz.func5 (oS [X7 L,X12 L,X14 L,X15 L,X16 L,X17 L]) L (λkk=>eE (Aiv L a0 a1)) h)
def Aiu [An A Bool](a0:Ie)(a1:Ap)(a2:Int):A:=
 (jb (.cn (decide ((a0.bQ.length:Int)>300))
 (.lf true)
 (.bd (Sa L (⟨a0.P.aF,a0.P.aA,a0.P.aH⟩:Ac)) λr2=>
 (.lf (r2 != 0)))) (λb1=>
 (jp (.cn b1
 (.lf true)
 (.cn (a1.bT == a0.bT)
 (.lf (decide (a1.Time<=a0.T)))
 (.lf false))) (λb3=>
 (cn b3
 (bd (Jy L) λr4=>
 (lf r4))
 (cn (!decide ((Bs ((a0.bQ.length:Int)+1))=0))
 (gq ((0:Int)<=0)
 (gq (0<=(Int.tmod (Bs (a2)) (Bs ((a0.bQ.length:Int)+1))))
 (gq (((Int.tmod (Bs (a2)) (Bs ((a0.bQ.length:Int)+1))):Int)<=(a0.bQ.length:Int))
 (gq (((a0.bQ.length:Int):Int)<=(a0.bQ.length:Int))
 (gq ((0+((a0.bQ.take (Int.toNat (Int.tmod (Bs (a2)) (Bs ((a0.bQ.length:Int)+1))))).drop 0).length)*48<=140737488355328)
 (gq (0+((a0.bQ.take (Int.toNat (Int.tmod (Bs (a2)) (Bs ((a0.bQ.length:Int)+1))))).drop 0).length<=maxLen)
 (gq ((((a0.bQ.take (Int.toNat (Int.tmod (Bs (a2)) (Bs ((a0.bQ.length:Int)+1))))).drop 0).length+ [a1].length)*48<=140737488355328)
 (gq (((a0.bQ.take (Int.toNat (Int.tmod (Bs (a2)) (Bs ((a0.bQ.length:Int)+1))))).drop 0).length+ [a1].length<=maxLen)
 (gq (0<=(Int.tmod (Bs (a2)) (Bs ((a0.bQ.length:Int)+1))))
 (gq (((Int.tmod (Bs (a2)) (Bs ((a0.bQ.length:Int)+1))):Int)<=(a0.bQ.length:Int))
 (gq (((a0.bQ.length:Int):Int)<=(a0.bQ.length:Int))
 (gq (((a0.bQ.length:Int):Int)<=(a0.bQ.length:Int))
 (gq (((((a0.bQ.take (Int.toNat (Int.tmod (Bs (a2)) (Bs ((a0.bQ.length:Int)+1))))).drop 0)++ [a1]).length+((a0.bQ.take (Int.toNat (a0.bQ.length:Int))).drop (Int.toNat (Int.tmod (Bs (a2)) (Bs ((a0.bQ.length:Int)+1))))).length)*48<=140737488355328)
 (gq ((((a0.bQ.take (Int.toNat (Int.tmod (Bs (a2)) (Bs ((a0.bQ.length:Int)+1))))).drop 0)++ [a1]).length+((a0.bQ.take (Int.toNat (a0.bQ.length:Int))).drop (Int.toNat (Int.tmod (Bs (a2)) (Bs ((a0.bQ.length:Int)+1))))).length<=maxLen)
 (bd (Oo L (⟨a0.P.aF,a0.P.aA,a0.P.aH⟩:Ac) a0.bQ a0.bT a0.T) λr5=>
 (bd (Oo L (⟨a0.P.aF,a0.P.aA,a0.P.aH⟩:Ac) ((((a0.bQ.take (Int.toNat (Int.tmod (Bs (a2)) (Bs ((a0.bQ.length:Int)+1))))).drop 0)++ [a1])++((a0.bQ.take (Int.toNat (a0.bQ.length:Int))).drop (Int.toNat (Int.tmod (Bs (a2)) (Bs ((a0.bQ.length:Int)+1)))))) a0.bT a0.T) λr6=>
 (jb (.cn (r5.2 == r6.2)
 (.bd (I5 L r5.1 r6.1) λr8=>
 (.lf r8))
 (.lf false)) (λb7=>
 (jb (.cn b7
 (.bd (Jy L) λr10=>
 (.lf r10))
 (.lf false)) (λb9=>
 (lf b9)))))))))))))))))))))
 fl))))))
def Aug(a0:Ie)(a1:Ap)(a2:Int):Option Bool:=Aiu L a0 a1 a2
theorem h6(a0:Ie)(a1:Ap)(a2:Int)(r:Bool)(h:Aug L a0 a1 a2=some r):X2 Tryz.prog 6 [.agg (Vn a0),.agg (B4 a1),V .u8 a2] (B r):=(show Ho Tryz.prog 6 [.agg (Vn a0),.agg (B4 a1),V .u8 a2] B r from hF Tryz.func6 (oS [X7 L,X8 L,X12 L,X18 L]) L (λkk=>eE (Aiu L a0 a1 a2)) h)
end
end Go.Proofs.YthjhkpgonleelaaGreatDoor.Ev
