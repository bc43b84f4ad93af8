import Derived.Test.YthjhkpgonleelaaGreatDoorAG12
namespace Go.Proofs.YthjhkpgonleelaaGreatDoor.Ev
open Go An
set_option maxRecDepth 100000
set_option maxHeartbeats 4000000
set_option linter.unusedVariables false
set_option linter.unusedSimpArgs false
set_option linter.unnecessarySimpa false
noncomputable section
variable {A:Type} (L n:Nat) (kk:Cc) (K:Bg) (k:Bu)
def c43:=CC Tryz.f43
def c66:=CC Tryz.f66
def c23:=CC Tryz.f23
def O23:Bi:=oL [X67 L]
def Bu9:Ak→Prop:=fun x=>kk ((fun(x:Ak)=> .agg (Em x)) x)
def Aqk:Bg:=(Bb 0 (Bp (EV (O23 L) L 8 c43.x.r) (Cx Tryz.prog (RS Tryz.f43) k)))
def A1j(p1_6:List Au)(p1_7:Bl)(v:Tu9):St:=⟨[(0,lv (.t115 p1_6)),(1,I p1_7.Proc),(2,I (-1)),(6,.lst true (.t115 [])),(7,.lst true (.t115 v.1)),(8,I v.2)],[],1000⟩
def d4 [An A (Nat×Tu9)](L:Nat)(p1_6:List Au)(p1_7:Bl)(rec:List Au→Int→A)(Jf:List Au)(Alr:Int):A:=
 (lw Alr p1_6
 (cn ((p1_6.getD (Int.toNat Alr) default).u_proc != p1_7.Proc)
 (nq (gi Alr p1_6
 (gq ((Jf.length+ [(p1_6.getD (Int.toNat Alr) default)].length)*16≤140737488355328)
 (gq (Jf.length+ [(p1_6.getD (Int.toNat Alr) default)].length≤maxLen)
 (rec (Jf++ [(p1_6.getD (Int.toNat Alr) default)]) (Bo (Alr+1)))))))
 (nq (rec Jf (Bo (Alr+1)))))
 (lf (0,Jf,Alr)))
def Kb(L:Nat)(p1_6:List Au)(p1_7:Bl):Nat→List Au→Int→Option (Nat×Tu9)
 |0,_,_=>none
 |n+1,Jf,Alr=>d4 L p1_6 p1_7 (Kb L p1_6 p1_7 n) Jf Alr
theorem Bcz(p1_6:List Au)(p1_7:Bl):LP (EV (O23 L) L 7 c66.w.l.u.l.l) [0,1,2,6,7,8] [] (A1j p1_6 p1_7) [.exit 0] (fun n v=>Kb L p1_6 p1_7 n v.1 v.2) K:=lE (fun _=>rfl) fun n v ih=>eE (d4 L p1_6 p1_7 (fun Jf Alr=>re (ih (Jf,Alr))) v.1 v.2)
def Avp(p1_6:List Au)(p1_7:Bl)(v:Tu9):St:=⟨[(0,lv (.t115 p1_6)),(1,I p1_7.Proc),(2,I p1_7.Index),(6,.lst true (.t115 [])),(7,.lst true (.t115 v.1)),(8,I v.2)],[],1000⟩
def d5 [An A (Nat×Tu9)](L:Nat)(p1_6:List Au)(p1_7:Bl)(rec:List Au→Int→A)(Als:List Au)(Yr:Int):A:=
 (lw Yr p1_6
 (cn ((p1_6.getD (Int.toNat Yr) default).u_proc != p1_7.Proc)
 (nq (gi Yr p1_6
 (gq ((Als.length+ [(p1_6.getD (Int.toNat Yr) default)].length)*16≤140737488355328)
 (gq (Als.length+ [(p1_6.getD (Int.toNat Yr) default)].length≤maxLen)
 (rec (Als++ [(p1_6.getD (Int.toNat Yr) default)]) (Bo (Yr+1)))))))
 (cn (decide (p1_7.Index≥0))
 (gi Yr p1_6
 (nq (cn ((p1_6.getD (Int.toNat Yr) default).u_resource != p1_7.Index)
 (gi Yr p1_6
 (gq ((Als.length+ [(p1_6.getD (Int.toNat Yr) default)].length)*16≤140737488355328)
 (gq (Als.length+ [(p1_6.getD (Int.toNat Yr) default)].length≤maxLen)
 (rec (Als++ [(p1_6.getD (Int.toNat Yr) default)]) (Bo (Yr+1))))))
 (rec Als (Bo (Yr+1))))))
 (nq (rec Als (Bo (Yr+1))))))
 (lf (0,Als,Yr)))
def H0(L:Nat)(p1_6:List Au)(p1_7:Bl):Nat→List Au→Int→Option (Nat×Tu9)
 |0,_,_=>none
 |n+1,Als,Yr=>d5 L p1_6 p1_7 (H0 L p1_6 p1_7 n) Als Yr
theorem A0s(p1_6:List Au)(p1_7:Bl):LP (EV (O23 L) L 7 c66.w.l.u.l.l) [0,1,2,6,7,8] [] (Avp p1_6 p1_7) [.exit 0] (fun n v=>H0 L p1_6 p1_7 n v.1 v.2) K:=lE (fun _=>rfl) fun n v ih=>eE (d5 L p1_6 p1_7 (fun Als Yr=>re (ih (Als,Yr))) v.1 v.2)
def Ag9(p1_0:Int)(p1_1:Int)(p1_2:Nat)(p1_3:Nat)(p1_4:Nat)(p1_5:Nat)(p1_6:List Au)(p1_7:Bl)(p1_8:Ac)(p1_9:ByteArray)(p1_10:List Av)(p1_11:List Ah)(p1_12:List Al)(p1_13:List Be)(p1_14:List ByteArray)(p1_15:List ByteArray)(p1_16:List ByteArray)(p1_17:List ByteArray)(p1_18:List ByteArray)(p1_19:List Aj)(p1_20:List Bv)(p1_21:List Bk)(p1_22:List Ay)(p1_23:Int)(p1_24:Int)(p1_25:Nat)(p1_26:Nat)(p1_27:Nat)(p1_28:Nat)(p1_29:List Int)(p1_30:List Int)(p1_31:List Int)(p1_32:List Int)(k:Bu):Ap0→Prop:=fun o=>k (.tup [.agg [I p1_0,I p1_1,.vw false 29 3 1 p1_2,.vw false 31 3 1 p1_3,.vw false 33 3 1 p1_4,.vw false 38 3 1 p1_5],lv (.t115 o.1)]) [(4,(Bh p1_8)),(8,[I 0,I 0,.lst true (.t3 []),.lst true (.t3 []),.lst true (.t3 []),.lst true (.t3 [])]),(9,[S p1_9,lv (.t123 p1_10),lv (.t86 p1_11),lv (.t89 p1_12),lv (.t178 p1_13),lv (.t9 p1_14),lv (.t9 p1_15),lv (.t9 p1_16),lv (.t9 p1_17),lv (.t9 p1_18),lv (.t93 p1_19),lv (.t150 p1_20),lv (.t154 p1_21),lv (.t78 p1_22)]),(11,[I p1_23,I p1_24,.vw false 29 3 1 p1_25,.vw false 31 3 1 p1_26,.vw false 33 3 1 p1_27,.vw false 38 3 1 p1_28]),(29,[.arrO (.t3 o.2.1)]),(31,[.arrO (.t3 o.2.2.1)]),(33,[.arrO (.t3 p1_31)]),(38,[.arrO (.t3 o.2.2.2)]),(1042,[I p1_0,I p1_1,.vw false 29 3 1 p1_2,.vw false 31 3 1 p1_3,.vw false 33 3 1 p1_4,.vw false 38 3 1 p1_5]),(1044,(Dd p1_7)),(1045,[I p1_0,I p1_1,.vw false 29 3 1 p1_2,.vw false 31 3 1 p1_3,.vw false 33 3 1 p1_4,.vw false 38 3 1 p1_5])]
def Ox [An A Ap0](L:Nat)(p1_29:List Int)(p1_7:Bl)(p1_30:List Int)(p1_32:List Int)(o11:Nat×Tu9):A:=
 (sl o11.1 [(lf (o11.2.1,(p1_29.set (Int.toNat p1_7.Index) (Bo ((p1_29.getD (Int.toNat p1_7.Index) default) - 1))),p1_30,p1_32))])
def Bbg(p1_7:Bl)(p1_6:List Au)(p1_8:Ac)(p1_9:ByteArray)(p1_10:List Av)(p1_11:List Ah)(p1_12:List Al)(p1_13:List Be)(p1_14:List ByteArray)(p1_15:List ByteArray)(p1_16:List ByteArray)(p1_17:List ByteArray)(p1_18:List ByteArray)(p1_19:List Aj)(p1_20:List Bv)(p1_21:List Bk)(p1_22:List Ay)(p1_23:Int)(p1_24:Int)(p1_25:Nat)(p1_26:Nat)(p1_27:Nat)(p1_28:Nat)(p1_29:List Int)(p1_30:List Int)(p1_31:List Int)(p1_32:List Int)(p1_0:Int)(p1_1:Int)(p1_2:Nat)(p1_3:Nat)(p1_4:Nat)(p1_5:Nat):Bg:=(Bb 0 (Bp (EV (O23 L) L 7 c66.w.r) (Cx Tryz.prog (RS Tryz.f66) (A0q Tryz.prog (O23 L) (EI (O23 L) L 8) 1 (List.drop 4 c43.x.l.u.l.w.r.l.u.ops) ⟨[(78,I p1_7.Proc),(77,.loc 1044 3),(76,lv (.t115 p1_6)),(1,lv (.t115 p1_6)),(3,.loc 1042 0),(5,.loc 1044 0),(6,.loc 1045 0),(7,.lst true (.t115 []))],[(4,(Bh p1_8)),(8,[I 0,I 0,.lst true (.t3 []),.lst true (.t3 []),.lst true (.t3 []),.lst true (.t3 [])]),(9,[S p1_9,lv (.t123 p1_10),lv (.t86 p1_11),lv (.t89 p1_12),lv (.t178 p1_13),lv (.t9 p1_14),lv (.t9 p1_15),lv (.t9 p1_16),lv (.t9 p1_17),lv (.t9 p1_18),lv (.t93 p1_19),lv (.t150 p1_20),lv (.t154 p1_21),lv (.t78 p1_22)]),(11,[I p1_23,I p1_24,.vw false 29 3 1 p1_25,.vw false 31 3 1 p1_26,.vw false 33 3 1 p1_27,.vw false 38 3 1 p1_28]),(29,[.arrO (.t3 (p1_29.set (Int.toNat p1_7.Index) (Bo ((p1_29.getD (Int.toNat p1_7.Index) default) - 1))))]),(31,[.arrO (.t3 p1_30)]),(33,[.arrO (.t3 p1_31)]),(38,[.arrO (.t3 p1_32)]),(1042,[I p1_0,I p1_1,.vw false 29 3 1 p1_2,.vw false 31 3 1 p1_3,.vw false 33 3 1 p1_4,.vw false 38 3 1 p1_5]),(1044,(Dd p1_7)),(1045,[I 0,I 0,.lst true (.t3 []),.lst true (.t3 []),.lst true (.t3 []),.lst true (.t3 [])])],1039⟩ (some 79) (fun st9=>(Aqk L k) .normal st9)))))
theorem Bvw(p1_6:List Au)(p1_7:Bl)(p1_8:Ac)(p1_9:ByteArray)(p1_10:List Av)(p1_11:List Ah)(p1_12:List Al)(p1_13:List Be)(p1_14:List ByteArray)(p1_15:List ByteArray)(p1_16:List ByteArray)(p1_17:List ByteArray)(p1_18:List ByteArray)(p1_19:List Aj)(p1_20:List Bv)(p1_21:List Bk)(p1_22:List Ay)(p1_23:Int)(p1_24:Int)(p1_25:Nat)(p1_26:Nat)(p1_27:Nat)(p1_28:Nat)(p1_29:List Int)(p1_30:List Int)(p1_31:List Int)(p1_32:List Int)(p1_0:Int)(p1_1:Int)(p1_2:Nat)(p1_3:Nat)(p1_4:Nat)(p1_5:Nat)(o11:Nat×Tu9):kX [.exit 0] (A1j p1_6 p1_7) (Bbg L k p1_7 p1_6 p1_8 p1_9 p1_10 p1_11 p1_12 p1_13 p1_14 p1_15 p1_16 p1_17 p1_18 p1_19 p1_20 p1_21 p1_22 p1_23 p1_24 p1_25 p1_26 p1_27 p1_28 p1_29 p1_30 p1_31 p1_32 p1_0 p1_1 p1_2 p1_3 p1_4 p1_5) o11=ob (Ox L p1_29 p1_7 p1_30 p1_32 o11) (Ag9 p1_0 p1_1 p1_2 p1_3 p1_4 p1_5 p1_6 p1_7 p1_8 p1_9 p1_10 p1_11 p1_12 p1_13 p1_14 p1_15 p1_16 p1_17 p1_18 p1_19 p1_20 p1_21 p1_22 p1_23 p1_24 p1_25 p1_26 p1_27 p1_28 p1_29 p1_30 p1_31 p1_32 k):=eE (Ox L p1_29 p1_7 p1_30 p1_32 o11)
def Oy [An A Ap0](L:Nat)(p1_29:List Int)(p1_30:List Int)(p1_32:List Int)(o12:Nat×Tu9):A:=
 (sl o12.1 [(lf (o12.2.1,p1_29,p1_30,p1_32))])
def Bbh(p1_7:Bl)(p1_6:List Au)(p1_8:Ac)(p1_9:ByteArray)(p1_10:List Av)(p1_11:List Ah)(p1_12:List Al)(p1_13:List Be)(p1_14:List ByteArray)(p1_15:List ByteArray)(p1_16:List ByteArray)(p1_17:List ByteArray)(p1_18:List ByteArray)(p1_19:List Aj)(p1_20:List Bv)(p1_21:List Bk)(p1_22:List Ay)(p1_23:Int)(p1_24:Int)(p1_25:Nat)(p1_26:Nat)(p1_27:Nat)(p1_28:Nat)(p1_29:List Int)(p1_30:List Int)(p1_31:List Int)(p1_32:List Int)(p1_0:Int)(p1_1:Int)(p1_2:Nat)(p1_3:Nat)(p1_4:Nat)(p1_5:Nat):Bg:=(Bb 0 (Bp (EV (O23 L) L 7 c66.w.r) (Cx Tryz.prog (RS Tryz.f66) (A0q Tryz.prog (O23 L) (EI (O23 L) L 8) 1 (List.drop 4 c43.x.l.u.l.w.r.l.u.ops) ⟨[(78,I p1_7.Proc),(77,.loc 1044 3),(76,lv (.t115 p1_6)),(1,lv (.t115 p1_6)),(3,.loc 1042 0),(5,.loc 1044 0),(6,.loc 1045 0),(7,.lst true (.t115 []))],[(4,(Bh p1_8)),(8,[I 0,I 0,.lst true (.t3 []),.lst true (.t3 []),.lst true (.t3 []),.lst true (.t3 [])]),(9,[S p1_9,lv (.t123 p1_10),lv (.t86 p1_11),lv (.t89 p1_12),lv (.t178 p1_13),lv (.t9 p1_14),lv (.t9 p1_15),lv (.t9 p1_16),lv (.t9 p1_17),lv (.t9 p1_18),lv (.t93 p1_19),lv (.t150 p1_20),lv (.t154 p1_21),lv (.t78 p1_22)]),(11,[I p1_23,I p1_24,.vw false 29 3 1 p1_25,.vw false 31 3 1 p1_26,.vw false 33 3 1 p1_27,.vw false 38 3 1 p1_28]),(29,[.arrO (.t3 p1_29)]),(31,[.arrO (.t3 p1_30)]),(33,[.arrO (.t3 p1_31)]),(38,[.arrO (.t3 p1_32)]),(1042,[I p1_0,I p1_1,.vw false 29 3 1 p1_2,.vw false 31 3 1 p1_3,.vw false 33 3 1 p1_4,.vw false 38 3 1 p1_5]),(1044,(Dd p1_7)),(1045,[I 0,I 0,.lst true (.t3 []),.lst true (.t3 []),.lst true (.t3 []),.lst true (.t3 [])])],1039⟩ (some 79) (fun st9=>(Aqk L k) .normal st9)))))
theorem Bvx(p1_6:List Au)(p1_7:Bl)(p1_8:Ac)(p1_9:ByteArray)(p1_10:List Av)(p1_11:List Ah)(p1_12:List Al)(p1_13:List Be)(p1_14:List ByteArray)(p1_15:List ByteArray)(p1_16:List ByteArray)(p1_17:List ByteArray)(p1_18:List ByteArray)(p1_19:List Aj)(p1_20:List Bv)(p1_21:List Bk)(p1_22:List Ay)(p1_23:Int)(p1_24:Int)(p1_25:Nat)(p1_26:Nat)(p1_27:Nat)(p1_28:Nat)(p1_29:List Int)(p1_30:List Int)(p1_31:List Int)(p1_32:List Int)(p1_0:Int)(p1_1:Int)(p1_2:Nat)(p1_3:Nat)(p1_4:Nat)(p1_5:Nat)(o12:Nat×Tu9):kX [.exit 0] (A1j p1_6 p1_7) (Bbh L k p1_7 p1_6 p1_8 p1_9 p1_10 p1_11 p1_12 p1_13 p1_14 p1_15 p1_16 p1_17 p1_18 p1_19 p1_20 p1_21 p1_22 p1_23 p1_24 p1_25 p1_26 p1_27 p1_28 p1_29 p1_30 p1_31 p1_32 p1_0 p1_1 p1_2 p1_3 p1_4 p1_5) o12=ob (Oy L p1_29 p1_30 p1_32 o12) (Ag9 p1_0 p1_1 p1_2 p1_3 p1_4 p1_5 p1_6 p1_7 p1_8 p1_9 p1_10 p1_11 p1_12 p1_13 p1_14 p1_15 p1_16 p1_17 p1_18 p1_19 p1_20 p1_21 p1_22 p1_23 p1_24 p1_25 p1_26 p1_27 p1_28 p1_29 p1_30 p1_31 p1_32 k):=eE (Oy L p1_29 p1_30 p1_32 o12)
def Oz [An A Ap0](L:Nat)(p1_29:List Int)(p1_30:List Int)(p1_7:Bl)(p1_32:List Int)(o13:Nat×Tu9):A:=
 (sl o13.1 [(lf (o13.2.1,p1_29,(p1_30.set (Int.toNat p1_7.Index) (Bo ((p1_30.getD (Int.toNat p1_7.Index) default)+p1_7.Value))),p1_32))])
def Bbi(p1_7:Bl)(p1_6:List Au)(p1_8:Ac)(p1_9:ByteArray)(p1_10:List Av)(p1_11:List Ah)(p1_12:List Al)(p1_13:List Be)(p1_14:List ByteArray)(p1_15:List ByteArray)(p1_16:List ByteArray)(p1_17:List ByteArray)(p1_18:List ByteArray)(p1_19:List Aj)(p1_20:List Bv)(p1_21:List Bk)(p1_22:List Ay)(p1_23:Int)(p1_24:Int)(p1_25:Nat)(p1_26:Nat)(p1_27:Nat)(p1_28:Nat)(p1_29:List Int)(p1_30:List Int)(p1_31:List Int)(p1_32:List Int)(p1_0:Int)(p1_1:Int)(p1_2:Nat)(p1_3:Nat)(p1_4:Nat)(p1_5:Nat):Bg:=(Bb 0 (Bp (EV (O23 L) L 7 c66.w.r) (Cx Tryz.prog (RS Tryz.f66) (A0q Tryz.prog (O23 L) (EI (O23 L) L 8) 1 (List.drop 6 c43.x.l.u.l.x.l.u.l.u.ops) ⟨[(106,I p1_7.Index),(105,.loc 1044 4),(104,I p1_7.Proc),(103,.loc 1044 3),(102,lv (.t115 p1_6)),(1,lv (.t115 p1_6)),(3,.loc 1042 0),(5,.loc 1044 0),(6,.loc 1045 0),(7,.lst true (.t115 []))],[(4,(Bh p1_8)),(8,[I 0,I 0,.lst true (.t3 []),.lst true (.t3 []),.lst true (.t3 []),.lst true (.t3 [])]),(9,[S p1_9,lv (.t123 p1_10),lv (.t86 p1_11),lv (.t89 p1_12),lv (.t178 p1_13),lv (.t9 p1_14),lv (.t9 p1_15),lv (.t9 p1_16),lv (.t9 p1_17),lv (.t9 p1_18),lv (.t93 p1_19),lv (.t150 p1_20),lv (.t154 p1_21),lv (.t78 p1_22)]),(11,[I p1_23,I p1_24,.vw false 29 3 1 p1_25,.vw false 31 3 1 p1_26,.vw false 33 3 1 p1_27,.vw false 38 3 1 p1_28]),(29,[.arrO (.t3 p1_29)]),(31,[.arrO (.t3 (p1_30.set (Int.toNat p1_7.Index) (Bo ((p1_30.getD (Int.toNat p1_7.Index) default)+p1_7.Value))))]),(33,[.arrO (.t3 p1_31)]),(38,[.arrO (.t3 p1_32)]),(1042,[I p1_0,I p1_1,.vw false 29 3 1 p1_2,.vw false 31 3 1 p1_3,.vw false 33 3 1 p1_4,.vw false 38 3 1 p1_5]),(1044,(Dd p1_7)),(1045,[I 0,I 0,.lst true (.t3 []),.lst true (.t3 []),.lst true (.t3 []),.lst true (.t3 [])])],1039⟩ (some 107) (fun st9=>(Aqk L k) .normal st9)))))
theorem Bvy(p1_6:List Au)(p1_7:Bl)(p1_8:Ac)(p1_9:ByteArray)(p1_10:List Av)(p1_11:List Ah)(p1_12:List Al)(p1_13:List Be)(p1_14:List ByteArray)(p1_15:List ByteArray)(p1_16:List ByteArray)(p1_17:List ByteArray)(p1_18:List ByteArray)(p1_19:List Aj)(p1_20:List Bv)(p1_21:List Bk)(p1_22:List Ay)(p1_23:Int)(p1_24:Int)(p1_25:Nat)(p1_26:Nat)(p1_27:Nat)(p1_28:Nat)(p1_29:List Int)(p1_30:List Int)(p1_31:List Int)(p1_32:List Int)(p1_0:Int)(p1_1:Int)(p1_2:Nat)(p1_3:Nat)(p1_4:Nat)(p1_5:Nat)(o13:Nat×Tu9):kX [.exit 0] (Avp p1_6 p1_7) (Bbi L k p1_7 p1_6 p1_8 p1_9 p1_10 p1_11 p1_12 p1_13 p1_14 p1_15 p1_16 p1_17 p1_18 p1_19 p1_20 p1_21 p1_22 p1_23 p1_24 p1_25 p1_26 p1_27 p1_28 p1_29 p1_30 p1_31 p1_32 p1_0 p1_1 p1_2 p1_3 p1_4 p1_5) o13=ob (Oz L p1_29 p1_30 p1_7 p1_32 o13) (Ag9 p1_0 p1_1 p1_2 p1_3 p1_4 p1_5 p1_6 p1_7 p1_8 p1_9 p1_10 p1_11 p1_12 p1_13 p1_14 p1_15 p1_16 p1_17 p1_18 p1_19 p1_20 p1_21 p1_22 p1_23 p1_24 p1_25 p1_26 p1_27 p1_28 p1_29 p1_30 p1_31 p1_32 k):=eE (Oz L p1_29 p1_30 p1_7 p1_32 o13)
def O0 [An A Ap0](L:Nat)(p1_7:Bl)(p1_29:List Int)(p1_30:List Int)(p1_32:List Int)(o14:Nat×Tu9):A:=
 (sl o14.1 [(gq ((o14.2.1.length+ [(⟨p1_7.Proc,p1_7.Index⟩:Au)].length)*16≤140737488355328)
 (gq (o14.2.1.length+ [(⟨p1_7.Proc,p1_7.Index⟩:Au)].length≤maxLen)
 (lf ((o14.2.1++ [(⟨p1_7.Proc,p1_7.Index⟩:Au)]),p1_29,p1_30,p1_32))))])
def Bbj(p1_7:Bl)(p1_6:List Au)(b3:Bool)(p1_8:Ac)(p1_9:ByteArray)(p1_10:List Av)(p1_11:List Ah)(p1_12:List Al)(p1_13:List Be)(p1_14:List ByteArray)(p1_15:List ByteArray)(p1_16:List ByteArray)(p1_17:List ByteArray)(p1_18:List ByteArray)(p1_19:List Aj)(p1_20:List Bv)(p1_21:List Bk)(p1_22:List Ay)(p1_23:Int)(p1_24:Int)(p1_25:Nat)(p1_26:Nat)(p1_27:Nat)(p1_28:Nat)(p1_29:List Int)(p1_30:List Int)(p1_31:List Int)(p1_32:List Int)(p1_0:Int)(p1_1:Int)(p1_2:Nat)(p1_3:Nat)(p1_4:Nat)(p1_5:Nat):Bg:=(Bb 0 (Bp (EV (O23 L) L 7 c66.w.r) (Cx Tryz.prog (RS Tryz.f66) (Ba1 Tryz.prog (O23 L) (EI (O23 L) L 8) [] (List.drop 6 c43.x.l.u.l.x.u.r.l.u.l.ops) ⟨[(115,I p1_7.Index),(114,.loc 1044 4),(113,I p1_7.Proc),(112,.loc 1044 3),(111,lv (.t115 p1_6)),(1,lv (.t115 p1_6)),(3,.loc 1042 0),(5,.loc 1044 0),(6,.loc 1045 0),(7,.lst true (.t115 [])),(110,B b3)],[(4,(Bh p1_8)),(8,[I 0,I 0,.lst true (.t3 []),.lst true (.t3 []),.lst true (.t3 []),.lst true (.t3 [])]),(9,[S p1_9,lv (.t123 p1_10),lv (.t86 p1_11),lv (.t89 p1_12),lv (.t178 p1_13),lv (.t9 p1_14),lv (.t9 p1_15),lv (.t9 p1_16),lv (.t9 p1_17),lv (.t9 p1_18),lv (.t93 p1_19),lv (.t150 p1_20),lv (.t154 p1_21),lv (.t78 p1_22)]),(11,[I p1_23,I p1_24,.vw false 29 3 1 p1_25,.vw false 31 3 1 p1_26,.vw false 33 3 1 p1_27,.vw false 38 3 1 p1_28]),(29,[.arrO (.t3 p1_29)]),(31,[.arrO (.t3 p1_30)]),(33,[.arrO (.t3 p1_31)]),(38,[.arrO (.t3 p1_32)]),(1042,[I p1_0,I p1_1,.vw false 29 3 1 p1_2,.vw false 31 3 1 p1_3,.vw false 33 3 1 p1_4,.vw false 38 3 1 p1_5]),(1044,(Dd p1_7)),(1045,[I 0,I 0,.lst true (.t3 []),.lst true (.t3 []),.lst true (.t3 []),.lst true (.t3 [])])],1039⟩ (some 116) (fun st9=>(Aqk L k) .normal st9)))))
theorem Bvz(p1_6:List Au)(p1_7:Bl)(b3:Bool)(p1_8:Ac)(p1_9:ByteArray)(p1_10:List Av)(p1_11:List Ah)(p1_12:List Al)(p1_13:List Be)(p1_14:List ByteArray)(p1_15:List ByteArray)(p1_16:List ByteArray)(p1_17:List ByteArray)(p1_18:List ByteArray)(p1_19:List Aj)(p1_20:List Bv)(p1_21:List Bk)(p1_22:List Ay)(p1_23:Int)(p1_24:Int)(p1_25:Nat)(p1_26:Nat)(p1_27:Nat)(p1_28:Nat)(p1_29:List Int)(p1_30:List Int)(p1_31:List Int)(p1_32:List Int)(p1_0:Int)(p1_1:Int)(p1_2:Nat)(p1_3:Nat)(p1_4:Nat)(p1_5:Nat)(o14:Nat×Tu9):kX [.exit 0] (Avp p1_6 p1_7) (Bbj L k p1_7 p1_6 b3 p1_8 p1_9 p1_10 p1_11 p1_12 p1_13 p1_14 p1_15 p1_16 p1_17 p1_18 p1_19 p1_20 p1_21 p1_22 p1_23 p1_24 p1_25 p1_26 p1_27 p1_28 p1_29 p1_30 p1_31 p1_32 p1_0 p1_1 p1_2 p1_3 p1_4 p1_5) o14=ob (O0 L p1_7 p1_29 p1_30 p1_32 o14) (Ag9 p1_0 p1_1 p1_2 p1_3 p1_4 p1_5 p1_6 p1_7 p1_8 p1_9 p1_10 p1_11 p1_12 p1_13 p1_14 p1_15 p1_16 p1_17 p1_18 p1_19 p1_20 p1_21 p1_22 p1_23 p1_24 p1_25 p1_26 p1_27 p1_28 p1_29 p1_30 p1_31 p1_32 k):=eE (O0 L p1_7 p1_29 p1_30 p1_32 o14)
def Nl [An A Ap0](L:Nat)(p1_7:Bl)(p1_29:List Int)(p1_30:List Int)(p1_32:List Int)(o15:Nat×Tu9):A:=
 (sl o15.1 [(gq ((o15.2.1.length+ [(⟨p1_7.Proc,p1_7.Index⟩:Au)].length)*16≤140737488355328)
 (gq (o15.2.1.length+ [(⟨p1_7.Proc,p1_7.Index⟩:Au)].length≤maxLen)
 (lf ((o15.2.1++ [(⟨p1_7.Proc,p1_7.Index⟩:Au)]),p1_29,(p1_30.set (Int.toNat p1_7.Index) (Bo ((p1_30.getD (Int.toNat p1_7.Index) default) - p1_7.Value))),p1_32))))])
def A4z(p1_7:Bl)(p1_6:List Au)(p1_8:Ac)(p1_9:ByteArray)(p1_10:List Av)(p1_11:List Ah)(p1_12:List Al)(p1_13:List Be)(p1_14:List ByteArray)(p1_15:List ByteArray)(p1_16:List ByteArray)(p1_17:List ByteArray)(p1_18:List ByteArray)(p1_19:List Aj)(p1_20:List Bv)(p1_21:List Bk)(p1_22:List Ay)(p1_23:Int)(p1_24:Int)(p1_25:Nat)(p1_26:Nat)(p1_27:Nat)(p1_28:Nat)(p1_29:List Int)(p1_30:List Int)(p1_31:List Int)(p1_32:List Int)(p1_0:Int)(p1_1:Int)(p1_2:Nat)(p1_3:Nat)(p1_4:Nat)(p1_5:Nat):Bg:=(Bb 0 (Bp (EV (O23 L) L 7 c66.w.r) (Cx Tryz.prog (RS Tryz.f66) (Ba1 Tryz.prog (O23 L) (EI (O23 L) L 8) [] (List.drop 6 c43.x.l.u.l.x.x.r.l.u.l.u.ops) ⟨[(172,I p1_7.Index),(171,.loc 1044 4),(170,I p1_7.Proc),(169,.loc 1044 3),(168,lv (.t115 p1_6)),(1,lv (.t115 p1_6)),(3,.loc 1042 0),(5,.loc 1044 0),(6,.loc 1045 0),(7,.lst true (.t115 []))],[(4,(Bh p1_8)),(8,[I 0,I 0,.lst true (.t3 []),.lst true (.t3 []),.lst true (.t3 []),.lst true (.t3 [])]),(9,[S p1_9,lv (.t123 p1_10),lv (.t86 p1_11),lv (.t89 p1_12),lv (.t178 p1_13),lv (.t9 p1_14),lv (.t9 p1_15),lv (.t9 p1_16),lv (.t9 p1_17),lv (.t9 p1_18),lv (.t93 p1_19),lv (.t150 p1_20),lv (.t154 p1_21),lv (.t78 p1_22)]),(11,[I p1_23,I p1_24,.vw false 29 3 1 p1_25,.vw false 31 3 1 p1_26,.vw false 33 3 1 p1_27,.vw false 38 3 1 p1_28]),(29,[.arrO (.t3 p1_29)]),(31,[.arrO (.t3 (p1_30.set (Int.toNat p1_7.Index) (Bo ((p1_30.getD (Int.toNat p1_7.Index) default) - p1_7.Value))))]),(33,[.arrO (.t3 p1_31)]),(38,[.arrO (.t3 p1_32)]),(1042,[I p1_0,I p1_1,.vw false 29 3 1 p1_2,.vw false 31 3 1 p1_3,.vw false 33 3 1 p1_4,.vw false 38 3 1 p1_5]),(1044,(Dd p1_7)),(1045,[I 0,I 0,.lst true (.t3 []),.lst true (.t3 []),.lst true (.t3 []),.lst true (.t3 [])])],1039⟩ (some 173) (fun st9=>(Aqk L k) .normal st9)))))
theorem Bqv(p1_6:List Au)(p1_7:Bl)(p1_8:Ac)(p1_9:ByteArray)(p1_10:List Av)(p1_11:List Ah)(p1_12:List Al)(p1_13:List Be)(p1_14:List ByteArray)(p1_15:List ByteArray)(p1_16:List ByteArray)(p1_17:List ByteArray)(p1_18:List ByteArray)(p1_19:List Aj)(p1_20:List Bv)(p1_21:List Bk)(p1_22:List Ay)(p1_23:Int)(p1_24:Int)(p1_25:Nat)(p1_26:Nat)(p1_27:Nat)(p1_28:Nat)(p1_29:List Int)(p1_30:List Int)(p1_31:List Int)(p1_32:List Int)(p1_0:Int)(p1_1:Int)(p1_2:Nat)(p1_3:Nat)(p1_4:Nat)(p1_5:Nat)(o15:Nat×Tu9):kX [.exit 0] (Avp p1_6 p1_7) (A4z L k p1_7 p1_6 p1_8 p1_9 p1_10 p1_11 p1_12 p1_13 p1_14 p1_15 p1_16 p1_17 p1_18 p1_19 p1_20 p1_21 p1_22 p1_23 p1_24 p1_25 p1_26 p1_27 p1_28 p1_29 p1_30 p1_31 p1_32 p1_0 p1_1 p1_2 p1_3 p1_4 p1_5) o15=ob (Nl L p1_7 p1_29 p1_30 p1_32 o15) (Ag9 p1_0 p1_1 p1_2 p1_3 p1_4 p1_5 p1_6 p1_7 p1_8 p1_9 p1_10 p1_11 p1_12 p1_13 p1_14 p1_15 p1_16 p1_17 p1_18 p1_19 p1_20 p1_21 p1_22 p1_23 p1_24 p1_25 p1_26 p1_27 p1_28 p1_29 p1_30 p1_31 p1_32 k):=eE (Nl L p1_7 p1_29 p1_30 p1_32 o15)
def l6 [An A Ap0](p1_0:Int)(p1_1:Int)(p1_2:Nat)(p1_3:Nat)(p1_4:Nat)(p1_5:Nat)(p1_6:List Au)(p1_7:Bl)(p1_8:Ac)(p1_9:ByteArray)(p1_10:List Av)(p1_11:List Ah)(p1_12:List Al)(p1_13:List Be)(p1_14:List ByteArray)(p1_15:List ByteArray)(p1_16:List ByteArray)(p1_17:List ByteArray)(p1_18:List ByteArray)(p1_19:List Aj)(p1_20:List Bv)(p1_21:List Bk)(p1_22:List Ay)(p1_23:Int)(p1_24:Int)(p1_25:Nat)(p1_26:Nat)(p1_27:Nat)(p1_28:Nat)(p1_29:List Int)(p1_30:List Int)(p1_31:List Int)(p1_32:List Int)(nx6:A)(nx7:A)(nx8:A)(nx9:Bool→A)(nx10:A):A:=
 (jp (.cn (decide (p1_7.Index≥0))
 (.lf (decide (p1_7.Index < (p1_2:Int))))
 (.lf false)) (fun b2=>
 (jp (.cn (decide (p1_7.Index≥0))
 (.lf (decide (p1_7.Index < (p1_3:Int))))
 (.lf false)) (fun b3=>
 (jp (.cn (decide (p1_7.Index≥0))
 (.lf (decide (p1_7.Index < (p1_5:Int))))
 (.lf false)) (fun b4=>
 (cn (p1_7.What == 1)
 (cn b2
 (gq (0≤p1_7.Index)
 (gq (p1_7.Index < ((p1_2:Nat):Int))
 (gq (0≤p1_7.Index)
 (gq (p1_7.Index < ((p1_2:Nat):Int))
 (lf (p1_6,(p1_29.set (Int.toNat p1_7.Index) (Bo ((p1_29.getD (Int.toNat p1_7.Index) default)+1))),p1_30,p1_32))))))
 (lf (p1_6,p1_29,p1_30,p1_32)))
 (cn (p1_7.What == 2)
 (cn b2
 (gq (0≤p1_7.Index)
 (gq (p1_7.Index < ((p1_2:Nat):Int))
 (gq (0≤p1_7.Index)
 (gq (p1_7.Index < ((p1_2:Nat):Int))
 nx6))))
 nx7)
 (cn (p1_7.What == 4)
 (jb (.cn b3
 (.bd (V7 L p1_7.Value) fun r6=>
 (.lf r6))
 (.lf false)) (fun b5=>
 (cn b5
 (gq (0≤p1_7.Index)
 (gq (p1_7.Index < ((p1_3:Nat):Int))
 (gq (0≤p1_7.Index)
 (gq (p1_7.Index < ((p1_3:Nat):Int))
 nx8))))
 (lf (p1_6,p1_29,p1_30,p1_32)))))
 (cn (p1_7.What == 5)
 (cn b3
 (nx9 b3)
 (lf (p1_6,p1_29,p1_30,p1_32)))
 (cn (p1_7.What == 6)
 (jb (.cn b3
 (.bd (V7 L p1_7.Value) fun r8=>
 (.lf r8))
 (.lf false)) (fun b7=>
 (cn b7
 (gq (0≤p1_7.Index)
 (gq (p1_7.Index < ((p1_3:Nat):Int))
 (gq (0≤p1_7.Index)
 (gq (p1_7.Index < ((p1_3:Nat):Int))
 (lf (p1_6,p1_29,(p1_30.set (Int.toNat p1_7.Index) (Bo ((p1_30.getD (Int.toNat p1_7.Index) default) - p1_7.Value))),p1_32))))))
 (lf (p1_6,p1_29,p1_30,p1_32)))))
 (cn (p1_7.What == 7)
 (jb (.cn b3
 (.bd (V7 L p1_7.Value) fun r10=>
 (.lf r10))
 (.lf false)) (fun b9=>
 (cn b9
 (gq (0≤p1_7.Index)
 (gq (p1_7.Index < ((p1_3:Nat):Int))
 (gq (0≤p1_7.Index)
 (gq (p1_7.Index < ((p1_3:Nat):Int))
 nx10))))
 (lf (p1_6,p1_29,p1_30,p1_32)))))
 (cn (p1_7.What == 8)
 (cn b4
 (gq (0≤p1_7.Index)
 (gq (p1_7.Index < ((p1_5:Nat):Int))
 (gq (0≤p1_7.Index)
 (gq (p1_7.Index < ((p1_5:Nat):Int))
 (lf (p1_6,p1_29,p1_30,(p1_32.set (Int.toNat p1_7.Index) (Bo ((p1_32.getD (Int.toNat p1_7.Index) default)+1)))))))))
 (lf (p1_6,p1_29,p1_30,p1_32)))
 (cn (p1_7.What == 9)
 (cn b4
 (gq (0≤p1_7.Index)
 (gq (p1_7.Index < ((p1_5:Nat):Int))
 (gq (0≤p1_7.Index)
 (gq (p1_7.Index < ((p1_5:Nat):Int))
 (lf (p1_6,p1_29,p1_30,(p1_32.set (Int.toNat p1_7.Index) (Bo ((p1_32.getD (Int.toNat p1_7.Index) default) - 1)))))))))
 (lf (p1_6,p1_29,p1_30,p1_32)))
 (lf (p1_6,p1_29,p1_30,p1_32))))))))))))))))
def Akj [An A Ap0](p1_0:Int)(p1_1:Int)(p1_2:Nat)(p1_3:Nat)(p1_4:Nat)(p1_5:Nat)(p1_6:List Au)(p1_7:Bl)(p1_8:Ac)(p1_9:ByteArray)(p1_10:List Av)(p1_11:List Ah)(p1_12:List Al)(p1_13:List Be)(p1_14:List ByteArray)(p1_15:List ByteArray)(p1_16:List ByteArray)(p1_17:List ByteArray)(p1_18:List ByteArray)(p1_19:List Aj)(p1_20:List Bv)(p1_21:List Bk)(p1_22:List Ay)(p1_23:Int)(p1_24:Int)(p1_25:Nat)(p1_26:Nat)(p1_27:Nat)(p1_28:Nat)(p1_29:List Int)(p1_30:List Int)(p1_31:List Int)(p1_32:List Int):A:=l6 L p1_0 p1_1 p1_2 p1_3 p1_4 p1_5 p1_6 p1_7 p1_8 p1_9 p1_10 p1_11 p1_12 p1_13 p1_14 p1_15 p1_16 p1_17 p1_18 p1_19 p1_20 p1_21 p1_22 p1_23 p1_24 p1_25 p1_26 p1_27 p1_28 p1_29 p1_30 p1_31 p1_32 (bd (Kb L p1_6 p1_7 L [] 0) fun o11=>Ox L p1_29 p1_7 p1_30 p1_32 o11) (bd (Kb L p1_6 p1_7 L [] 0) fun o12=>Oy L p1_29 p1_30 p1_32 o12) (bd (H0 L p1_6 p1_7 L [] 0) fun o13=>Oz L p1_29 p1_30 p1_7 p1_32 o13) (fun b3=>bd (H0 L p1_6 p1_7 L [] 0) fun o14=>O0 L p1_7 p1_29 p1_30 p1_32 o14) (bd (H0 L p1_6 p1_7 L [] 0) fun o15=>Nl L p1_7 p1_29 p1_30 p1_32 o15)
def Zh(p1_0:Int)(p1_1:Int)(p1_2:Nat)(p1_3:Nat)(p1_4:Nat)(p1_5:Nat)(p1_6:List Au)(p1_7:Bl)(p1_8:Ac)(p1_9:ByteArray)(p1_10:List Av)(p1_11:List Ah)(p1_12:List Al)(p1_13:List Be)(p1_14:List ByteArray)(p1_15:List ByteArray)(p1_16:List ByteArray)(p1_17:List ByteArray)(p1_18:List ByteArray)(p1_19:List Aj)(p1_20:List Bv)(p1_21:List Bk)(p1_22:List Ay)(p1_23:Int)(p1_24:Int)(p1_25:Nat)(p1_26:Nat)(p1_27:Nat)(p1_28:Nat)(p1_29:List Int)(p1_30:List Int)(p1_31:List Int)(p1_32:List Int):Option Ap0:=Akj L p1_0 p1_1 p1_2 p1_3 p1_4 p1_5 p1_6 p1_7 p1_8 p1_9 p1_10 p1_11 p1_12 p1_13 p1_14 p1_15 p1_16 p1_17 p1_18 p1_19 p1_20 p1_21 p1_22 p1_23 p1_24 p1_25 p1_26 p1_27 p1_28 p1_29 p1_30 p1_31 p1_32
theorem Bm5(p1_0:Int)(p1_1:Int)(p1_2:Nat)(p1_3:Nat)(p1_4:Nat)(p1_5:Nat)(p1_6:List Au)(p1_7:Bl)(p1_8:Ac)(p1_9:ByteArray)(p1_10:List Av)(p1_11:List Ah)(p1_12:List Al)(p1_13:List Be)(p1_14:List ByteArray)(p1_15:List ByteArray)(p1_16:List ByteArray)(p1_17:List ByteArray)(p1_18:List ByteArray)(p1_19:List Aj)(p1_20:List Bv)(p1_21:List Bk)(p1_22:List Ay)(p1_23:Int)(p1_24:Int)(p1_25:Nat)(p1_26:Nat)(p1_27:Nat)(p1_28:Nat)(p1_29:List Int)(p1_30:List Int)(p1_31:List Int)(p1_32:List Int):YO (O23 L) L 9 43 [.agg [I p1_0,I p1_1,.vw false 29 3 1 p1_2,.vw false 31 3 1 p1_3,.vw false 33 3 1 p1_4,.vw false 38 3 1 p1_5],lv (.t115 p1_6),.agg (Dd p1_7)] [(4,(Bh p1_8)),(8,[I 0,I 0,.lst true (.t3 []),.lst true (.t3 []),.lst true (.t3 []),.lst true (.t3 [])]),(9,[S p1_9,lv (.t123 p1_10),lv (.t86 p1_11),lv (.t89 p1_12),lv (.t178 p1_13),lv (.t9 p1_14),lv (.t9 p1_15),lv (.t9 p1_16),lv (.t9 p1_17),lv (.t9 p1_18),lv (.t93 p1_19),lv (.t150 p1_20),lv (.t154 p1_21),lv (.t78 p1_22)]),(11,[I p1_23,I p1_24,.vw false 29 3 1 p1_25,.vw false 31 3 1 p1_26,.vw false 33 3 1 p1_27,.vw false 38 3 1 p1_28]),(29,[.arrO (.t3 p1_29)]),(31,[.arrO (.t3 p1_30)]),(33,[.arrO (.t3 p1_31)]),(38,[.arrO (.t3 p1_32)])] k=ob (Zh L p1_0 p1_1 p1_2 p1_3 p1_4 p1_5 p1_6 p1_7 p1_8 p1_9 p1_10 p1_11 p1_12 p1_13 p1_14 p1_15 p1_16 p1_17 p1_18 p1_19 p1_20 p1_21 p1_22 p1_23 p1_24 p1_25 p1_26 p1_27 p1_28 p1_29 p1_30 p1_31 p1_32) (Ag9 p1_0 p1_1 p1_2 p1_3 p1_4 p1_5 p1_6 p1_7 p1_8 p1_9 p1_10 p1_11 p1_12 p1_13 p1_14 p1_15 p1_16 p1_17 p1_18 p1_19 p1_20 p1_21 p1_22 p1_23 p1_24 p1_25 p1_26 p1_27 p1_28 p1_29 p1_30 p1_31 p1_32 k):=(Cu _ _ _ Xu _ _ _ _ _ _ _).trans (eE (l6 L p1_0 p1_1 p1_2 p1_3 p1_4 p1_5 p1_6 p1_7 p1_8 p1_9 p1_10 p1_11 p1_12 p1_13 p1_14 p1_15 p1_16 p1_17 p1_18 p1_19 p1_20 p1_21 p1_22 p1_23 p1_24 p1_25 p1_26 p1_27 p1_28 p1_29 p1_30 p1_31 p1_32 (ho (Bcz L (Bbg L k p1_7 p1_6 p1_8 p1_9 p1_10 p1_11 p1_12 p1_13 p1_14 p1_15 p1_16 p1_17 p1_18 p1_19 p1_20 p1_21 p1_22 p1_23 p1_24 p1_25 p1_26 p1_27 p1_28 p1_29 p1_30 p1_31 p1_32 p1_0 p1_1 p1_2 p1_3 p1_4 p1_5) p1_6 p1_7 L ([],0)) fun o11=>Bvw L k p1_6 p1_7 p1_8 p1_9 p1_10 p1_11 p1_12 p1_13 p1_14 p1_15 p1_16 p1_17 p1_18 p1_19 p1_20 p1_21 p1_22 p1_23 p1_24 p1_25 p1_26 p1_27 p1_28 p1_29 p1_30 p1_31 p1_32 p1_0 p1_1 p1_2 p1_3 p1_4 p1_5 o11) (ho (Bcz L (Bbh L k p1_7 p1_6 p1_8 p1_9 p1_10 p1_11 p1_12 p1_13 p1_14 p1_15 p1_16 p1_17 p1_18 p1_19 p1_20 p1_21 p1_22 p1_23 p1_24 p1_25 p1_26 p1_27 p1_28 p1_29 p1_30 p1_31 p1_32 p1_0 p1_1 p1_2 p1_3 p1_4 p1_5) p1_6 p1_7 L ([],0)) fun o12=>Bvx L k p1_6 p1_7 p1_8 p1_9 p1_10 p1_11 p1_12 p1_13 p1_14 p1_15 p1_16 p1_17 p1_18 p1_19 p1_20 p1_21 p1_22 p1_23 p1_24 p1_25 p1_26 p1_27 p1_28 p1_29 p1_30 p1_31 p1_32 p1_0 p1_1 p1_2 p1_3 p1_4 p1_5 o12) (ho (A0s L (Bbi L k p1_7 p1_6 p1_8 p1_9 p1_10 p1_11 p1_12 p1_13 p1_14 p1_15 p1_16 p1_17 p1_18 p1_19 p1_20 p1_21 p1_22 p1_23 p1_24 p1_25 p1_26 p1_27 p1_28 p1_29 p1_30 p1_31 p1_32 p1_0 p1_1 p1_2 p1_3 p1_4 p1_5) p1_6 p1_7 L ([],0)) fun o13=>Bvy L k p1_6 p1_7 p1_8 p1_9 p1_10 p1_11 p1_12 p1_13 p1_14 p1_15 p1_16 p1_17 p1_18 p1_19 p1_20 p1_21 p1_22 p1_23 p1_24 p1_25 p1_26 p1_27 p1_28 p1_29 p1_30 p1_31 p1_32 p1_0 p1_1 p1_2 p1_3 p1_4 p1_5 o13) (fun b3=>ho (A0s L (Bbj L k p1_7 p1_6 b3 p1_8 p1_9 p1_10 p1_11 p1_12 p1_13 p1_14 p1_15 p1_16 p1_17 p1_18 p1_19 p1_20 p1_21 p1_22 p1_23 p1_24 p1_25 p1_26 p1_27 p1_28 p1_29 p1_30 p1_31 p1_32 p1_0 p1_1 p1_2 p1_3 p1_4 p1_5) p1_6 p1_7 L ([],0)) fun o14=>Bvz L k p1_6 p1_7 b3 p1_8 p1_9 p1_10 p1_11 p1_12 p1_13 p1_14 p1_15 p1_16 p1_17 p1_18 p1_19 p1_20 p1_21 p1_22 p1_23 p1_24 p1_25 p1_26 p1_27 p1_28 p1_29 p1_30 p1_31 p1_32 p1_0 p1_1 p1_2 p1_3 p1_4 p1_5 o14) (ho (A0s L (A4z L k p1_7 p1_6 p1_8 p1_9 p1_10 p1_11 p1_12 p1_13 p1_14 p1_15 p1_16 p1_17 p1_18 p1_19 p1_20 p1_21 p1_22 p1_23 p1_24 p1_25 p1_26 p1_27 p1_28 p1_29 p1_30 p1_31 p1_32 p1_0 p1_1 p1_2 p1_3 p1_4 p1_5) p1_6 p1_7 L ([],0)) fun o15=>Bqv L k p1_6 p1_7 p1_8 p1_9 p1_10 p1_11 p1_12 p1_13 p1_14 p1_15 p1_16 p1_17 p1_18 p1_19 p1_20 p1_21 p1_22 p1_23 p1_24 p1_25 p1_26 p1_27 p1_28 p1_29 p1_30 p1_31 p1_32 p1_0 p1_1 p1_2 p1_3 p1_4 p1_5 o15)))
def A1i(a1:List Bl)(a2:Int)(a3:Int)(a0:Ac)(v:Ahh):St:=⟨[(0,.any),(1,lv (.t46 a1)),(2,I a2),(3,I a3),(4,.any),(8,.loc 8 0),(9,.any),(10,.any),(11,.loc 11 0),(12,lv (.t115 v.1)),(13,I v.2.1),(14,.any)],[(4,(Bh a0)),(8,[I 0,I 0,.lst true (.t3 []),.lst true (.t3 []),.lst true (.t3 []),.lst true (.t3 [])]),(9,[S ((a0.Sites.getD (Int.toNat a2) default).Decl).Name,lv (.t123 (((a0.Sites.getD (Int.toNat a2) default).Decl).Vars)),lv (.t86 (((a0.Sites.getD (Int.toNat a2) default).Decl).Resources)),lv (.t89 (((a0.Sites.getD (Int.toNat a2) default).Decl).Stores)),lv (.t178 (((a0.Sites.getD (Int.toNat a2) default).Decl).Belts)),lv (.t9 (((a0.Sites.getD (Int.toNat a2) default).Decl).Queues)),lv (.t9 (((a0.Sites.getD (Int.toNat a2) default).Decl).Streams)),lv (.t9 (((a0.Sites.getD (Int.toNat a2) default).Decl).Tallies)),lv (.t9 (((a0.Sites.getD (Int.toNat a2) default).Decl).Levels)),lv (.t9 (((a0.Sites.getD (Int.toNat a2) default).Decl).Counts)),lv (.t93 (((a0.Sites.getD (Int.toNat a2) default).Decl).Routines)),lv (.t150 (((a0.Sites.getD (Int.toNat a2) default).Decl).Starts)),lv (.t154 (((a0.Sites.getD (Int.toNat a2) default).Decl).Laws)),lv (.t78 ((a0.Sites.getD (Int.toNat a2) default).Routines))]),(11,[I a3,I a2,.vw false 29 3 1 (Int.toNat (((a0.Sites.getD (Int.toNat a2) default).Routines).length:Int)),.vw false 31 3 1 (Int.toNat ((((a0.Sites.getD (Int.toNat a2) default).Decl).Resources).length:Int)),.vw false 33 3 1 (Int.toNat ((((a0.Sites.getD (Int.toNat a2) default).Decl).Resources).length:Int)),.vw false 38 3 1 (Int.toNat ((((a0.Sites.getD (Int.toNat a2) default).Decl).Stores).length:Int))]),(29,[.arrO (.t3 v.2.2.1)]),(31,[.arrO (.t3 v.2.2.2.1)]),(33,[.arrO (.t3 (List.replicate (Int.toNat ((((a0.Sites.getD (Int.toNat a2) default).Decl).Resources).length:Int)) 0))]),(38,[.arrO (.t3 v.2.2.2.2)])],0⟩
def Nm [An A (Nat×Ahh)](L:Nat)(Ae:Int)(rec:List Au→Int→List Int→List Int→List Int→A)(o16:Ap0):A:=
 (rec o16.1 (Bo (Ae+1)) o16.2.1 o16.2.2.1 o16.2.2.2)
def W7 [An A (Nat×Ahh)](L:Nat)(a1:List Bl)(a2:Int)(a3:Int)(a0:Ac)(rec:List Au→Int→List Int→List Int→List Int→A)(Ag:List Au)(Ae:Int)(Kj:List Int)(Kk:List Int)(Kl:List Int)(nx11:(List Au)→Int→(List Int)→(List Int)→(List Int)→Bool→A):A:=
 (lw Ae a1
 (jb (.cn ((a1.getD (Int.toNat Ae) default).Site == a2)
 (.gq (0≤Ae)
 (.gq (Ae < (a1.length:Int))
 (.lf (decide ((a1.getD (Int.toNat Ae) default).Time≤a3)))))
 (.lf false)) (fun b1=>
 (cn b1
 (gi Ae a1
 (nx11 Ag Ae Kj Kk Kl b1))
 (rec Ag (Bo (Ae+1)) Kj Kk Kl))))
 (lf (0,Ag,Ae,Kj,Kk,Kl)))
def Ak6 [An A (Nat×Ahh)](a1:List Bl)(a2:Int)(a3:Int)(a0:Ac)(rec:List Au→Int→List Int→List Int→List Int→A)(Ag:List Au)(Ae:Int)(Kj:List Int)(Kk:List Int)(Kl:List Int):A:=W7 L a1 a2 a3 a0 rec Ag Ae Kj Kk Kl (fun Ag Ae Kj Kk Kl b1=>bd (Zh L a3 a2 (Int.toNat (((a0.Sites.getD (Int.toNat a2) default).Routines).length:Int)) (Int.toNat ((((a0.Sites.getD (Int.toNat a2) default).Decl).Resources).length:Int)) (Int.toNat ((((a0.Sites.getD (Int.toNat a2) default).Decl).Resources).length:Int)) (Int.toNat ((((a0.Sites.getD (Int.toNat a2) default).Decl).Stores).length:Int)) Ag (a1.getD (Int.toNat Ae) default) a0 (((a0.Sites.getD (Int.toNat a2) default).Decl).Name) (((a0.Sites.getD (Int.toNat a2) default).Decl).Vars) (((a0.Sites.getD (Int.toNat a2) default).Decl).Resources) (((a0.Sites.getD (Int.toNat a2) default).Decl).Stores) (((a0.Sites.getD (Int.toNat a2) default).Decl).Belts) (((a0.Sites.getD (Int.toNat a2) default).Decl).Queues) (((a0.Sites.getD (Int.toNat a2) default).Decl).Streams) (((a0.Sites.getD (Int.toNat a2) default).Decl).Tallies) (((a0.Sites.getD (Int.toNat a2) default).Decl).Levels) (((a0.Sites.getD (Int.toNat a2) default).Decl).Counts) (((a0.Sites.getD (Int.toNat a2) default).Decl).Routines) (((a0.Sites.getD (Int.toNat a2) default).Decl).Starts) (((a0.Sites.getD (Int.toNat a2) default).Decl).Laws) ((a0.Sites.getD (Int.toNat a2) default).Routines) a3 a2 (Int.toNat (((a0.Sites.getD (Int.toNat a2) default).Routines).length:Int)) (Int.toNat ((((a0.Sites.getD (Int.toNat a2) default).Decl).Resources).length:Int)) (Int.toNat ((((a0.Sites.getD (Int.toNat a2) default).Decl).Resources).length:Int)) (Int.toNat ((((a0.Sites.getD (Int.toNat a2) default).Decl).Stores).length:Int)) Kj Kk (List.replicate (Int.toNat ((((a0.Sites.getD (Int.toNat a2) default).Decl).Resources).length:Int)) 0) Kl) fun o16=>Nm L Ae rec o16)
def Ka(L:Nat)(a1:List Bl)(a2:Int)(a3:Int)(a0:Ac):Nat→List Au→Int→List Int→List Int→List Int→Option (Nat×Ahh)
 |0,_,_,_,_,_=>none
 |n+1,Ag,Ae,Kj,Kk,Kl=>Ak6 L a1 a2 a3 a0 (Ka L a1 a2 a3 a0 n) Ag Ae Kj Kk Kl
def A84(a1:List Bl)(a2:Int)(a3:Int)(a0:Ac):Prop:=LI (EV (O23 L) L 9 c23.x.u.l.u.l.r.l) [0,1,2,3,4,8,9,10,11,12,13,14] [4,8,9,11,29,31,33,38] (A1i a1 a2 a3 a0) [.exit 0] (fun n v=>Ka L a1 a2 a3 a0 n v.1 v.2.1 v.2.2.1 v.2.2.2.1 v.2.2.2.2) K n
def A40(a1:List Bl)(Ae:Int)(Ag:List Au)(a3:Int)(a2:Int)(a0:Ac)(b1:Bool)(Kj:List Int)(Kk:List Int)(Kl:List Int):Bu:=(Bu5 Tryz.prog (O23 L) (EI (O23 L) L 9) [] (List.drop 7 c23.x.u.l.u.l.r.l.u.l.l.u.l.ops) ⟨[(68,.agg (Dd (a1.getD (Int.toNat Ae) default))),(67,.ref (Dd (a1.getD (Int.toNat Ae) default))),(66,I Ae),(65,lv (.t46 a1)),(64,lv (.t115 Ag)),(63,.agg [I a3,I a2,.vw false 29 3 1 (Int.toNat (((a0.Sites.getD (Int.toNat a2) default).Routines).length:Int)),.vw false 31 3 1 (Int.toNat ((((a0.Sites.getD (Int.toNat a2) default).Decl).Resources).length:Int)),.vw false 33 3 1 (Int.toNat ((((a0.Sites.getD (Int.toNat a2) default).Decl).Resources).length:Int)),.vw false 38 3 1 (Int.toNat ((((a0.Sites.getD (Int.toNat a2) default).Decl).Stores).length:Int))]),(1,lv (.t46 a1)),(2,I a2),(3,I a3),(8,.loc 8 0),(11,.loc 11 0),(12,lv (.t115 Ag)),(13,I Ae),(40,I Ae),(41,lv (.t46 a1)),(42,I (a1.length:Int)),(43,B (decide (Ae < (a1.length:Int)))),(46,lv (.t46 a1)),(47,I Ae),(48,.ref (Dd (a1.getD (Int.toNat Ae) default))),(49,.ref [I (a1.getD (Int.toNat Ae) default).Site,I (a1.getD (Int.toNat Ae) default).What,I (a1.getD (Int.toNat Ae) default).Proc,I (a1.getD (Int.toNat Ae) default).Index,I (a1.getD (Int.toNat Ae) default).Value]),(50,I (a1.getD (Int.toNat Ae) default).Site),(51,I a2),(52,B ((a1.getD (Int.toNat Ae) default).Site == a2)),(53,B ((a1.getD (Int.toNat Ae) default).Site == a2)),(61,B b1)],[(4,(Bh a0)),(8,[I 0,I 0,.lst true (.t3 []),.lst true (.t3 []),.lst true (.t3 []),.lst true (.t3 [])]),(9,[S ((a0.Sites.getD (Int.toNat a2) default).Decl).Name,lv (.t123 (((a0.Sites.getD (Int.toNat a2) default).Decl).Vars)),lv (.t86 (((a0.Sites.getD (Int.toNat a2) default).Decl).Resources)),lv (.t89 (((a0.Sites.getD (Int.toNat a2) default).Decl).Stores)),lv (.t178 (((a0.Sites.getD (Int.toNat a2) default).Decl).Belts)),lv (.t9 (((a0.Sites.getD (Int.toNat a2) default).Decl).Queues)),lv (.t9 (((a0.Sites.getD (Int.toNat a2) default).Decl).Streams)),lv (.t9 (((a0.Sites.getD (Int.toNat a2) default).Decl).Tallies)),lv (.t9 (((a0.Sites.getD (Int.toNat a2) default).Decl).Levels)),lv (.t9 (((a0.Sites.getD (Int.toNat a2) default).Decl).Counts)),lv (.t93 (((a0.Sites.getD (Int.toNat a2) default).Decl).Routines)),lv (.t150 (((a0.Sites.getD (Int.toNat a2) default).Decl).Starts)),lv (.t154 (((a0.Sites.getD (Int.toNat a2) default).Decl).Laws)),lv (.t78 ((a0.Sites.getD (Int.toNat a2) default).Routines))]),(11,[I a3,I a2,.vw false 29 3 1 (Int.toNat (((a0.Sites.getD (Int.toNat a2) default).Routines).length:Int)),.vw false 31 3 1 (Int.toNat ((((a0.Sites.getD (Int.toNat a2) default).Decl).Resources).length:Int)),.vw false 33 3 1 (Int.toNat ((((a0.Sites.getD (Int.toNat a2) default).Decl).Resources).length:Int)),.vw false 38 3 1 (Int.toNat ((((a0.Sites.getD (Int.toNat a2) default).Decl).Stores).length:Int))]),(29,[.arrO (.t3 Kj)]),(31,[.arrO (.t3 Kk)]),(33,[.arrO (.t3 (List.replicate (Int.toNat ((((a0.Sites.getD (Int.toNat a2) default).Decl).Resources).length:Int)) 0))]),(38,[.arrO (.t3 Kl)])],0⟩ (some 69) (fun st9=>(Bb 1 (Bp (EV (O23 L) L 9 c23.x.u.l.u.l.r.l.u.r) (D4 (Ep (EV (O23 L) L 9 c23.x.u.l.u.l.r.l) [0,1,2,3,4,8,9,10,11,12,13,14] [4,8,9,11,29,31,33,38] n) [0,1,2,3,4,8,9,10,11,12,13,14] [4,8,9,11,29,31,33,38] K))) .normal st9))
theorem Bqw(a3:Int)(a2:Int)(a0:Ac)(Ag:List Au)(a1:List Bl)(Ae:Int)(Kj:List Int)(Kk:List Int)(Kl:List Int)(b1:Bool)(ih:A84 L n K a1 a2 a3 a0)(o16:Ap0):Ag9 a3 a2 (Int.toNat (((a0.Sites.getD (Int.toNat a2) default).Routines).length:Int)) (Int.toNat ((((a0.Sites.getD (Int.toNat a2) default).Decl).Resources).length:Int)) (Int.toNat ((((a0.Sites.getD (Int.toNat a2) default).Decl).Resources).length:Int)) (Int.toNat ((((a0.Sites.getD (Int.toNat a2) default).Decl).Stores).length:Int)) Ag (a1.getD (Int.toNat Ae) default) a0 (((a0.Sites.getD (Int.toNat a2) default).Decl).Name) (((a0.Sites.getD (Int.toNat a2) default).Decl).Vars) (((a0.Sites.getD (Int.toNat a2) default).Decl).Resources) (((a0.Sites.getD (Int.toNat a2) default).Decl).Stores) (((a0.Sites.getD (Int.toNat a2) default).Decl).Belts) (((a0.Sites.getD (Int.toNat a2) default).Decl).Queues) (((a0.Sites.getD (Int.toNat a2) default).Decl).Streams) (((a0.Sites.getD (Int.toNat a2) default).Decl).Tallies) (((a0.Sites.getD (Int.toNat a2) default).Decl).Levels) (((a0.Sites.getD (Int.toNat a2) default).Decl).Counts) (((a0.Sites.getD (Int.toNat a2) default).Decl).Routines) (((a0.Sites.getD (Int.toNat a2) default).Decl).Starts) (((a0.Sites.getD (Int.toNat a2) default).Decl).Laws) ((a0.Sites.getD (Int.toNat a2) default).Routines) a3 a2 (Int.toNat (((a0.Sites.getD (Int.toNat a2) default).Routines).length:Int)) (Int.toNat ((((a0.Sites.getD (Int.toNat a2) default).Decl).Resources).length:Int)) (Int.toNat ((((a0.Sites.getD (Int.toNat a2) default).Decl).Resources).length:Int)) (Int.toNat ((((a0.Sites.getD (Int.toNat a2) default).Decl).Stores).length:Int)) Kj Kk (List.replicate (Int.toNat ((((a0.Sites.getD (Int.toNat a2) default).Decl).Resources).length:Int)) 0) Kl (A40 L n K a1 Ae Ag a3 a2 a0 b1 Kj Kk Kl) o16=ob (Nm L Ae (Ka L a1 a2 a3 a0 n) o16) (kX [.exit 0] (A1i a1 a2 a3 a0) K):=eE (Nm L Ae (fun Ag Ae Kj Kk Kl=>re (ih (Ag,Ae,Kj,Kk,Kl))) o16)
theorem Bnw(a1:List Bl)(a2:Int)(a3:Int)(a0:Ac):∀n,A84 L n K a1 a2 a3 a0:=lE (fun _=>rfl) fun n v ih=>eE (W7 L a1 a2 a3 a0 (fun Ag Ae Kj Kk Kl=>re (ih (Ag,Ae,Kj,Kk,Kl))) v.1 v.2.1 v.2.2.1 v.2.2.2.1 v.2.2.2.2 (fun Ag Ae Kj Kk Kl b1=>ho (Bm5 L (A40 L n K a1 Ae Ag a3 a2 a0 b1 Kj Kk Kl) a3 a2 (Int.toNat (((a0.Sites.getD (Int.toNat a2) default).Routines).length:Int)) (Int.toNat ((((a0.Sites.getD (Int.toNat a2) default).Decl).Resources).length:Int)) (Int.toNat ((((a0.Sites.getD (Int.toNat a2) default).Decl).Resources).length:Int)) (Int.toNat ((((a0.Sites.getD (Int.toNat a2) default).Decl).Stores).length:Int)) Ag (a1.getD (Int.toNat Ae) default) a0 (((a0.Sites.getD (Int.toNat a2) default).Decl).Name) (((a0.Sites.getD (Int.toNat a2) default).Decl).Vars) (((a0.Sites.getD (Int.toNat a2) default).Decl).Resources) (((a0.Sites.getD (Int.toNat a2) default).Decl).Stores) (((a0.Sites.getD (Int.toNat a2) default).Decl).Belts) (((a0.Sites.getD (Int.toNat a2) default).Decl).Queues) (((a0.Sites.getD (Int.toNat a2) default).Decl).Streams) (((a0.Sites.getD (Int.toNat a2) default).Decl).Tallies) (((a0.Sites.getD (Int.toNat a2) default).Decl).Levels) (((a0.Sites.getD (Int.toNat a2) default).Decl).Counts) (((a0.Sites.getD (Int.toNat a2) default).Decl).Routines) (((a0.Sites.getD (Int.toNat a2) default).Decl).Starts) (((a0.Sites.getD (Int.toNat a2) default).Decl).Laws) ((a0.Sites.getD (Int.toNat a2) default).Routines) a3 a2 (Int.toNat (((a0.Sites.getD (Int.toNat a2) default).Routines).length:Int)) (Int.toNat ((((a0.Sites.getD (Int.toNat a2) default).Decl).Resources).length:Int)) (Int.toNat ((((a0.Sites.getD (Int.toNat a2) default).Decl).Resources).length:Int)) (Int.toNat ((((a0.Sites.getD (Int.toNat a2) default).Decl).Stores).length:Int)) Kj Kk (List.replicate (Int.toNat ((((a0.Sites.getD (Int.toNat a2) default).Decl).Resources).length:Int)) 0) Kl) fun o16=>Bqw L n K a3 a2 a0 Ag a1 Ae Kj Kk Kl b1 ih o16))
def Bdq(o17:Nat×Ahh)(a0:Ac)(a2:Int)(a3:Int)(v:Int×List Int):St:=⟨[(0,.any),(1,.any),(2,.any),(3,.any),(4,.any),(8,.loc 8 0),(9,.any),(10,.any),(11,.loc 11 0),(12,lv (.t115 o17.2.1)),(13,.any),(14,I v.1)],[(4,(Bh a0)),(8,[I 0,I 0,.lst true (.t3 []),.lst true (.t3 []),.lst true (.t3 []),.lst true (.t3 [])]),(9,[S ((a0.Sites.getD (Int.toNat a2) default).Decl).Name,lv (.t123 (((a0.Sites.getD (Int.toNat a2) default).Decl).Vars)),lv (.t86 (((a0.Sites.getD (Int.toNat a2) default).Decl).Resources)),lv (.t89 (((a0.Sites.getD (Int.toNat a2) default).Decl).Stores)),lv (.t178 (((a0.Sites.getD (Int.toNat a2) default).Decl).Belts)),lv (.t9 (((a0.Sites.getD (Int.toNat a2) default).Decl).Queues)),lv (.t9 (((a0.Sites.getD (Int.toNat a2) default).Decl).Streams)),lv (.t9 (((a0.Sites.getD (Int.toNat a2) default).Decl).Tallies)),lv (.t9 (((a0.Sites.getD (Int.toNat a2) default).Decl).Levels)),lv (.t9 (((a0.Sites.getD (Int.toNat a2) default).Decl).Counts)),lv (.t93 (((a0.Sites.getD (Int.toNat a2) default).Decl).Routines)),lv (.t150 (((a0.Sites.getD (Int.toNat a2) default).Decl).Starts)),lv (.t154 (((a0.Sites.getD (Int.toNat a2) default).Decl).Laws)),lv (.t78 ((a0.Sites.getD (Int.toNat a2) default).Routines))]),(11,[I a3,I a2,.vw false 29 3 1 (Int.toNat (((a0.Sites.getD (Int.toNat a2) default).Routines).length:Int)),.vw false 31 3 1 (Int.toNat ((((a0.Sites.getD (Int.toNat a2) default).Decl).Resources).length:Int)),.vw false 33 3 1 (Int.toNat ((((a0.Sites.getD (Int.toNat a2) default).Decl).Resources).length:Int)),.vw false 38 3 1 (Int.toNat ((((a0.Sites.getD (Int.toNat a2) default).Decl).Stores).length:Int))]),(29,[.arrO (.t3 o17.2.2.2.1)]),(31,[.arrO (.t3 o17.2.2.2.2.1)]),(33,[.arrO (.t3 v.2)]),(38,[.arrO (.t3 o17.2.2.2.2.2)])],0⟩
def d6 [An A (Nat×Int×List Int)](L:Nat)(o17:Nat×Ahh)(a0:Ac)(a2:Int)(a3:Int)(rec:Int→List Int→A)(Gy:Int)(Are:List Int):A:=
 (lw Gy o17.2.1
 (gi Gy o17.2.1
 (gq (0≤(o17.2.1.getD (Int.toNat Gy) default).u_resource)
 (gq ((o17.2.1.getD (Int.toNat Gy) default).u_resource < (((Int.toNat ((((a0.Sites.getD (Int.toNat a2) default).Decl).Resources).length:Int)):Nat):Int))
 (gq (0≤(o17.2.1.getD (Int.toNat Gy) default).u_resource)
 (gq ((o17.2.1.getD (Int.toNat Gy) default).u_resource < (((Int.toNat ((((a0.Sites.getD (Int.toNat a2) default).Decl).Resources).length:Int)):Nat):Int))
 (rec (Bo (Gy+1)) (Are.set (Int.toNat ((o17.2.1.getD (Int.toNat Gy) default).u_resource)) (Bo ((Are.getD (Int.toNat ((o17.2.1.getD (Int.toNat Gy) default).u_resource)) default)+1)))))))))
 (lf (0,Gy,Are)))
def Ok(L:Nat)(o17:Nat×Ahh)(a0:Ac)(a2:Int)(a3:Int):Nat→Int→List Int→Option (Nat×Int×List Int)
 |0,_,_=>none
 |n+1,Gy,Are=>d6 L o17 a0 a2 a3 (Ok L o17 a0 a2 a3 n) Gy Are
theorem Bnx(o17:Nat×Ahh)(a0:Ac)(a2:Int)(a3:Int):LP (EV (O23 L) L 9 c23.x.w.l.u.l.r.l) [0,1,2,3,4,8,9,10,11,12,13,14] [4,8,9,11,29,31,33,38] (Bdq o17 a0 a2 a3) [.exit 2] (fun n v=>Ok L o17 a0 a2 a3 n v.1 v.2) K:=lE (fun _=>rfl) fun n v ih=>eE (d6 L o17 a0 a2 a3 (fun Gy Are=>re (ih (Gy,Are))) v.1 v.2)
def Nn [An A Ak](L:Nat)(a3:Int)(a2:Int)(o17:Nat×Ahh)(o18:Nat×Int×List Int):A:=
 (sl o18.1 [(lf (⟨a3,a2,o17.2.2.2.1,o17.2.2.2.2.1,o18.2.2,o17.2.2.2.2.2⟩:Ak))])
def A42:Bg:=(Bb 2 (Bp (EV (O23 L) L 9 c23.x.w.r) (Ct Tryz.prog (RS Tryz.f23) kk)))
theorem Bqy(o17:Nat×Ahh)(a0:Ac)(a2:Int)(a3:Int)(o18:Nat×Int×List Int):kX [.exit 2] (Bdq o17 a0 a2 a3) (A42 L kk) o18=ob (Nn L a3 a2 o17 o18) (Bu9 kk):=eE (Nn L a3 a2 o17 o18)
def W9 [An A Ak](L:Nat)(a0:Ac)(a2:Int)(a3:Int)(o17:Nat×Ahh)(nx13:(Nat×Ahh)→A):A:=
 (sl o17.1 [(nx13 o17)])
def Wz [An A Ak](a0:Ac)(a2:Int)(a3:Int)(o17:Nat×Ahh):A:=W9 L a0 a2 a3 o17 (fun o17=>bd (Ok L o17 a0 a2 a3 L 0 (List.replicate (Int.toNat ((((a0.Sites.getD (Int.toNat a2) default).Decl).Resources).length:Int)) 0)) fun o18=>Nn L a3 a2 o17 o18)
def A41:Bg:=(Bb 0 (Bp (EV (O23 L) L 9 c23.x.u.r) (Ct Tryz.prog (RS Tryz.f23) kk)))
theorem Bqx(a1:List Bl)(a2:Int)(a3:Int)(a0:Ac)(o17:Nat×Ahh):kX [.exit 0] (A1i a1 a2 a3 a0) (A41 L kk) o17=ob (Wz L a0 a2 a3 o17) (Bu9 kk):=eE (W9 L a0 a2 a3 o17 (fun o17=>ho (Bnx L (A42 L kk) o17 a0 a2 a3 L (0,(List.replicate (Int.toNat ((((a0.Sites.getD (Int.toNat a2) default).Decl).Resources).length:Int)) 0))) fun o18=>Bqy L kk o17 a0 a2 a3 o18))
def W8 [An A Ak](L:Nat)(a0:Ac)(a1:List Bl)(a2:Int)(a3:Int)(nx12:A):A:=
 (gi a2 a0.Sites
 (gq (0≤(((a0.Sites.getD (Int.toNat a2) default).Routines).length:Int))
 (gq ((((a0.Sites.getD (Int.toNat a2) default).Routines).length:Int)*((8:Nat):Int)≤140737488355328)
 (gq ((((a0.Sites.getD (Int.toNat a2) default).Routines).length:Int)≤9223372036854775807)
 (gq (0≤((((a0.Sites.getD (Int.toNat a2) default).Decl).Resources).length:Int))
 (gq (((((a0.Sites.getD (Int.toNat a2) default).Decl).Resources).length:Int)*((8:Nat):Int)≤140737488355328)
 (gq (((((a0.Sites.getD (Int.toNat a2) default).Decl).Resources).length:Int)≤9223372036854775807)
 (gq (0≤((((a0.Sites.getD (Int.toNat a2) default).Decl).Resources).length:Int))
 (gq (((((a0.Sites.getD (Int.toNat a2) default).Decl).Resources).length:Int)*((8:Nat):Int)≤140737488355328)
 (gq (((((a0.Sites.getD (Int.toNat a2) default).Decl).Resources).length:Int)≤9223372036854775807)
 (gq (0≤((((a0.Sites.getD (Int.toNat a2) default).Decl).Stores).length:Int))
 (gq (((((a0.Sites.getD (Int.toNat a2) default).Decl).Stores).length:Int)*((8:Nat):Int)≤140737488355328)
 (gq (((((a0.Sites.getD (Int.toNat a2) default).Decl).Stores).length:Int)≤9223372036854775807)
 nx12)))))))))))))
def Arm [An A Ak](a0:Ac)(a1:List Bl)(a2:Int)(a3:Int):A:=W8 L a0 a1 a2 a3 (bd (Ka L a1 a2 a3 a0 L [] 0 (List.replicate (Int.toNat (((a0.Sites.getD (Int.toNat a2) default).Routines).length:Int)) 0) (List.replicate (Int.toNat ((((a0.Sites.getD (Int.toNat a2) default).Decl).Resources).length:Int)) 0) (List.replicate (Int.toNat ((((a0.Sites.getD (Int.toNat a2) default).Decl).Stores).length:Int)) 0)) fun o17=>Wz L a0 a2 a3 o17)
def Xm(a0:Ac)(a1:List Bl)(a2:Int)(a3:Int):Option Ak:=Arm L a0 a1 a2 a3
def X23:Di:=E4 (fun(x:Ak)=> .agg (Em x)) 23 B6 A7y (cI .i64) (cI .i64) (Xm L) fun a0 a1 a2 a3 r h=>hF Tryz.func23 (C:=O23 L) (oS _) L (fun kk=>eE (W8 L a0 a1 a2 a3 (ho (Bnw L (A41 L kk) a1 a2 a3 a0 L ([],0,(List.replicate (Int.toNat (((a0.Sites.getD (Int.toNat a2) default).Routines).length:Int)) 0),(List.replicate (Int.toNat ((((a0.Sites.getD (Int.toNat a2) default).Decl).Resources).length:Int)) 0),(List.replicate (Int.toNat ((((a0.Sites.getD (Int.toNat a2) default).Decl).Stores).length:Int)) 0))) fun o17=>Bqx L kk a1 a2 a3 a0 o17))) h
def Awn [An A (Ak×Int)](a0:Ac)(a1:List Bl)(a2:Int)(a3:Int):A:=
 (bd (V5 L (⟨a0.Name,a0.Sites,a0.Links⟩:Ac)) fun r1=>
 (cn (r1 != 0)
 (lf ((⟨0,0,[],[],[],[]⟩:Ak),r1))
 (jp (.cn (decide (a2 < 0))
 (.lf true)
 (.lf (decide (a2≥(a0.Sites.length:Int))))) (fun b2=>
 (jp (.cn b2
 (.lf true)
 (.lf (decide (a3 < 0)))) (fun b3=>
 (jp (.cn b3
 (.lf true)
 (.lf (decide (a3 > 1000000000)))) (fun b4=>
 (cn b4
 (lf ((⟨0,0,[],[],[],[]⟩:Ak),2))
 (bd (Xm L (⟨a0.Name,a0.Sites,a0.Links⟩:Ac) a1 a2 a3) fun r5=>
 (lf (r5,0))))))))))))
def Av5(a0:Ac)(a1:List Bl)(a2:Int)(a3:Int):Option (Ak×Int):=Awn L a0 a1 a2 a3
def X9:Di:=E4 (fun(x:Ak×Int)=> .tup [.agg (Em x.1),I x.2]) 9 B6 A7y (cI .i64) (cI .i64) (Av5 L) fun a0 a1 a2 a3 r h=>hF Tryz.func9 (oS [X18 L,X23 L]) L (fun kk=>eE (Awn L a0 a1 a2 a3)) h
end
end Go.Proofs.YthjhkpgonleelaaGreatDoor.Ev
