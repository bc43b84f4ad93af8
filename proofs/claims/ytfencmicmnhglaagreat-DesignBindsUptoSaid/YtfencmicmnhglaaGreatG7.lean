import Derived.Test.YtfencmicmnhglaaGreatG3
import Derived.Test.YtfencmicmnhglaaGreatG6
namespace Go.Proofs.YtfencmicmnhglaaGreat.Ev
open Go An
set_option maxRecDepth 100000
set_option maxHeartbeats 4000000
set_option linter.unusedVariables false
set_option linter.unusedSimpArgs false
set_option linter.unnecessarySimpa false
noncomputable section
variable {A:Type} (L n:Nat) (kk:Il) (K:Br) (k:Bn)
def Bya:=CC Tryz.f147
def Bx4:=CC Tryz.f117
def A37(L:Nat):Bq:=oL []
def Baf(p1_0:List Aa)(p1_1:Ad)(p1_2:ByteArray)(v:D2):St:=⟨[(0,lv (.t55 p1_0)),(1,.clo 148 0 [.loc 3 0]),(4,I v.1),(7,I (p1_0.length:Int)),(8,I v.2)],[(2,Ar p1_1),(3,[S p1_2])],4⟩
def Wu [An A Ki](L:Nat)(p1_0:List Aa)(p1_1:Ad)(p1_2:ByteArray)(rec:Int→Int→A)(Ao:Int)(Al:Int):A:=
 (lw Al p1_0
 (cn (((p1_0.getD (Int.toNat Al) default).Name).toList == p1_2.toList)
 (lf (0,Al,Al))
 (rec Ao (Dp (Al+1))))
 (lf (1,Ao,Al)))
def Ld(L:Nat)(p1_0:List Aa)(p1_1:Ad)(p1_2:ByteArray):Nat→Int→Int→Option Ki
 |0,_,_=>none
 |n+1,Ao,Al=>Wu L p1_0 p1_1 p1_2 (Ld L p1_0 p1_1 p1_2 n) Ao Al
theorem Blh(p1_0:List Aa)(p1_1:Ad)(p1_2:ByteArray):LP (EV (A37 L) L 8 Bya.u.l.u.l.l) [0,1,4,7,8] [2,3] (Baf p1_0 p1_1 p1_2) [.ret,.exit 0] (fun n v=>Ld L p1_0 p1_1 p1_2 n v.1 v.2) K:=lE (fun _=>rfl) fun n v ih=>eE (Wu L p1_0 p1_1 p1_2 (fun Ao Al=>re (ih (Ao,Al))) v.1 v.2)
def Ayc(p1_0:List Aa)(p1_1:Ad)(p1_2:ByteArray)(k:Bn):Int→Prop:=fun o=>k (I o) [(2,Ar p1_1),(3,[S p1_2])]
def W4 [An A Int](L:Nat)(o1:Nat×D2):A:=
 (sl o1.1 [(lf o1.2.1),
 (lf (-1))])
def A7t:Br:=(Ba 0 (Bg (EV (A37 L) L 8 Bya.u.r) (Dq Tryz.prog (RS Tryz.f147) k)))
theorem Bs9(p1_0:List Aa)(p1_1:Ad)(p1_2:ByteArray)(o1:Nat×D2):kX [.ret,.exit 0] (Baf p1_0 p1_1 p1_2) (A7t L k) o1=ob (W4 L o1) (Ayc p1_0 p1_1 p1_2 k):=eE (W4 L o1)
def Ag4 [An A Int](p1_0:List Aa)(p1_1:Ad)(p1_2:ByteArray):A:=(bd (Ld L p1_0 p1_1 p1_2 L 0 0) fun o1=>W4 L o1)
def Wn(p1_0:List Aa)(p1_1:Ad)(p1_2:ByteArray):Option Int:=Ag4 L p1_0 p1_1 p1_2
theorem Bkj(p1_0:List Aa)(p1_1:Ad)(p1_2:ByteArray):YO (A37 L) L 9 147 [lv (.t55 p1_0),.clo 148 0 [.loc 3 0]] [(2,Ar p1_1),(3,[S p1_2])] k=ob (Wn L p1_0 p1_1 p1_2) (Ayc p1_0 p1_1 p1_2 k):=(Cr _ _ _ jn4 _ _ _ _ _ _ _).trans (eE ((ho (Blh L (A7t L k) p1_0 p1_1 p1_2 L (0,0)) fun o1=>Bs9 L k p1_0 p1_1 p1_2 o1)))
def Sh [An A Int](L:Nat)(o2:Int):A:=
 (lf o2)
def A7u(a0:Ad)(a1:ByteArray):Bn:=(Bu Tryz.prog (A37 L) (EI (A37 L) L 9) 1 (List.drop 4 Bx4.u.l.ops) ⟨[(7,.clo 148 0 [.loc 3 0]),(6,lv (.t55 a0.Sites)),(5,.loc 2 2),(2,.loc 2 0),(3,.loc 3 0),(4,I 0)],[(2,Ar a0),(3,[S a1])],0⟩ (some 8) (fun st9=>(Bg (EV (A37 L) L 9 Bx4.u.r) (Gu Tryz.prog (RS Tryz.f117) kk)) .normal st9))
theorem Bta(a0:Ad)(a1:ByteArray)(o2:Int):Ayc a0.Sites a0 a1 (A7u L kk a0 a1) o2=ob (Sh L o2) (kQ I kk):=eE (Sh L o2)
def Amh [An A Int](a0:Ad)(a1:ByteArray):A:=(bd (Wn L a0.Sites a0 a1) fun o2=>Sh L o2)
def Ud(a0:Ad)(a1:ByteArray):Option Int:=Amh L a0 a1
def Bp2:N2:=E2 I 117 Ml cS (Ud L) fun a0 a1 r h=>hF Tryz.func117 (C:=A37 L) (oS _) L (fun kk=>eE ((ho (Bkj L (A7u L kk a0 a1) a0.Sites a0 a1) fun o2=>Bta L kk a0 a1 o2))) h
def Bbz:=CC Tryz.f115
def c66:=CC Tryz.f66
def O66:Bq:=oL [X91 L,Bp2 L]
def Bdm(p3_0:Be)(p3_1:Ad)(p3_2:List Bk)(p3_3:List Bool)(p3_4:Be)(k:Bn):Tu5→Prop:=fun o=>k (I o.1) [(1,Ar p3_1),(3,[.mp 4]),(4,[.mapO true false (.t168 o.2.1) (.t4 o.2.2)]),(13,Jv p3_4),(17,Jv p3_0),(19,[S p3_0.From,S p3_0.To])]
def Z2 [An A Tu5](p3_0:Be)(p3_1:Ad)(p3_2:List Bk)(p3_3:List Bool)(p3_4:Be):A:=
 (bd (Ud L p3_1 p3_0.From) fun r1=>
 (jb (.cn (decide (r1 < 0))
 (.lf true)
 (.bd (Ud L p3_1 p3_0.To) fun r3=>
 (.lf (decide (r3 < 0))))) (fun b2=>
 (cn b2
 (lf (5,p3_2,p3_3))
 (cn (p3_0.From.toList == p3_0.To.toList)
 (lf (1,p3_2,p3_3))
 (bd (Bb L p3_0.Delay 1 1000000000) fun r4=>
 (cn (!r4)
 (lf (2,p3_2,p3_3))
 (fq (p3_2.findIdx? fun b=>(p3_0.From == b.a0 && (p3_0.To == b.a1))) (fun i5=>
 (cn (p3_3.getD i5 default)
 (lf (4,p3_2,p3_3))
 (fq (p3_2.findIdx? fun b=>(p3_0.From == b.a0 && (p3_0.To == b.a1))) (fun i6=>
 (lf (0,p3_2,(p3_3.set i6 true))))
 (lf (0,(p3_2++ [(⟨p3_0.From,p3_0.To⟩:Bk)]),(p3_3++ [true]))))))
 (fq (p3_2.findIdx? fun b=>(p3_0.From == b.a0 && (p3_0.To == b.a1))) (fun i7=>
 (lf (0,p3_2,(p3_3.set i7 true))))
 (lf (0,(p3_2++ [(⟨p3_0.From,p3_0.To⟩:Bk)]),(p3_3++ [true]))))))))))))
def Qi(p3_0:Be)(p3_1:Ad)(p3_2:List Bk)(p3_3:List Bool)(p3_4:Be):Option Tu5:=Z2 L p3_0 p3_1 p3_2 p3_3 p3_4
theorem Brz(p3_0:Be)(p3_1:Ad)(p3_2:List Bk)(p3_3:List Bool)(p3_4:Be):YO (O66 L) L 8 116 [.agg (Jv p3_0),.loc 1 0,.loc 3 0] [(1,Ar p3_1),(3,[.mp 4]),(4,[.mapO true false (.t168 p3_2) (.t4 p3_3)]),(13,Jv p3_4)] k=ob (Qi L p3_0 p3_1 p3_2 p3_3 p3_4) (Bdm p3_0 p3_1 p3_2 p3_3 p3_4 k):=(Cr _ _ _ jn4 _ _ _ _ _ _ _).trans (eE (Z2 L p3_0 p3_1 p3_2 p3_3 p3_4))
def A5u(p1_0:List Be)(p1_1:Ad)(v:Tu7):St:=⟨[(0,.any),(1,.any),(2,.clo 116 0 [.loc 1 0,.loc 3 0]),(6,I v.1),(14,lv (.t167 p1_0)),(15,I (p1_0.length:Int)),(16,I v.2.1)],[(1,Ar p1_1),(3,[.mp 4]),(4,[.mapO true false (.t168 v.2.2.1) (.t4 v.2.2.2)])],5⟩
def Qv [An A (Nat×Tu7)](L:Nat)(Al:Int)(Au:Int)(rec:Int→Int→List Bk→List Bool→A)(o8:Tu5):A:=
 (cn (o8.1 != 0)
 (lf (0,o8.1,Al,o8.2.1,o8.2.2))
 (rec Au (Dp (Al+1)) o8.2.1 o8.2.2))
def Vm [An A (Nat×Tu7)](L:Nat)(p1_0:List Be)(p1_1:Ad)(rec:Int→Int→List Bk→List Bool→A)(Au:Int)(Al:Int)(Dm:List Bk)(Dn:List Bool)(nx3:Int→(List Bk)→(List Bool)→Int→A):A:=
 (lw Al p1_0
 (nx3 Al Dm Dn Au)
 (lf (1,Au,Al,Dm,Dn)))
def k7 [An A (Nat×Tu7)](p1_0:List Be)(p1_1:Ad)(rec:Int→Int→List Bk→List Bool→A)(Au:Int)(Al:Int)(Dm:List Bk)(Dn:List Bool):A:=Vm L p1_0 p1_1 rec Au Al Dm Dn (fun Al Dm Dn Au=>bd (Qi L (p1_0.getD (Int.toNat Al) default) p1_1 Dm Dn (p1_0.getD (Int.toNat Al) default)) fun o8=>Qv L Al Au rec o8)
def H9(L:Nat)(p1_0:List Be)(p1_1:Ad):Nat→Int→Int→List Bk→List Bool→Option (Nat×Tu7)
 |0,_,_,_,_=>none
 |n+1,Au,Al,Dm,Dn=>k7 L p1_0 p1_1 (H9 L p1_0 p1_1 n) Au Al Dm Dn
def Bdj(p1_0:List Be)(p1_1:Ad):Prop:=LI (EV (O66 L) L 8 Bbz.w.l.u.l.l) [0,1,2,6,14,15,16] [1,3,4] (A5u p1_0 p1_1) [.ret,.exit 0] (fun n v=>H9 L p1_0 p1_1 n v.1 v.2.1 v.2.2.1 v.2.2.2) K n
def Bf6(p1_0:List Be)(Al:Int)(Au:Int)(p1_1:Ad)(Dm:List Bk)(Dn:List Bool):Bn:=(Bu Tryz.prog (O66 L) (EI (O66 L) L 8) 1 (List.drop 3 Bbz.w.l.u.l.l.w.l.l.u.l.ops) ⟨[(21,.agg (Jv (p1_0.getD (Int.toNat Al) default))),(20,.clo 116 0 [.loc 1 0,.loc 3 0]),(2,.clo 116 0 [.loc 1 0,.loc 3 0]),(6,I Au),(8,.loc 13 0),(14,lv (.t167 p1_0)),(15,I (p1_0.length:Int)),(16,I Al),(17,B (decide (Al < (p1_0.length:Int)))),(18,.ref (Jv (p1_0.getD (Int.toNat Al) default))),(19,.agg (Jv (p1_0.getD (Int.toNat Al) default)))],[(1,Ar p1_1),(3,[.mp 4]),(4,[.mapO true false (.t168 Dm) (.t4 Dn)]),(13,(Jv (p1_0.getD (Int.toNat Al) default)))],5⟩ (some 22) (fun st9=>(Bg (EV (O66 L) L 8 Bbz.w.l.u.l.l.w.l.l.u.r) (Ba 1 (Bg (EV (O66 L) L 8 Bbz.w.l.u.l.l.w.r) (Ii (Kw (EV (O66 L) L 8 Bbz.w.l.u.l.l) [0,1,2,6,14,15,16] [1,3,4] n) [0,1,2,6,14,15,16] [1,3,4] K)))) .normal st9))
theorem B1w(p1_0:List Be)(Al:Int)(p1_1:Ad)(Dm:List Bk)(Dn:List Bool)(Au:Int)(ih:Bdj L n K p1_0 p1_1)(o8:Tu5):Bdm (p1_0.getD (Int.toNat Al) default) p1_1 Dm Dn (p1_0.getD (Int.toNat Al) default) (Bf6 L n K p1_0 Al Au p1_1 Dm Dn) o8=ob (Qv L Al Au (H9 L p1_0 p1_1 n) o8) (kX [.ret,.exit 0] (A5u p1_0 p1_1) K):=eE (Qv L Al Au (fun Au Al Dm Dn=>re (ih (Au,Al,Dm,Dn))) o8)
theorem Bsw(p1_0:List Be)(p1_1:Ad):∀n,Bdj L n K p1_0 p1_1:=lE (fun _=>rfl) fun n v ih=>eE (Vm L p1_0 p1_1 (fun Au Al Dm Dn=>re (ih (Au,Al,Dm,Dn))) v.1 v.2.1 v.2.2.1 v.2.2.2 (fun Al Dm Dn Au=>ho (Brz L (Bf6 L n K p1_0 Al Au p1_1 Dm Dn) (p1_0.getD (Int.toNat Al) default) p1_1 Dm Dn (p1_0.getD (Int.toNat Al) default)) fun o8=>B1w L n K p1_0 Al p1_1 Dm Dn Au ih o8))
def A36(p1_0:List Be)(p1_1:Ad)(k:Bn):Tu5→Prop:=fun o=>k (I o.1) [(1,Ar p1_1),(3,[.mp 4]),(4,[.mapO true false (.t168 o.2.1) (.t4 o.2.2)])]
def U4 [An A Tu5](L:Nat)(o9:Nat×Tu7):A:=
 (sl o9.1 [(lf (o9.2.1,o9.2.2.2.1,o9.2.2.2.2)),
 (lf (0,o9.2.2.2.1,o9.2.2.2.2))])
def Bf7:Br:=(Ba 0 (Bg (EV (O66 L) L 8 Bbz.w.r) (Dq Tryz.prog (RS Tryz.f115) k)))
theorem B1x(p1_0:List Be)(p1_1:Ad)(o9:Nat×Tu7):kX [.ret,.exit 0] (A5u p1_0 p1_1) (Bf7 L k) o9=ob (U4 L o9) (A36 p1_0 p1_1 k):=eE (U4 L o9)
def r0 [An A Tu5](L:Nat)(p1_0:List Be)(p1_1:Ad)(nx4:A):A:=
 (cn (decide ((p1_0.length:Int) > 32))
 (lf (6,[],[]))
 nx4)
def Aej [An A Tu5](p1_0:List Be)(p1_1:Ad):A:=r0 L p1_0 p1_1 (bd (H9 L p1_0 p1_1 L 0 0 [] []) fun o9=>U4 L o9)
def Z9(p1_0:List Be)(p1_1:Ad):Option Tu5:=Aej L p1_0 p1_1
theorem Bry(p1_0:List Be)(p1_1:Ad):YO (O66 L) L 9 115 [lv (.t167 p1_0),I 32,.clo 116 0 [.loc 1 0,.loc 3 0]] [(1,Ar p1_1),(3,[.mp 4]),(4,[.mapO true false (.t168 []) (.t4 [])])] k=ob (Z9 L p1_0 p1_1) (A36 p1_0 p1_1 k):=(Cr _ _ _ jn4 _ _ _ _ _ _ _).trans (eE (r0 L p1_0 p1_1 (ho (Bsw L (Bf7 L k) p1_0 p1_1 L (0,0,[],[])) fun o9=>B1x L k p1_0 p1_1 o9)))
def Qw [An A Int](L:Nat)(o10:Tu5):A:=
 (lf o10.1)
def Bf8(a0:Ad):Bn:=(Bu Tryz.prog (O66 L) (EI (O66 L) L 9) 1 (List.drop 4 c66.w.l.ops) ⟨[(7,.clo 116 0 [.loc 1 0,.loc 3 0]),(6,lv (.t167 a0.Links)),(5,.loc 1 3),(1,.loc 1 0),(2,I 0),(3,.loc 3 0)],[(1,Ar a0),(3,[.mp 4]),(4,[.mapO true false (.t168 []) (.t4 [])])],0⟩ (some 8) (fun st9=>(Bg (EV (O66 L) L 9 c66.w.r) (Gu Tryz.prog (RS Tryz.f66) kk)) .normal st9))
theorem B1y(a0:Ad)(o10:Tu5):A36 a0.Links a0 (Bf8 L kk a0) o10=ob (Qw L o10) (kQ I kk):=eE (Qw L o10)
def Akd [An A Int](a0:Ad):A:=(bd (Z9 L a0.Links a0) fun o10=>Qw L o10)
def u4(a0:Ad):Option Int:=Akd L a0
def X66:N2:=E1 I 66 Ml (u4 L) fun a0 r h=>hF Tryz.func66 (C:=O66 L) (oS _) L (fun kk=>eE ((ho (Bry L (Bf8 L kk a0) a0.Links a0) fun o10=>B1y L kk a0 o10))) h
def c62:=CC Tryz.f62
def c63:=CC Tryz.f63
def c43:=CC Tryz.f43
def O43:Bq:=oL [X60 L,X65 L,X66 L,Biy L,Biz L]
def Bdl(p7_0:ByteArray)(p7_1:Ad)(p7_2:List ByteArray)(p7_3:List Bool)(p7_4:Ah)(p7_5:Ah)(k:Bn):Cp→Prop:=fun o=>k (I o.1) [(1,Ar p7_1),(13,[.mapO false false (.t9 o.2.1) (.t4 o.2.2)]),(22,Bz p7_4),(26,Bz p7_5)]
def Aeh [An A Cp](p7_0:ByteArray)(p7_1:Ad)(p7_2:List ByteArray)(p7_3:List Bool)(p7_4:Ah)(p7_5:Ah):A:=
 (bd (C6 L p7_0) fun r2=>
 (cn (r2 != 0)
 (lf (r2,p7_2,p7_3))
 (fq (p7_2.findIdx? fun b=>p7_0 == b) (fun i3=>
 (cn (p7_3.getD i3 default)
 (lf (4,p7_2,p7_3))
 (fq (p7_2.findIdx? fun b=>p7_0 == b) (fun i4=>
 (lf (0,p7_2,(p7_3.set i4 true))))
 (lf (0,(p7_2++ [p7_0]),(p7_3++ [true]))))))
 (fq (p7_2.findIdx? fun b=>p7_0 == b) (fun i5=>
 (lf (0,p7_2,(p7_3.set i5 true))))
 (lf (0,(p7_2++ [p7_0]),(p7_3++ [true])))))))
def Z5(p7_0:ByteArray)(p7_1:Ad)(p7_2:List ByteArray)(p7_3:List Bool)(p7_4:Ah)(p7_5:Ah):Option Cp:=Aeh L p7_0 p7_1 p7_2 p7_3 p7_4 p7_5
theorem Brv(p7_0:ByteArray)(p7_1:Ad)(p7_2:List ByteArray)(p7_3:List Bool)(p7_4:Ah)(p7_5:Ah):YO (O43 L) L 6 64 [.mp 13,S p7_0] [(1,Ar p7_1),(13,[.mapO false false (.t9 p7_2) (.t4 p7_3)]),(22,Bz p7_4),(26,Bz p7_5)] k=ob (Z5 L p7_0 p7_1 p7_2 p7_3 p7_4 p7_5) (Bdl p7_0 p7_1 p7_2 p7_3 p7_4 p7_5 k):=(Cr _ _ _ jn4 _ _ _ _ _ _ _).trans (eE (Aeh L p7_0 p7_1 p7_2 p7_3 p7_4 p7_5))
def A34(p5_0:Ah)(p5_1:Ad)(p5_2:List ByteArray)(p5_3:List Bool)(p5_4:Ah)(k:Bn):Cp→Prop:=fun o=>k (I o.1) [(1,Ar p5_1),(13,[.mapO false false (.t9 o.2.1) (.t4 o.2.2)]),(22,Bz p5_4),(26,Bz p5_0)]
def U1 [An A Cp](p5_0:Ah)(o6:Cp):A:=
 (cn (o6.1 != 0)
 (lf (o6.1,o6.2.1,o6.2.2))
 (bd (Kj L p5_0.Type_) fun r7=>
 (cn (!r7)
 (lf (1,o6.2.1,o6.2.2))
 (bd (Rm L p5_0.Type_ p5_0.N) fun r8=>
 (cn (!r8)
 (lf (2,o6.2.1,o6.2.2))
 (lf (0,o6.2.1,o6.2.2)))))))
def Bf1(p5_0:Ah)(p5_1:Ad)(p5_2:List ByteArray)(p5_3:List Bool)(p5_4:Ah):Bn:=(Bu Tryz.prog (O43 L) (EI (O43 L) L 6) 1 (List.drop 4 c83.u.l.l.ops) ⟨[(8,S p5_0.Name),(7,.loc 26 0),(6,.mp 13),(0,.mp 13),(3,.loc 26 0),(4,I 0)],[(1,Ar p5_1),(13,[.mapO false false (.t9 p5_2) (.t4 p5_3)]),(22,Bz p5_4),(26,Bz p5_0)],23⟩ (some 9) (fun st9=>(Bg (EV (O43 L) L 6 c83.u.l.r) (Bg (EV (O43 L) L 6 c83.u.r) (Dq Tryz.prog (RS Tryz.f83) k))) .normal st9))
theorem B1r(p5_0:Ah)(p5_1:Ad)(p5_2:List ByteArray)(p5_3:List Bool)(p5_4:Ah)(o6:Cp):Bdl p5_0.Name p5_1 p5_2 p5_3 p5_4 p5_0 (Bf1 L k p5_0 p5_1 p5_2 p5_3 p5_4) o6=ob (U1 L p5_0 o6) (A34 p5_0 p5_1 p5_2 p5_3 p5_4 k):=eE (U1 L p5_0 o6)
def Aeg [An A Cp](p5_0:Ah)(p5_1:Ad)(p5_2:List ByteArray)(p5_3:List Bool)(p5_4:Ah):A:=(bd (Z5 L p5_0.Name p5_1 p5_2 p5_3 p5_4 p5_0) fun o6=>U1 L p5_0 o6)
def Mt(p5_0:Ah)(p5_1:Ad)(p5_2:List ByteArray)(p5_3:List Bool)(p5_4:Ah):Option Cp:=Aeg L p5_0 p5_1 p5_2 p5_3 p5_4
theorem Bru(p5_0:Ah)(p5_1:Ad)(p5_2:List ByteArray)(p5_3:List Bool)(p5_4:Ah):YO (O43 L) L 7 83 [.mp 13,.agg (Bz p5_0)] [(1,Ar p5_1),(13,[.mapO false false (.t9 p5_2) (.t4 p5_3)]),(22,Bz p5_4)] k=ob (Mt L p5_0 p5_1 p5_2 p5_3 p5_4) (A34 p5_0 p5_1 p5_2 p5_3 p5_4 k):=(Cr _ _ _ jn4 _ _ _ _ _ _ _).trans (eE ((ho (Brv L (Bf1 L k p5_0 p5_1 p5_2 p5_3 p5_4) p5_0.Name p5_1 p5_2 p5_3 p5_4 p5_0) fun o6=>B1r L k p5_0 p5_1 p5_2 p5_3 p5_4 o6)))
def A5m(p1_0:List Ah)(p1_1:Ad)(v:Tu3):St:=⟨[(0,.any),(1,.any),(2,.clo 83 1 [.mp 13]),(6,I v.1),(14,lv (.t77 p1_0)),(15,I (p1_0.length:Int)),(16,I v.2.1)],[(1,Ar p1_1),(13,[.mapO false false (.t9 v.2.2.1) (.t4 v.2.2.2)])],14⟩
def Qs [An A Tu9](L:Nat)(Al:Int)(Au:Int)(rec:Int→Int→List ByteArray→List Bool→A)(o9:Cp):A:=
 (cn (o9.1 != 0)
 (lf (0,o9.1,Al,o9.2.1,o9.2.2))
 (rec Au (Dp (Al+1)) o9.2.1 o9.2.2))
def Vj [An A Tu9](L:Nat)(p1_0:List Ah)(p1_1:Ad)(rec:Int→Int→List ByteArray→List Bool→A)(Au:Int)(Al:Int)(Dm:List ByteArray)(Dn:List Bool)(nx7:Int→(List ByteArray)→(List Bool)→Int→A):A:=
 (lw Al p1_0
 (nx7 Al Dm Dn Au)
 (lf (1,Au,Al,Dm,Dn)))
def k5 [An A Tu9](p1_0:List Ah)(p1_1:Ad)(rec:Int→Int→List ByteArray→List Bool→A)(Au:Int)(Al:Int)(Dm:List ByteArray)(Dn:List Bool):A:=Vj L p1_0 p1_1 rec Au Al Dm Dn (fun Al Dm Dn Au=>bd (Mt L (p1_0.getD (Int.toNat Al) default) p1_1 Dm Dn (p1_0.getD (Int.toNat Al) default)) fun o9=>Qs L Al Au rec o9)
def H7(L:Nat)(p1_0:List Ah)(p1_1:Ad):Nat→Int→Int→List ByteArray→List Bool→Option Tu9
 |0,_,_,_,_=>none
 |n+1,Au,Al,Dm,Dn=>k5 L p1_0 p1_1 (H7 L p1_0 p1_1 n) Au Al Dm Dn
def Bdb(p1_0:List Ah)(p1_1:Ad):Prop:=LI (EV (O43 L) L 7 c82.w.l.u.l.l) [0,1,2,6,14,15,16] [1,13] (A5m p1_0 p1_1) [.ret,.exit 0] (fun n v=>H7 L p1_0 p1_1 n v.1 v.2.1 v.2.2.1 v.2.2.2) K n
def Bf2(p1_0:List Ah)(Al:Int)(Au:Int)(p1_1:Ad)(Dm:List ByteArray)(Dn:List Bool):Bn:=(Bu Tryz.prog (O43 L) (EI (O43 L) L 7) 1 (List.drop 3 c82.w.l.u.l.l.w.l.l.u.l.ops) ⟨[(21,.agg (Bz (p1_0.getD (Int.toNat Al) default))),(20,.clo 83 1 [.mp 13]),(2,.clo 83 1 [.mp 13]),(6,I Au),(8,.loc 22 0),(14,lv (.t77 p1_0)),(15,I (p1_0.length:Int)),(16,I Al),(17,B (decide (Al < (p1_0.length:Int)))),(18,.ref (Bz (p1_0.getD (Int.toNat Al) default))),(19,.agg (Bz (p1_0.getD (Int.toNat Al) default)))],[(1,Ar p1_1),(13,[.mapO false false (.t9 Dm) (.t4 Dn)]),(22,(Bz (p1_0.getD (Int.toNat Al) default)))],14⟩ (some 22) (fun st9=>(Bg (EV (O43 L) L 7 c82.w.l.u.l.l.w.l.l.u.r) (Ba 1 (Bg (EV (O43 L) L 7 c82.w.l.u.l.l.w.r) (Ii (Kw (EV (O43 L) L 7 c82.w.l.u.l.l) [0,1,2,6,14,15,16] [1,13] n) [0,1,2,6,14,15,16] [1,13] K)))) .normal st9))
theorem B1s(p1_0:List Ah)(Al:Int)(p1_1:Ad)(Dm:List ByteArray)(Dn:List Bool)(Au:Int)(ih:Bdb L n K p1_0 p1_1)(o9:Cp):A34 (p1_0.getD (Int.toNat Al) default) p1_1 Dm Dn (p1_0.getD (Int.toNat Al) default) (Bf2 L n K p1_0 Al Au p1_1 Dm Dn) o9=ob (Qs L Al Au (H7 L p1_0 p1_1 n) o9) (kX [.ret,.exit 0] (A5m p1_0 p1_1) K):=eE (Qs L Al Au (fun Au Al Dm Dn=>re (ih (Au,Al,Dm,Dn))) o9)
theorem Bsm(p1_0:List Ah)(p1_1:Ad):∀n,Bdb L n K p1_0 p1_1:=lE (fun _=>rfl) fun n v ih=>eE (Vj L p1_0 p1_1 (fun Au Al Dm Dn=>re (ih (Au,Al,Dm,Dn))) v.1 v.2.1 v.2.2.1 v.2.2.2 (fun Al Dm Dn Au=>ho (Bru L (Bf2 L n K p1_0 Al Au p1_1 Dm Dn) (p1_0.getD (Int.toNat Al) default) p1_1 Dm Dn (p1_0.getD (Int.toNat Al) default)) fun o9=>B1s L n K p1_0 Al p1_1 Dm Dn Au ih o9))
def A33(p1_0:List Ah)(p1_1:Ad)(k:Bn):Cp→Prop:=fun o=>k (I o.1) [(1,Ar p1_1),(13,[.mapO false false (.t9 o.2.1) (.t4 o.2.2)])]
def l5 [An A Cp](L:Nat)(o10:Nat×Tu3):A:=
 (sl o10.1 [(lf (o10.2.1,o10.2.2.2.1,o10.2.2.2.2)),
 (lf (0,o10.2.2.2.1,o10.2.2.2.2))])
def Bf3:Br:=(Ba 0 (Bg (EV (O43 L) L 7 c82.w.r) (Dq Tryz.prog (RS Tryz.f82) k)))
theorem B1t(p1_0:List Ah)(p1_1:Ad)(o10:Nat×Tu3):kX [.ret,.exit 0] (A5m p1_0 p1_1) (Bf3 L k) o10=ob (l5 L o10) (A33 p1_0 p1_1 k):=eE (l5 L o10)
def Afc [An A Cp](L:Nat)(p1_0:List Ah)(p1_1:Ad)(nx8:A):A:=
 (cn (decide ((p1_0.length:Int) > 32))
 (lf (6,[],[]))
 nx8)
def Aor [An A Cp](p1_0:List Ah)(p1_1:Ad):A:=Afc L p1_0 p1_1 (bd (H7 L p1_0 p1_1 L 0 0 [] []) fun o10=>l5 L o10)
def Z4(p1_0:List Ah)(p1_1:Ad):Option Cp:=Aor L p1_0 p1_1
theorem Brt(p1_0:List Ah)(p1_1:Ad):YO (O43 L) L 8 82 [lv (.t77 p1_0),I 32,.clo 83 1 [.mp 13]] [(1,Ar p1_1),(13,[.mapO false false (.t9 []) (.t4 [])])] k=ob (Z4 L p1_0 p1_1) (A33 p1_0 p1_1 k):=(Cr _ _ _ jn4 _ _ _ _ _ _ _).trans (eE (Afc L p1_0 p1_1 (ho (Bsm L (Bf3 L k) p1_0 p1_1 L (0,0,[],[])) fun o10=>B1t L k p1_0 p1_1 o10)))
def A6f(p14_0:ByteArray)(p14_1:Ad)(p14_2:List ByteArray)(p14_3:List Bool)(p14_4:List ByteArray)(p14_5:List Bool)(p14_6:Aa)(p14_7:Aa)(k:Bn):Cp→Prop:=fun o=>k (I o.1) [(1,Ar p14_1),(5,[.mp 24]),(13,[.mapO false false (.t9 p14_2) (.t4 p14_3)]),(24,[.mapO false false (.t9 o.2.1) (.t4 o.2.2)]),(33,Ae p14_6),(36,Ae p14_7)]
def Ac9 [An A Cp](p14_0:ByteArray)(p14_1:Ad)(p14_2:List ByteArray)(p14_3:List Bool)(p14_4:List ByteArray)(p14_5:List Bool)(p14_6:Aa)(p14_7:Aa):A:=
 (bd (C6 L p14_0) fun r12=>
 (cn (r12 != 0)
 (lf (r12,p14_4,p14_5))
 (fq (p14_4.findIdx? fun b=>p14_0 == b) (fun i13=>
 (cn (p14_5.getD i13 default)
 (lf (4,p14_4,p14_5))
 (fq (p14_4.findIdx? fun b=>p14_0 == b) (fun i14=>
 (lf (0,p14_4,(p14_5.set i14 true))))
 (lf (0,(p14_4++ [p14_0]),(p14_5++ [true]))))))
 (fq (p14_4.findIdx? fun b=>p14_0 == b) (fun i15=>
 (lf (0,p14_4,(p14_5.set i15 true))))
 (lf (0,(p14_4++ [p14_0]),(p14_5++ [true])))))))
def Yu(p14_0:ByteArray)(p14_1:Ad)(p14_2:List ByteArray)(p14_3:List Bool)(p14_4:List ByteArray)(p14_5:List Bool)(p14_6:Aa)(p14_7:Aa):Option Cp:=Ac9 L p14_0 p14_1 p14_2 p14_3 p14_4 p14_5 p14_6 p14_7
theorem Bks(p14_0:ByteArray)(p14_1:Ad)(p14_2:List ByteArray)(p14_3:List Bool)(p14_4:List ByteArray)(p14_5:List Bool)(p14_6:Aa)(p14_7:Aa):YO (O43 L) L 7 64 [.mp 24,S p14_0] [(1,Ar p14_1),(5,[.mp 24]),(13,[.mapO false false (.t9 p14_2) (.t4 p14_3)]),(24,[.mapO false false (.t9 p14_4) (.t4 p14_5)]),(33,Ae p14_6),(36,Ae p14_7)] k=ob (Yu L p14_0 p14_1 p14_2 p14_3 p14_4 p14_5 p14_6 p14_7) (A6f p14_0 p14_1 p14_2 p14_3 p14_4 p14_5 p14_6 p14_7 k):=(Cr _ _ _ jn4 _ _ _ _ _ _ _).trans (eE (Ac9 L p14_0 p14_1 p14_2 p14_3 p14_4 p14_5 p14_6 p14_7))
def Ayk(p12_0:Aa)(p12_1:Ad)(p12_2:List ByteArray)(p12_3:List Bool)(p12_4:List ByteArray)(p12_5:List Bool)(p12_6:Aa)(k:Bn):Cp→Prop:=fun o=>k (I o.1) [(1,Ar p12_1),(5,[.mp 24]),(13,[.mapO false false (.t9 p12_2) (.t4 p12_3)]),(24,[.mapO false false (.t9 o.2.1) (.t4 o.2.2)]),(33,Ae p12_6),(36,Ae p12_0)]
def Te [An A Cp](p12_0:Aa)(o16:Cp):A:=
 (cn (o16.1 != 0)
 (lf (o16.1,o16.2.1,o16.2.2))
 (bd (Abm L p12_0) fun r17=>
 (lf (r17,o16.2.1,o16.2.2))))
def A86(p12_0:Aa)(p12_1:Ad)(p12_2:List ByteArray)(p12_3:List Bool)(p12_4:List ByteArray)(p12_5:List Bool)(p12_6:Aa):Bn:=(Bu Tryz.prog (O43 L) (EI (O43 L) L 7) 1 (List.drop 4 c63.u.l.l.ops) ⟨[(7,S p12_0.Name),(6,.loc 36 0),(5,.mp 24),(1,.loc 5 0),(2,.loc 36 0),(3,I 0)],[(1,Ar p12_1),(5,[.mp 24]),(13,[.mapO false false (.t9 p12_2) (.t4 p12_3)]),(24,[.mapO false false (.t9 p12_4) (.t4 p12_5)]),(33,Ae p12_6),(36,Ae p12_0)],34⟩ (some 8) (fun st9=>(Bg (EV (O43 L) L 7 c63.u.l.r) (Bg (EV (O43 L) L 7 c63.u.r) (Dq Tryz.prog (RS Tryz.f63) k))) .normal st9))
theorem Bum(p12_0:Aa)(p12_1:Ad)(p12_2:List ByteArray)(p12_3:List Bool)(p12_4:List ByteArray)(p12_5:List Bool)(p12_6:Aa)(o16:Cp):A6f p12_0.Name p12_1 p12_2 p12_3 p12_4 p12_5 p12_6 p12_0 (A86 L k p12_0 p12_1 p12_2 p12_3 p12_4 p12_5 p12_6) o16=ob (Te L p12_0 o16) (Ayk p12_0 p12_1 p12_2 p12_3 p12_4 p12_5 p12_6 k):=eE (Te L p12_0 o16)
def Ac8 [An A Cp](p12_0:Aa)(p12_1:Ad)(p12_2:List ByteArray)(p12_3:List Bool)(p12_4:List ByteArray)(p12_5:List Bool)(p12_6:Aa):A:=(bd (Yu L p12_0.Name p12_1 p12_2 p12_3 p12_4 p12_5 p12_6 p12_0) fun o16=>Te L p12_0 o16)
def K2(p12_0:Aa)(p12_1:Ad)(p12_2:List ByteArray)(p12_3:List Bool)(p12_4:List ByteArray)(p12_5:List Bool)(p12_6:Aa):Option Cp:=Ac8 L p12_0 p12_1 p12_2 p12_3 p12_4 p12_5 p12_6
theorem Bkr(p12_0:Aa)(p12_1:Ad)(p12_2:List ByteArray)(p12_3:List Bool)(p12_4:List ByteArray)(p12_5:List Bool)(p12_6:Aa):YO (O43 L) L 8 63 [.agg (Ae p12_0),.loc 5 0] [(1,Ar p12_1),(5,[.mp 24]),(13,[.mapO false false (.t9 p12_2) (.t4 p12_3)]),(24,[.mapO false false (.t9 p12_4) (.t4 p12_5)]),(33,Ae p12_6)] k=ob (K2 L p12_0 p12_1 p12_2 p12_3 p12_4 p12_5 p12_6) (Ayk p12_0 p12_1 p12_2 p12_3 p12_4 p12_5 p12_6 k):=(Cr _ _ _ jn4 _ _ _ _ _ _ _).trans (eE ((ho (Bks L (A86 L k p12_0 p12_1 p12_2 p12_3 p12_4 p12_5 p12_6) p12_0.Name p12_1 p12_2 p12_3 p12_4 p12_5 p12_6 p12_0) fun o16=>Bum L k p12_0 p12_1 p12_2 p12_3 p12_4 p12_5 p12_6 o16)))
def A5n(p8_0:List Aa)(p8_1:Ad)(p8_2:List ByteArray)(p8_3:List Bool)(v:Tu3):St:=⟨[(0,.any),(1,.any),(2,.clo 63 0 [.loc 5 0]),(6,I v.1),(14,lv (.t55 p8_0)),(15,I (p8_0.length:Int)),(16,I v.2.1)],[(1,Ar p8_1),(5,[.mp 24]),(13,[.mapO false false (.t9 p8_2) (.t4 p8_3)]),(24,[.mapO false false (.t9 v.2.2.1) (.t4 v.2.2.2)])],25⟩
def O4 [An A Tu9](L:Nat)(B7:Int)(Cv:Int)(rec:Int→Int→List ByteArray→List Bool→A)(o18:Cp):A:=
 (cn (o18.1 != 0)
 (lf (0,o18.1,B7,o18.2.1,o18.2.2))
 (rec Cv (Dp (B7+1)) o18.2.1 o18.2.2))
def Tn [An A Tu9](L:Nat)(p8_0:List Aa)(p8_1:Ad)(p8_2:List ByteArray)(p8_3:List Bool)(rec:Int→Int→List ByteArray→List Bool→A)(Cv:Int)(B7:Int)(L2:List ByteArray)(L3:List Bool)(nx16:Int→(List ByteArray)→(List Bool)→Int→A):A:=
 (lw B7 p8_0
 (nx16 B7 L2 L3 Cv)
 (lf (1,Cv,B7,L2,L3)))
def k6 [An A Tu9](p8_0:List Aa)(p8_1:Ad)(p8_2:List ByteArray)(p8_3:List Bool)(rec:Int→Int→List ByteArray→List Bool→A)(Cv:Int)(B7:Int)(L2:List ByteArray)(L3:List Bool):A:=Tn L p8_0 p8_1 p8_2 p8_3 rec Cv B7 L2 L3 (fun B7 L2 L3 Cv=>bd (K2 L (p8_0.getD (Int.toNat B7) default) p8_1 p8_2 p8_3 L2 L3 (p8_0.getD (Int.toNat B7) default)) fun o18=>O4 L B7 Cv rec o18)
def H8(L:Nat)(p8_0:List Aa)(p8_1:Ad)(p8_2:List ByteArray)(p8_3:List Bool):Nat→Int→Int→List ByteArray→List Bool→Option Tu9
 |0,_,_,_,_=>none
 |n+1,Cv,B7,L2,L3=>k6 L p8_0 p8_1 p8_2 p8_3 (H8 L p8_0 p8_1 p8_2 p8_3 n) Cv B7 L2 L3
def Bdc(p8_0:List Aa)(p8_1:Ad)(p8_2:List ByteArray)(p8_3:List Bool):Prop:=LI (EV (O43 L) L 8 c62.w.l.u.l.l) [0,1,2,6,14,15,16] [1,5,13,24] (A5n p8_0 p8_1 p8_2 p8_3) [.ret,.exit 0] (fun n v=>H8 L p8_0 p8_1 p8_2 p8_3 n v.1 v.2.1 v.2.2.1 v.2.2.2) K n
def A87(p8_0:List Aa)(B7:Int)(Cv:Int)(p8_1:Ad)(p8_2:List ByteArray)(p8_3:List Bool)(L2:List ByteArray)(L3:List Bool):Bn:=(Bu Tryz.prog (O43 L) (EI (O43 L) L 8) 1 (List.drop 3 c62.w.l.u.l.l.w.l.l.u.l.ops) ⟨[(21,.agg (Ae (p8_0.getD (Int.toNat B7) default))),(20,.clo 63 0 [.loc 5 0]),(2,.clo 63 0 [.loc 5 0]),(6,I Cv),(8,.loc 33 0),(14,lv (.t55 p8_0)),(15,I (p8_0.length:Int)),(16,I B7),(17,B (decide (B7 < (p8_0.length:Int)))),(18,.ref (Ae (p8_0.getD (Int.toNat B7) default))),(19,.agg (Ae (p8_0.getD (Int.toNat B7) default)))],[(1,Ar p8_1),(5,[.mp 24]),(13,[.mapO false false (.t9 p8_2) (.t4 p8_3)]),(24,[.mapO false false (.t9 L2) (.t4 L3)]),(33,(Ae (p8_0.getD (Int.toNat B7) default)))],25⟩ (some 22) (fun st9=>(Bg (EV (O43 L) L 8 c62.w.l.u.l.l.w.l.l.u.r) (Ba 1 (Bg (EV (O43 L) L 8 c62.w.l.u.l.l.w.r) (Ii (Kw (EV (O43 L) L 8 c62.w.l.u.l.l) [0,1,2,6,14,15,16] [1,5,13,24] n) [0,1,2,6,14,15,16] [1,5,13,24] K)))) .normal st9))
theorem Bun(p8_0:List Aa)(B7:Int)(p8_1:Ad)(p8_2:List ByteArray)(p8_3:List Bool)(L2:List ByteArray)(L3:List Bool)(Cv:Int)(ih:Bdc L n K p8_0 p8_1 p8_2 p8_3)(o18:Cp):Ayk (p8_0.getD (Int.toNat B7) default) p8_1 p8_2 p8_3 L2 L3 (p8_0.getD (Int.toNat B7) default) (A87 L n K p8_0 B7 Cv p8_1 p8_2 p8_3 L2 L3) o18=ob (O4 L B7 Cv (H8 L p8_0 p8_1 p8_2 p8_3 n) o18) (kX [.ret,.exit 0] (A5n p8_0 p8_1 p8_2 p8_3) K):=eE (O4 L B7 Cv (fun Cv B7 L2 L3=>re (ih (Cv,B7,L2,L3))) o18)
theorem Bsn(p8_0:List Aa)(p8_1:Ad)(p8_2:List ByteArray)(p8_3:List Bool):∀n,Bdc L n K p8_0 p8_1 p8_2 p8_3:=lE (fun _=>rfl) fun n v ih=>eE (Tn L p8_0 p8_1 p8_2 p8_3 (fun Cv B7 L2 L3=>re (ih (Cv,B7,L2,L3))) v.1 v.2.1 v.2.2.1 v.2.2.2 (fun B7 L2 L3 Cv=>ho (Bkr L (A87 L n K p8_0 B7 Cv p8_1 p8_2 p8_3 L2 L3) (p8_0.getD (Int.toNat B7) default) p8_1 p8_2 p8_3 L2 L3 (p8_0.getD (Int.toNat B7) default)) fun o18=>Bun L n K p8_0 B7 p8_1 p8_2 p8_3 L2 L3 Cv ih o18))
def A35(p8_0:List Aa)(p8_1:Ad)(p8_2:List ByteArray)(p8_3:List Bool)(k:Bn):Cp→Prop:=fun o=>k (I o.1) [(1,Ar p8_1),(5,[.mp 24]),(13,[.mapO false false (.t9 p8_2) (.t4 p8_3)]),(24,[.mapO false false (.t9 o.2.1) (.t4 o.2.2)])]
def Y6 [An A Cp](L:Nat)(o19:Nat×Tu3):A:=
 (sl o19.1 [(lf (o19.2.1,o19.2.2.2.1,o19.2.2.2.2)),
 (lf (0,o19.2.2.2.1,o19.2.2.2.2))])
def A88:Br:=(Ba 0 (Bg (EV (O43 L) L 8 c62.w.r) (Dq Tryz.prog (RS Tryz.f62) k)))
theorem Buo(p8_0:List Aa)(p8_1:Ad)(p8_2:List ByteArray)(p8_3:List Bool)(o19:Nat×Tu3):kX [.ret,.exit 0] (A5n p8_0 p8_1 p8_2 p8_3) (A88 L k) o19=ob (Y6 L o19) (A35 p8_0 p8_1 p8_2 p8_3 k):=eE (Y6 L o19)
def Adg [An A Cp](L:Nat)(p8_0:List Aa)(p8_1:Ad)(p8_2:List ByteArray)(p8_3:List Bool)(nx17:A):A:=
 (cn (decide ((p8_0.length:Int) > 16))
 (lf (6,[],[]))
 nx17)
def Aos [An A Cp](p8_0:List Aa)(p8_1:Ad)(p8_2:List ByteArray)(p8_3:List Bool):A:=Adg L p8_0 p8_1 p8_2 p8_3 (bd (H8 L p8_0 p8_1 p8_2 p8_3 L 0 0 [] []) fun o19=>Y6 L o19)
def Z6(p8_0:List Aa)(p8_1:Ad)(p8_2:List ByteArray)(p8_3:List Bool):Option Cp:=Aos L p8_0 p8_1 p8_2 p8_3
theorem Brw(p8_0:List Aa)(p8_1:Ad)(p8_2:List ByteArray)(p8_3:List Bool):YO (O43 L) L 9 62 [lv (.t55 p8_0),I 16,.clo 63 0 [.loc 5 0]] [(1,Ar p8_1),(5,[.mp 24]),(13,[.mapO false false (.t9 p8_2) (.t4 p8_3)]),(24,[.mapO false false (.t9 []) (.t4 [])])] k=ob (Z6 L p8_0 p8_1 p8_2 p8_3) (A35 p8_0 p8_1 p8_2 p8_3 k):=(Cr _ _ _ jn4 _ _ _ _ _ _ _).trans (eE (Adg L p8_0 p8_1 p8_2 p8_3 (ho (Bsn L (A88 L k) p8_0 p8_1 p8_2 p8_3 L (0,0,[],[])) fun o19=>Buo L k p8_0 p8_1 p8_2 p8_3 o19)))
def O7 [An A Int](a0:Ad)(o20:Cp):A:=
 (cn (o20.1 != 0)
 (lf o20.1)
 (bd (u4 L a0) fun r21=>
 (lf r21)))
def A89(a0:Ad)(o11:Cp):Bn:=(Bu Tryz.prog (O43 L) (EI (O43 L) L 9) 1 (List.drop 4 c43.x.u.l.ops) ⟨[(27,.clo 63 0 [.loc 5 0]),(26,lv (.t55 a0.Sites)),(25,.loc 1 2),(1,.loc 1 0),(2,I 0),(5,.loc 5 0)],[(1,Ar a0),(5,[.mp 24]),(13,[.mapO false false (.t9 o11.2.1) (.t4 o11.2.2)]),(24,[.mapO false false (.t9 []) (.t4 [])])],0⟩ (some 28) (fun st9=>(Bg (EV (O43 L) L 9 c43.x.u.r) (Gu Tryz.prog (RS Tryz.f43) kk)) .normal st9))
theorem Bup(a0:Ad)(o11:Cp)(o20:Cp):A35 a0.Sites a0 o11.2.1 o11.2.2 (A89 L kk a0 o11) o20=ob (O7 L a0 o20) (kQ I kk):=eE (O7 L a0 o20)
def Tp [An A Int](L:Nat)(a0:Ad)(o11:Cp)(nx18:Cp→A):A:=
 (cn (o11.1 != 0)
 (lf o11.1)
 (cn ((a0.Sites.length:Int) == 0)
 (lf 7)
 (nx18 o11)))
def U2 [An A Int](a0:Ad)(o11:Cp):A:=Tp L a0 o11 (fun o11=>bd (Z6 L a0.Sites a0 o11.2.1 o11.2.2) fun o20=>O7 L a0 o20)
def Bf4(a0:Ad):Bn:=(Bu Tryz.prog (O43 L) (EI (O43 L) L 8) 1 (List.drop 4 c61.u.l.ops) ⟨[(7,.clo 83 1 [.mp 13]),(6,.mp 13),(5,lv (.t77 a0.Params)),(0,.mp 13),(1,lv (.t77 a0.Params)),(4,I 0)],[(1,Ar a0),(13,[.mapO false false (.t9 []) (.t4 [])])],14⟩ (some 8) (fun st9=>(Bg (EV (O43 L) L 8 c61.u.r) (Dq Tryz.prog (RS Tryz.f61) (Bu Tryz.prog (O43 L) (EI (O43 L) L 9) 1 (List.drop 4 c43.w.l.l.ops) ⟨[(15,lv (.t77 a0.Params)),(14,.loc 1 1),(13,.mp 13),(1,.loc 1 0),(2,I 0)],[(13,[.mapO false false (.t9 []) (.t4 [])]),(1,Ar a0)],0⟩ (some 16) (fun st9=>(Bg (EV (O43 L) L 9 c43.w.l.r) (Bg (EV (O43 L) L 9 c43.w.r) (Gu Tryz.prog (RS Tryz.f43) kk))) .normal st9)))) .normal st9))
theorem B1u(a0:Ad)(o11:Cp):A33 a0.Params a0 (Bf4 L kk a0) o11=ob (U2 L a0 o11) (kQ I kk):=eE (Tp L a0 o11 (fun o11=>ho (Brw L (A89 L kk a0 o11) a0.Sites a0 o11.2.1 o11.2.2) fun o20=>Bup L kk a0 o11 o20))
def Vk [An A Int](a0:Ad)(nx9:A):A:=
 (bd (C6 L a0.Name) fun r1=>
 (cn (r1 != 0)
 (lf r1)
 nx9))
def Akc [An A Int](a0:Ad):A:=Vk L a0 (bd (Z4 L a0.Params a0) fun o11=>U2 L a0 o11)
def u3(a0:Ad):Option Int:=Akc L a0
def X43:N2:=E1 I 43 Ml (u3 L) fun a0 r h=>hF Tryz.func43 (C:=O43 L) (oS _) L (fun kk=>eE (Vk L a0 (ho (Brt L (Bf4 L kk a0) a0.Params a0) fun o11=>B1u L kk a0 o11))) h
def Byj:=CC Tryz.f183
def Bpv(L:Nat):Bq:=oL []
def Bzj:Tu4→Prop:=fun x=>kk ((fun(x:Tu4)=> .tup [I x.1,B x.2]) x)
def Bay(a0:List Ap)(a1:ByteArray)(v:Int×Bool×Int):St:=⟨[(0,lv (.t190 a0)),(1,S a1),(4,I v.1),(5,B v.2.1),(6,I v.2.2)],[],0⟩
def Oz [An A (Nat×Int×Bool×Int)](L:Nat)(a0:List Ap)(a1:ByteArray)(rec:Int→Bool→Int→A)(Bc:Int)(Al:Bool)(Bi:Int):A:=
 (cn (decide (Bi≥0))
 (gi Bi a0
 (cn (((a0.getD (Int.toNat Bi) default).Name).toList == a1.toList)
 (gi Bi a0
 (lf (0,(((a0.getD (Int.toNat Bi) default).Type_),true,Bi))))
 (rec Bc Al (Dp (Bi - 1)))))
 (lf (1,Bc,Al,Bi)))
def Iu(L:Nat)(a0:List Ap)(a1:ByteArray):Nat→Int→Bool→Int→Option (Nat×Int×Bool×Int)
 |0,_,_,_=>none
 |n+1,Bc,Al,Bi=>Oz L a0 a1 (Iu L a0 a1 n) Bc Al Bi
theorem Bl0(a0:List Ap)(a1:ByteArray):LP (EV (Bpv L) L 9 Byj.u.l.u.l.l) [0,1,4,5,6] [] (Bay a0 a1) [.ret,.exit 0] (fun n v=>Iu L a0 a1 n v.1 v.2.1 v.2.2) K:=lE (fun _=>rfl) fun n v ih=>eE (Oz L a0 a1 (fun Bc Al Bi=>re (ih (Bc,Al,Bi))) v.1 v.2.1 v.2.2)
def Pt [An A Tu4](L:Nat)(o1:Nat×Int×Bool×Int):A:=
 (sl o1.1 [(lf (o1.2.1,o1.2.2.1)),
 (lf (0,false))])
def A8q:Br:=(Ba 0 (Bg (EV (Bpv L) L 9 Byj.u.r) (Gu Tryz.prog (RS Tryz.f183) kk)))
theorem Bt6(a0:List Ap)(a1:ByteArray)(o1:Nat×Int×Bool×Int):kX [.ret,.exit 0] (Bay a0 a1) (A8q L kk) o1=ob (Pt L o1) (Bzj kk):=eE (Pt L o1)
def Ah5 [An A Tu4](a0:List Ap)(a1:ByteArray):A:=(bd (Iu L a0 a1 L 0 false (Dp ((a0.length:Int) - 1))) fun o1=>Pt L o1)
def M7(a0:List Ap)(a1:ByteArray):Option Tu4:=Ah5 L a0 a1
def Bdu:N2:=E2 (fun(x:Tu4)=> .tup [I x.1,B x.2]) 183 Bof cS (M7 L) fun a0 a1 r h=>hF Tryz.func183 (C:=Bpv L) (oS _) L (fun kk=>eE ((ho (Bl0 L (A8q L kk) a0 a1 L (0,false,(Dp ((a0.length:Int) - 1)))) fun o1=>Bt6 L kk a0 a1 o1))) h
def Bi8:=CC Tryz.f224
def Bdq:Bq:=oL [Bdu L]
def Bow:Tu4→Prop:=fun x=>kk ((fun(x:Tu4)=> .tup [I x.1,B x.2]) x)
def Ba9(a1:ByteArray)(a0:Bf)(v:Int×Bool×Int):St:=⟨[(0,.any),(1,S a1),(2,.loc 2 0),(4,I v.1),(5,B v.2.1),(6,.any),(7,.any),(11,.any),(23,lv (.t77 a0.Site.Vars)),(24,I (a0.Site.Vars.length:Int)),(25,I v.2.2),(39,.any)],[(2,Abu a0)],0⟩
def Uu [An A (Nat×Int×Bool×Int)](L:Nat)(a1:ByteArray)(a0:Bf)(rec:Int→Bool→Int→A)(Ao:Int)(Bc:Bool)(Ih:Int):A:=
 (lw Ih a0.Site.Vars
 (cn (((a0.Site.Vars.getD (Int.toNat Ih) default).Name).toList == a1.toList)
 (lf (0,(((a0.Site.Vars.getD (Int.toNat Ih) default).Type_),true,Ih)))
 (rec Ao Bc (Dp (Ih+1))))
 (lf (1,Ao,Bc,Ih)))
def J6(L:Nat)(a1:ByteArray)(a0:Bf):Nat→Int→Bool→Int→Option (Nat×Int×Bool×Int)
 |0,_,_,_=>none
 |n+1,Ao,Bc,Ih=>Uu L a1 a0 (J6 L a1 a0 n) Ao Bc Ih
theorem Bmb(a1:ByteArray)(a0:Bf):LP (EV (Bdq L) L 9 Bi8.w.l.u.l.l) [0,1,2,4,5,6,7,11,23,24,25,39] [2] (Ba9 a1 a0) [.ret,.exit 0] (fun n v=>J6 L a1 a0 n v.1 v.2.1 v.2.2) K:=lE (fun _=>rfl) fun n v ih=>eE (Uu L a1 a0 (fun Ao Bc Ih=>re (ih (Ao,Bc,Ih))) v.1 v.2.1 v.2.2)
def Bba(a1:ByteArray)(a0:Bf)(v:Int×Bool×Int):St:=⟨[(0,.any),(1,S a1),(2,.any),(4,I v.1),(5,B v.2.1),(6,.any),(7,.any),(9,.any),(25,.any),(37,lv (.t77 a0.Params)),(38,I (a0.Params.length:Int)),(39,I v.2.2)],[(2,Abu a0)],0⟩
def Uv [An A (Nat×Int×Bool×Int)](L:Nat)(a1:ByteArray)(a0:Bf)(rec:Int→Bool→Int→A)(Dz:Int)(S2:Bool)(Awk:Int):A:=
 (lw Awk a0.Params
 (cn (((a0.Params.getD (Int.toNat Awk) default).Name).toList == a1.toList)
 (lf (0,(((a0.Params.getD (Int.toNat Awk) default).Type_),true,Awk)))
 (rec Dz S2 (Dp (Awk+1))))
 (lf (1,Dz,S2,Awk)))
def J7(L:Nat)(a1:ByteArray)(a0:Bf):Nat→Int→Bool→Int→Option (Nat×Int×Bool×Int)
 |0,_,_,_=>none
 |n+1,Dz,S2,Awk=>Uv L a1 a0 (J7 L a1 a0 n) Dz S2 Awk
theorem Bmc(a1:ByteArray)(a0:Bf):LP (EV (Bdq L) L 9 Bi8.w.u.l.u.l.l) [0,1,2,4,5,6,7,9,25,37,38,39] [2] (Bba a1 a0) [.ret,.exit 2] (fun n v=>J7 L a1 a0 n v.1 v.2.1 v.2.2) K:=lE (fun _=>rfl) fun n v ih=>eE (Uv L a1 a0 (fun Dz S2 Awk=>re (ih (Dz,S2,Awk))) v.1 v.2.1 v.2.2)
def Rg [An A Tu4](L:Nat)(o3:Nat×Int×Bool×Int):A:=
 (sl o3.1 [(lf (o3.2.1,o3.2.2.1)),
 (lf (0,false))])
def A85:Br:=(Ba 2 (Bg (EV (Bdq L) L 9 Bi8.w.u.r) (Gu Tryz.prog (RS Tryz.f224) kk)))
theorem Bul(a1:ByteArray)(a0:Bf)(o3:Nat×Int×Bool×Int):kX [.ret,.exit 2] (Bba a1 a0) (A85 L kk) o3=ob (Rg L o3) (Bow kk):=eE (Rg L o3)
def Vx [An A Tu4](L:Nat)(a1:ByteArray)(a0:Bf)(o2:Nat×Int×Bool×Int)(nx2:(Nat×Int×Bool×Int)→A):A:=
 (sl o2.1 [(lf (o2.2.1,o2.2.2.1)),
 (nx2 o2)])
def Vf [An A Tu4](a1:ByteArray)(a0:Bf)(o2:Nat×Int×Bool×Int):A:=Vx L a1 a0 o2 (fun o2=>bd (J7 L a1 a0 L o2.2.1 o2.2.2.1 0) fun o3=>Rg L o3)
def A84:Br:=(Ba 0 (Bg (EV (Bdq L) L 9 Bi8.w.r) (Gu Tryz.prog (RS Tryz.f224) kk)))
theorem Buk(a1:ByteArray)(a0:Bf)(o2:Nat×Int×Bool×Int):kX [.ret,.exit 0] (Ba9 a1 a0) (A84 L kk) o2=ob (Vf L a1 a0 o2) (Bow kk):=eE (Vx L a1 a0 o2 (fun o2=>ho (Bmc L (A85 L kk) a1 a0 L (o2.2.1,o2.2.2.1,0)) fun o3=>Bul L kk a1 a0 o3))
def Vw [An A Tu4](a0:Bf)(a1:ByteArray)(nx1:A):A:=
 (bd (M7 L a0.Locals a1) fun r1=>
 (cn r1.2
 (lf (r1.1,true))
 nx1))
def Akh [An A Tu4](a0:Bf)(a1:ByteArray):A:=Vw L a0 a1 (bd (J6 L a1 a0 L 0 false 0) fun o2=>Vf L a1 a0 o2)
def u7(a0:Bf)(a1:ByteArray):Option Tu4:=Akh L a0 a1
def Bqe:N2:=E2 (fun(x:Tu4)=> .tup [I x.1,B x.2]) 224 Ab9 cS (u7 L) fun a0 a1 r h=>hF Tryz.func224 (C:=Bdq L) (oS _) L (fun kk=>eE (Vw L a0 a1 (ho (Bmb L (A84 L kk) a1 a0 L (0,false,0)) fun o2=>Buk L kk a1 a0 o2))) h
end
end Go.Proofs.YtfencmicmnhglaaGreat.Ev
