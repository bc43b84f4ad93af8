import Derived.Test.YthjhkpgonleelaaGreatDoorBG1
import Derived.Test.YthjhkpgonleelaaGreatDoorBG2
namespace Go.Proofs.YthjhkpgonleelaaGreatDoor.Ev
open Go An
set_option maxRecDepth 100000
set_option maxHeartbeats 4000000
set_option linter.unusedVariables false
set_option linter.unusedSimpArgs false
set_option linter.unnecessarySimpa false
noncomputable section
variable {A:Type} (L n:Nat) (kk:Ep) (K:Ci) (k:Bn)
def A2z:=CC Tryz.f153
def A20:=CC Tryz.f154
def Bj2:=CC Tryz.f155
def Bjy:=CC Tryz.f118
def X9:Bt:=oL [X35 L,Bnh L,Bey L]
def Asq(p10_0:ByteArray)(p10_1:Aa)(p10_2:List ByteArray)(p10_3:List Bool)(p10_4:Bh)(p10_5:Bh)(k:Bn):Co→Prop:=fun o=>k (I o.1) [(1,(Ae p10_1)),(3,[.mp 4]),(4,[.mapO false false (.t9 o.2.1) (.t4 o.2.2)]),(1013,(Dw p10_4)),(2017,(Dw p10_5))]
def Aai [An A Co](p10_0:ByteArray)(p10_1:Aa)(p10_2:List ByteArray)(p10_3:List Bool)(p10_4:Bh)(p10_5:Bh):A:=
 (bd (Cr L p10_0) fun r1=>
 (cn (r1 != 0)
 (lf (r1,p10_2,p10_3))
 (fq (p10_2.findIdx? fun b=>p10_0 == b) (fun i2=>
 (cn (p10_3.getD i2 default)
 (lf (4,p10_2,p10_3))
 (fq (p10_2.findIdx? fun b=>p10_0 == b) (fun i3=>
 (lf (0,p10_2,(p10_3.set i3 true))))
 (lf (0,(p10_2++ [p10_0]),(p10_3++ [true]))))))
 (fq (p10_2.findIdx? fun b=>p10_0 == b) (fun i4=>
 (lf (0,p10_2,(p10_3.set i4 true))))
 (lf (0,(p10_2++ [p10_0]),(p10_3++ [true])))))))
def Vx(p10_0:ByteArray)(p10_1:Aa)(p10_2:List ByteArray)(p10_3:List Bool)(p10_4:Bh)(p10_5:Bh):Option Co:=Aai L p10_0 p10_1 p10_2 p10_3 p10_4 p10_5
theorem A55(p10_0:ByteArray)(p10_1:Aa)(p10_2:List ByteArray)(p10_3:List Bool)(p10_4:Bh)(p10_5:Bh):YO (X9 L) L 7 59 [.mp 4,S p10_0] [(1,(Ae p10_1)),(3,[.mp 4]),(4,[.mapO false false (.t9 p10_2) (.t4 p10_3)]),(1013,(Dw p10_4)),(2017,(Dw p10_5))] k=ob (Vx L p10_0 p10_1 p10_2 p10_3 p10_4 p10_5) (Asq p10_0 p10_1 p10_2 p10_3 p10_4 p10_5 k):=(C6 _ _ _ y9 _ _ _ _ _ _ _).trans (eE (Aai L p10_0 p10_1 p10_2 p10_3 p10_4 p10_5))
def A1o(p11_0:List Be)(p11_1:Aa)(p11_2:List ByteArray)(p11_3:List Bool)(p11_4:Bh)(p11_5:Bh)(v:L1):St:=⟨[(0,.any),(1,.any),(2,.clo 156 0 [.loc 1 0]),(6,I v.1),(14,lv (.t203 p11_0)),(15,I (p11_0.length:Int)),(16,I v.2)],[(1,(Ae p11_1)),(3,[.mp 4]),(4,[.mapO false false (.t9 p11_2) (.t4 p11_3)]),(1013,(Dw p11_4)),(2017,(Dw p11_5))],3018⟩
def Sq [An A Hl](p11_0:List Be)(p11_1:Aa)(p11_2:List ByteArray)(p11_3:List Bool)(p11_4:Bh)(p11_5:Bh)(rec:Int→Int→A)(Cn:Int)(Bw:Int):A:=
 (lw Bw p11_0
 (bd (Qn L p11_1 (p11_0.getD (Int.toNat Bw) default)) fun r6=>
 (cn (r6 != 0)
 (lf (0,r6,Bw))
 (rec Cn (Bi (Bw+1)))))
 (lf (1,Cn,Bw)))
def Ir(L:Nat)(p11_0:List Be)(p11_1:Aa)(p11_2:List ByteArray)(p11_3:List Bool)(p11_4:Bh)(p11_5:Bh):Nat→Int→Int→Option Hl
 |0,_,_=>none
 |n+1,Cn,Bw=>Sq L p11_0 p11_1 p11_2 p11_3 p11_4 p11_5 (Ir L p11_0 p11_1 p11_2 p11_3 p11_4 p11_5 n) Cn Bw
theorem Ba8(p11_0:List Be)(p11_1:Aa)(p11_2:List ByteArray)(p11_3:List Bool)(p11_4:Bh)(p11_5:Bh):LP (EV (X9 L) L 6 Bj2.w.l.u.l.l) [0,1,2,6,14,15,16] [1,3,4,1013,2017] (A1o p11_0 p11_1 p11_2 p11_3 p11_4 p11_5) [.ret,.exit 0] (fun n v=>Ir L p11_0 p11_1 p11_2 p11_3 p11_4 p11_5 n v.1 v.2) K:=lE (fun _=>rfl) fun n v ih=>eE (Sq L p11_0 p11_1 p11_2 p11_3 p11_4 p11_5 (fun Cn Bw=>re (ih (Cn,Bw))) v.1 v.2)
def Alj(p11_0:List Be)(p11_1:Aa)(p11_2:List ByteArray)(p11_3:List Bool)(p11_4:Bh)(p11_5:Bh)(k:Bn):Int→Prop:=fun o=>k (I o) [(1,(Ae p11_1)),(3,[.mp 4]),(4,[.mapO false false (.t9 p11_2) (.t4 p11_3)]),(1013,(Dw p11_4)),(2017,(Dw p11_5))]
def Wh [An A Int](L:Nat)(o7:Nat×L1):A:=
 (sl o7.1 [(lf o7.2.1),
 (lf 0)])
def Att:Ci:=(Bs 0 (Bz (EV (X9 L) L 6 Bj2.w.r) (Dg Tryz.prog (RS Tryz.f155) k)))
theorem Bb6(p11_0:List Be)(p11_1:Aa)(p11_2:List ByteArray)(p11_3:List Bool)(p11_4:Bh)(p11_5:Bh)(o7:Nat×L1):kX [.ret,.exit 0] (A1o p11_0 p11_1 p11_2 p11_3 p11_4 p11_5) (Att L k) o7=ob (Wh L o7) (Alj p11_0 p11_1 p11_2 p11_3 p11_4 p11_5 k):=eE (Wh L o7)
def Aa1 [An A Int](L:Nat)(p11_0:List Be)(p11_1:Aa)(p11_2:List ByteArray)(p11_3:List Bool)(p11_4:Bh)(p11_5:Bh)(nx17:A):A:=
 (cn (decide ((p11_0.length:Int) > 8))
 (lf 6)
 nx17)
def Aih [An A Int](p11_0:List Be)(p11_1:Aa)(p11_2:List ByteArray)(p11_3:List Bool)(p11_4:Bh)(p11_5:Bh):A:=Aa1 L p11_0 p11_1 p11_2 p11_3 p11_4 p11_5 (bd (Ir L p11_0 p11_1 p11_2 p11_3 p11_4 p11_5 L 0 0) fun o7=>Wh L o7)
def Vy(p11_0:List Be)(p11_1:Aa)(p11_2:List ByteArray)(p11_3:List Bool)(p11_4:Bh)(p11_5:Bh):Option Int:=Aih L p11_0 p11_1 p11_2 p11_3 p11_4 p11_5
theorem A56(p11_0:List Be)(p11_1:Aa)(p11_2:List ByteArray)(p11_3:List Bool)(p11_4:Bh)(p11_5:Bh):YO (X9 L) L 7 155 [lv (.t203 p11_0),I 8,.clo 156 0 [.loc 1 0]] [(1,(Ae p11_1)),(3,[.mp 4]),(4,[.mapO false false (.t9 p11_2) (.t4 p11_3)]),(1013,(Dw p11_4)),(2017,(Dw p11_5))] k=ob (Vy L p11_0 p11_1 p11_2 p11_3 p11_4 p11_5) (Alj p11_0 p11_1 p11_2 p11_3 p11_4 p11_5 k):=(C6 _ _ _ y9 _ _ _ _ _ _ _).trans (eE (Aa1 L p11_0 p11_1 p11_2 p11_3 p11_4 p11_5 (ho (Ba8 L (Att L k) p11_0 p11_1 p11_2 p11_3 p11_4 p11_5 L (0,0)) fun o7=>Bb6 L k p11_0 p11_1 p11_2 p11_3 p11_4 p11_5 o7)))
def Ak6(p7_0:Bh)(p7_1:Aa)(p7_2:List ByteArray)(p7_3:List Bool)(p7_4:Bh)(k:Bn):Co→Prop:=fun o=>k (I o.1) [(1,(Ae p7_1)),(3,[.mp 4]),(4,[.mapO false false (.t9 o.2.1) (.t4 o.2.2)]),(1013,(Dw p7_4)),(2017,(Dw p7_0))]
def Rb [An A Co](o5:Co)(p7_0:Bh)(o8:Int):A:=
 (cn (o8 != 0)
 (lf (o8,o5.2.1,o5.2.2))
 (bd (Zn L p7_0.Total) fun r9=>
 (cn (!r9)
 (lf (2,o5.2.1,o5.2.2))
 (lf (0,o5.2.1,o5.2.2)))))
def Atu(p7_0:Bh)(p7_1:Aa)(o5:Co)(p7_4:Bh):Bn:=(Bx Tryz.prog (X9 L) (EI (X9 L) L 7) 1 (List.drop 4 A20.w.u.l.l.ops) ⟨[(20,.clo 156 0 [.loc 1 0]),(19,lv (.t203 p7_0.Terms)),(18,.loc 2017 1),(2,.loc 1 0),(3,.loc 2017 0),(4,I 0)],[(1,(Ae p7_1)),(3,[.mp 4]),(4,[.mapO false false (.t9 o5.2.1) (.t4 o5.2.2)]),(1013,(Dw p7_4)),(2017,(Dw p7_0))],2014⟩ (some 21) (fun st9=>(Bz (EV (X9 L) L 7 A20.w.u.l.r) (Bz (EV (X9 L) L 7 A20.w.u.r) (Dg Tryz.prog (RS Tryz.f154) k))) .normal st9))
theorem Bb7(p7_0:Bh)(p7_1:Aa)(o5:Co)(p7_4:Bh)(p7_2:List ByteArray)(p7_3:List Bool)(o8:Int):Alj p7_0.Terms p7_1 o5.2.1 o5.2.2 p7_4 p7_0 (Atu L k p7_0 p7_1 o5 p7_4) o8=ob (Rb L o5 p7_0 o8) (Ak6 p7_0 p7_1 p7_2 p7_3 p7_4 k):=eE (Rb L o5 p7_0 o8)
def Wy [An A Co](L:Nat)(p7_0:Bh)(p7_1:Aa)(p7_4:Bh)(o5:Co)(nx18:Co→A):A:=
 (cn (o5.1 != 0)
 (lf (o5.1,o5.2.1,o5.2.2))
 (cn ((p7_0.Terms.length:Int) == 0)
 (lf (7,o5.2.1,o5.2.2))
 (nx18 o5)))
def Wg [An A Co](p7_0:Bh)(p7_1:Aa)(p7_4:Bh)(o5:Co):A:=Wy L p7_0 p7_1 p7_4 o5 (fun o5=>bd (Vy L p7_0.Terms p7_1 o5.2.1 o5.2.2 p7_4 p7_0) fun o8=>Rb L o5 p7_0 o8)
def Ats(p7_0:Bh)(p7_1:Aa)(p7_2:List ByteArray)(p7_3:List Bool)(p7_4:Bh):Bn:=(Bx Tryz.prog (X9 L) (EI (X9 L) L 7) 1 (List.drop 4 A20.u.l.l.ops) ⟨[(9,S p7_0.Name),(8,.loc 2017 0),(7,.mp 4),(1,.loc 3 0),(2,.loc 1 0),(3,.loc 2017 0),(4,I 0)],[(1,(Ae p7_1)),(3,[.mp 4]),(4,[.mapO false false (.t9 p7_2) (.t4 p7_3)]),(1013,(Dw p7_4)),(2017,(Dw p7_0))],2014⟩ (some 10) (fun st9=>(Bz (EV (X9 L) L 7 A20.u.l.r) (Bz (EV (X9 L) L 7 A20.u.r) (Dg Tryz.prog (RS Tryz.f154) k))) .normal st9))
theorem Bb5(p7_0:Bh)(p7_1:Aa)(p7_2:List ByteArray)(p7_3:List Bool)(p7_4:Bh)(o5:Co):Asq p7_0.Name p7_1 p7_2 p7_3 p7_4 p7_0 (Ats L k p7_0 p7_1 p7_2 p7_3 p7_4) o5=ob (Wg L p7_0 p7_1 p7_4 o5) (Ak6 p7_0 p7_1 p7_2 p7_3 p7_4 k):=eE (Wy L p7_0 p7_1 p7_4 o5 (fun o5=>ho (A56 L (Atu L k p7_0 p7_1 o5 p7_4) p7_0.Terms p7_1 o5.2.1 o5.2.2 p7_4 p7_0) fun o8=>Bb7 L k p7_0 p7_1 o5 p7_4 p7_2 p7_3 o8))
def Acj [An A Co](p7_0:Bh)(p7_1:Aa)(p7_2:List ByteArray)(p7_3:List Bool)(p7_4:Bh):A:=(bd (Vx L p7_0.Name p7_1 p7_2 p7_3 p7_4 p7_0) fun o5=>Wg L p7_0 p7_1 p7_4 o5)
def K3(p7_0:Bh)(p7_1:Aa)(p7_2:List ByteArray)(p7_3:List Bool)(p7_4:Bh):Option Co:=Acj L p7_0 p7_1 p7_2 p7_3 p7_4
theorem Bad(p7_0:Bh)(p7_1:Aa)(p7_2:List ByteArray)(p7_3:List Bool)(p7_4:Bh):YO (X9 L) L 8 154 [.agg (Dw p7_0),.loc 3 0,.loc 1 0] [(1,(Ae p7_1)),(3,[.mp 4]),(4,[.mapO false false (.t9 p7_2) (.t4 p7_3)]),(1013,(Dw p7_4))] k=ob (K3 L p7_0 p7_1 p7_2 p7_3 p7_4) (Ak6 p7_0 p7_1 p7_2 p7_3 p7_4 k):=(C6 _ _ _ y9 _ _ _ _ _ _ _).trans (eE ((ho (A55 L (Ats L k p7_0 p7_1 p7_2 p7_3 p7_4) p7_0.Name p7_1 p7_2 p7_3 p7_4 p7_0) fun o5=>Bb5 L k p7_0 p7_1 p7_2 p7_3 p7_4 o5)))
def Ar7(p1_0:List Bh)(p1_1:Aa)(v:Y6):St:=⟨[(0,.any),(1,.any),(2,.clo 154 0 [.loc 3 0,.loc 1 0]),(6,I v.1),(14,lv (.t154 p1_0)),(15,I (p1_0.length:Int)),(16,I v.2.1)],[(1,(Ae p1_1)),(3,[.mp 4]),(4,[.mapO false false (.t9 v.2.2.1) (.t4 v.2.2.2)])],1005⟩
def Mz [An A L5](L:Nat)(Am:Int)(Au:Int)(rec:Int→Int→List ByteArray→List Bool→A)(o10:Co):A:=
 (cn (o10.1 != 0)
 (lf (0,o10.1,Am,o10.2.1,o10.2.2))
 (rec Au (Bi (Am+1)) o10.2.1 o10.2.2))
def Rm [An A L5](L:Nat)(p1_0:List Bh)(p1_1:Aa)(rec:Int→Int→List ByteArray→List Bool→A)(Au:Int)(Am:Int)(C3:List ByteArray)(C4:List Bool)(nx19:Int→(List ByteArray)→(List Bool)→Int→A):A:=
 (lw Am p1_0
 (nx19 Am C3 C4 Au)
 (lf (1,Au,Am,C3,C4)))
def Yf [An A L5](p1_0:List Bh)(p1_1:Aa)(rec:Int→Int→List ByteArray→List Bool→A)(Au:Int)(Am:Int)(C3:List ByteArray)(C4:List Bool):A:=Rm L p1_0 p1_1 rec Au Am C3 C4 (fun Am C3 C4 Au=>bd (K3 L (p1_0.getD (Int.toNat Am) default) p1_1 C3 C4 (p1_0.getD (Int.toNat Am) default)) fun o10=>Mz L Am Au rec o10)
def Gz(L:Nat)(p1_0:List Bh)(p1_1:Aa):Nat→Int→Int→List ByteArray→List Bool→Option L5
 |0,_,_,_,_=>none
 |n+1,Au,Am,C3,C4=>Yf L p1_0 p1_1 (Gz L p1_0 p1_1 n) Au Am C3 C4
def Aye(p1_0:List Bh)(p1_1:Aa):Prop:=LI (EV (X9 L) L 8 A2z.w.l.u.l.l) [0,1,2,6,14,15,16] [1,3,4] (Ar7 p1_0 p1_1) [.ret,.exit 0] (fun n v=>Gz L p1_0 p1_1 n v.1 v.2.1 v.2.2.1 v.2.2.2) K n
def Atv(p1_0:List Bh)(Am:Int)(Au:Int)(p1_1:Aa)(C3:List ByteArray)(C4:List Bool):Bn:=(Bx Tryz.prog (X9 L) (EI (X9 L) L 8) 1 (List.drop 3 A2z.w.l.u.l.l.w.l.l.u.l.ops) ⟨[(21,.agg (Dw (p1_0.getD (Int.toNat Am) default))),(20,.clo 154 0 [.loc 3 0,.loc 1 0]),(2,.clo 154 0 [.loc 3 0,.loc 1 0]),(6,I Au),(8,.loc 1013 0),(14,lv (.t154 p1_0)),(15,I (p1_0.length:Int)),(16,I Am),(17,B (decide (Am < (p1_0.length:Int)))),(18,.ref (Dw (p1_0.getD (Int.toNat Am) default))),(19,.agg (Dw (p1_0.getD (Int.toNat Am) default)))],[(1,(Ae p1_1)),(3,[.mp 4]),(4,[.mapO false false (.t9 C3) (.t4 C4)]),(1013,(Dw (p1_0.getD (Int.toNat Am) default)))],1005⟩ (some 22) (fun st9=>(Bz (EV (X9 L) L 8 A2z.w.l.u.l.l.w.l.l.u.r) (Bs 1 (Bz (EV (X9 L) L 8 A2z.w.l.u.l.l.w.r) (H6 (Kj (EV (X9 L) L 8 A2z.w.l.u.l.l) [0,1,2,6,14,15,16] [1,3,4] n) [0,1,2,6,14,15,16] [1,3,4] K)))) .normal st9))
theorem Bb8(p1_0:List Bh)(Am:Int)(p1_1:Aa)(C3:List ByteArray)(C4:List Bool)(Au:Int)(ih:Aye L n K p1_0 p1_1)(o10:Co):Ak6 (p1_0.getD (Int.toNat Am) default) p1_1 C3 C4 (p1_0.getD (Int.toNat Am) default) (Atv L n K p1_0 Am Au p1_1 C3 C4) o10=ob (Mz L Am Au (Gz L p1_0 p1_1 n) o10) (kX [.ret,.exit 0] (Ar7 p1_0 p1_1) K):=eE (Mz L Am Au (fun Au Am C3 C4=>re (ih (Au,Am,C3,C4))) o10)
theorem Ba7(p1_0:List Bh)(p1_1:Aa):∀n,Aye L n K p1_0 p1_1:=lE (fun _=>rfl) fun n v ih=>eE (Rm L p1_0 p1_1 (fun Au Am C3 C4=>re (ih (Au,Am,C3,C4))) v.1 v.2.1 v.2.2.1 v.2.2.2 (fun Am C3 C4 Au=>ho (Bad L (Atv L n K p1_0 Am Au p1_1 C3 C4) (p1_0.getD (Int.toNat Am) default) p1_1 C3 C4 (p1_0.getD (Int.toNat Am) default)) fun o10=>Bb8 L n K p1_0 Am p1_1 C3 C4 Au ih o10))
def Apx(p1_0:List Bh)(p1_1:Aa)(k:Bn):Co→Prop:=fun o=>k (I o.1) [(1,(Ae p1_1)),(3,[.mp 4]),(4,[.mapO false false (.t9 o.2.1) (.t4 o.2.2)])]
def Wi [An A Co](L:Nat)(o11:Nat×Y6):A:=
 (sl o11.1 [(lf (o11.2.1,o11.2.2.2.1,o11.2.2.2.2)),
 (lf (0,o11.2.2.2.1,o11.2.2.2.2))])
def Atw:Ci:=(Bs 0 (Bz (EV (X9 L) L 8 A2z.w.r) (Dg Tryz.prog (RS Tryz.f153) k)))
theorem Bb9(p1_0:List Bh)(p1_1:Aa)(o11:Nat×Y6):kX [.ret,.exit 0] (Ar7 p1_0 p1_1) (Atw L k) o11=ob (Wi L o11) (Apx p1_0 p1_1 k):=eE (Wi L o11)
def Aa2 [An A Co](L:Nat)(p1_0:List Bh)(p1_1:Aa)(nx20:A):A:=
 (cn (decide ((p1_0.length:Int) > 32))
 (lf (6,[],[]))
 nx20)
def Akv [An A Co](p1_0:List Bh)(p1_1:Aa):A:=Aa2 L p1_0 p1_1 (bd (Gz L p1_0 p1_1 L 0 0 [] []) fun o11=>Wi L o11)
def Yd(p1_0:List Bh)(p1_1:Aa):Option Co:=Akv L p1_0 p1_1
theorem Bac(p1_0:List Bh)(p1_1:Aa):YO (X9 L) L 9 153 [lv (.t154 p1_0),I 32,.clo 154 0 [.loc 3 0,.loc 1 0]] [(1,(Ae p1_1)),(3,[.mp 4]),(4,[.mapO false false (.t9 []) (.t4 [])])] k=ob (Yd L p1_0 p1_1) (Apx p1_0 p1_1 k):=(C6 _ _ _ y9 _ _ _ _ _ _ _).trans (eE (Aa2 L p1_0 p1_1 (ho (Ba7 L (Atw L k) p1_0 p1_1 L (0,0,[],[])) fun o11=>Bb9 L k p1_0 p1_1 o11)))
def M3 [An A Int](L:Nat)(o12:Co):A:=
 (lf o12.1)
def Atx(a0:Aa):Bn:=(Bx Tryz.prog (X9 L) (EI (X9 L) L 9) 1 (List.drop 4 Bjy.w.l.ops) ⟨[(7,.clo 154 0 [.loc 3 0,.loc 1 0]),(6,lv (.t154 a0.Laws)),(5,.loc 1 12),(1,.loc 1 0),(2,I 0),(3,.loc 3 0)],[(1,(Ae a0)),(3,[.mp 4]),(4,[.mapO false false (.t9 []) (.t4 [])])],0⟩ (some 8) (fun st9=>(Bz (EV (X9 L) L 9 Bjy.w.r) (Kb Tryz.prog (RS Tryz.f118) kk)) .normal st9))
theorem Bca(a0:Aa)(o12:Co):Apx a0.Laws a0 (Atx L kk a0) o12=ob (M3 L o12) (kQ I kk):=eE (M3 L o12)
def Agj [An A Int](a0:Aa):A:=(bd (Yd L a0.Laws a0) fun o12=>M3 L o12)
def Y0(a0:Aa):Option Int:=Agj L a0
def Bm7:Qi:=E1 I 118 K2 (Y0 L) fun a0 r h=>hF Tryz.func118 (C:=X9 L) (oS _) L (fun kk=>eE ((ho (Bac L (Atx L kk a0) a0.Laws a0) fun o12=>Bca L kk a0 o12))) h
end
end Go.Proofs.YthjhkpgonleelaaGreatDoor.Ev
