import Derived.Test.YthjhkpgonleelaaGreatDoorBG1
import Derived.Test.YthjhkpgonleelaaGreatDoorBG2
import Derived.Test.YthjhkpgonleelaaGreatDoorBG3
namespace Go.Proofs.YthjhkpgonleelaaGreatDoor.Ev
open Go An
set_option maxRecDepth 100000
set_option maxHeartbeats 4000000
set_option linter.unusedVariables false
set_option linter.unusedSimpArgs false
set_option linter.unnecessarySimpa false
noncomputable section
variable {A:Type} (L n:Nat) (kk:Ep) (K:Ci) (k:Bn)
def c56:=CC Tryz.f56
def c86:=CC Tryz.f86
def c87:=CC Tryz.f87
def c88:=CC Tryz.f88
def c89:=CC Tryz.f89
def g7:=CC Tryz.f90
def c91:=CC Tryz.f91
def c92:=CC Tryz.f92
def c93:=CC Tryz.f93
def c94:=CC Tryz.f94
def c98:=CC Tryz.f98
def c99:=CC Tryz.f99
def Be5:=CC Tryz.f100
def Bjo:=CC Tryz.f101
def A2w:=CC Tryz.f102
def Be6:=CC Tryz.f103
def Bjp:=CC Tryz.f104
def Bjq:=CC Tryz.f105
def Bjr:=CC Tryz.f106
def Bjs:=CC Tryz.f107
def Bjt:=CC Tryz.f108
def Bju:=CC Tryz.f109
def A2x:=CC Tryz.f110
def Be7:=CC Tryz.f111
def Bjv:=CC Tryz.f113
def Bjw:=CC Tryz.f114
def c60:=CC Tryz.f60
def C9:Bt:=oL [X35 L,X95 L,X96 L,X97 L,Bm5 L,Bm6 L,Bm7 L,Bev L,Bew L]
def Z4:Ci:=(Bs 0 (Bz (EV (C9 L) (L+24) 8 g7.u.r) (Dg Tryz.prog (RS Tryz.f90) k)))
def Ayh(p47_0:ByteArray)(p47_1:Aa)(p47_2:List ByteArray)(p47_3:List Bool)(p47_4:Ax)(p47_5:Ax)(k:Bn):Co→Prop:=fun o=>k (I o.1) [(1,(Ae p47_1)),(3,[.mp 5]),(4,[.clo 88 0 [.loc 3 0]]),(5,[.mapO false false (.t9 o.2.1) (.t4 o.2.2)]),(1014,(B9 p47_4)),(2018,(B9 p47_5))]
def Aal [An A Co](p47_0:ByteArray)(p47_1:Aa)(p47_2:List ByteArray)(p47_3:List Bool)(p47_4:Ax)(p47_5:Ax):A:=
 (bd (Cr L p47_0) fun r1=>
 (cn (r1 != 0)
 (lf (r1,p47_2,p47_3))
 (fq (p47_2.findIdx? fun b=>p47_0 == b) (fun i2=>
 (cn (p47_3.getD i2 default)
 (lf (4,p47_2,p47_3))
 (fq (p47_2.findIdx? fun b=>p47_0 == b) (fun i3=>
 (lf (0,p47_2,(p47_3.set i3 true))))
 (lf (0,(p47_2++ [p47_0]),(p47_3++ [true]))))))
 (fq (p47_2.findIdx? fun b=>p47_0 == b) (fun i4=>
 (lf (0,p47_2,(p47_3.set i4 true))))
 (lf (0,(p47_2++ [p47_0]),(p47_3++ [true])))))))
def V1(p47_0:ByteArray)(p47_1:Aa)(p47_2:List ByteArray)(p47_3:List Bool)(p47_4:Ax)(p47_5:Ax):Option Co:=Aal L p47_0 p47_1 p47_2 p47_3 p47_4 p47_5
theorem Bam(p47_0:ByteArray)(p47_1:Aa)(p47_2:List ByteArray)(p47_3:List Bool)(p47_4:Ax)(p47_5:Ax):YO (C9 L) (L+24) 4 59 [.mp 5,S p47_0] [(1,(Ae p47_1)),(3,[.mp 5]),(4,[.clo 88 0 [.loc 3 0]]),(5,[.mapO false false (.t9 p47_2) (.t4 p47_3)]),(1014,(B9 p47_4)),(2018,(B9 p47_5))] k=ob (V1 L p47_0 p47_1 p47_2 p47_3 p47_4 p47_5) (Ayh p47_0 p47_1 p47_2 p47_3 p47_4 p47_5 k):=(C6 _ _ _ y9 _ _ _ _ _ _ _).trans (eE (Aal L p47_0 p47_1 p47_2 p47_3 p47_4 p47_5))
def Ap4(p45_0:Ax)(p45_1:Aa)(p45_2:List ByteArray)(p45_3:List Bool)(p45_4:Ax)(k:Bn):Co→Prop:=fun o=>k (I o.1) [(1,(Ae p45_1)),(3,[.mp 5]),(4,[.clo 88 0 [.loc 3 0]]),(5,[.mapO false false (.t9 o.2.1) (.t4 o.2.2)]),(1014,(B9 p45_4)),(2018,(B9 p45_0))]
def Re [An A Co](p45_0:Ax)(o5:Co):A:=
 (cn (o5.1 != 0)
 (lf (o5.1,o5.2.1,o5.2.2))
 (bd (H0 L p45_0.Type_) fun r6=>
 (cn (!r6)
 (lf (1,o5.2.1,o5.2.2))
 (bd (Nm L p45_0.Type_ p45_0.N) fun r7=>
 (cn (!r7)
 (lf (2,o5.2.1,o5.2.2))
 (lf (0,o5.2.1,o5.2.2)))))))
def A0o(p45_0:Ax)(p45_1:Aa)(p45_2:List ByteArray)(p45_3:List Bool)(p45_4:Ax):Bn:=(Bx Tryz.prog (C9 L) (EI (C9 L) (L+24) 4) 1 (List.drop 4 c87.u.l.l.ops) ⟨[(8,S p45_0.Name),(7,.loc 2018 0),(6,.mp 5),(0,.mp 5),(3,.loc 2018 0),(4,I 0)],[(1,(Ae p45_1)),(3,[.mp 5]),(4,[.clo 88 0 [.loc 3 0]]),(5,[.mapO false false (.t9 p45_2) (.t4 p45_3)]),(1014,(B9 p45_4)),(2018,(B9 p45_0))],2015⟩ (some 9) (fun st9=>(Bz (EV (C9 L) (L+24) 4 c87.u.l.r) (Bz (EV (C9 L) (L+24) 4 c87.u.r) (Dg Tryz.prog (RS Tryz.f87) k))) .normal st9))
theorem Bh2(p45_0:Ax)(p45_1:Aa)(p45_2:List ByteArray)(p45_3:List Bool)(p45_4:Ax)(o5:Co):Ayh p45_0.Name p45_1 p45_2 p45_3 p45_4 p45_0 (A0o L k p45_0 p45_1 p45_2 p45_3 p45_4) o5=ob (Re L p45_0 o5) (Ap4 p45_0 p45_1 p45_2 p45_3 p45_4 k):=eE (Re L p45_0 o5)
def Aak [An A Co](p45_0:Ax)(p45_1:Aa)(p45_2:List ByteArray)(p45_3:List Bool)(p45_4:Ax):A:=(bd (V1 L p45_0.Name p45_1 p45_2 p45_3 p45_4 p45_0) fun o5=>Re L p45_0 o5)
def J5(p45_0:Ax)(p45_1:Aa)(p45_2:List ByteArray)(p45_3:List Bool)(p45_4:Ax):Option Co:=Aak L p45_0 p45_1 p45_2 p45_3 p45_4
theorem Bal(p45_0:Ax)(p45_1:Aa)(p45_2:List ByteArray)(p45_3:List Bool)(p45_4:Ax):YO (C9 L) (L+24) 5 87 [.mp 5,.agg (B9 p45_0)] [(1,(Ae p45_1)),(3,[.mp 5]),(4,[.clo 88 0 [.loc 3 0]]),(5,[.mapO false false (.t9 p45_2) (.t4 p45_3)]),(1014,(B9 p45_4))] k=ob (J5 L p45_0 p45_1 p45_2 p45_3 p45_4) (Ap4 p45_0 p45_1 p45_2 p45_3 p45_4 k):=(C6 _ _ _ y9 _ _ _ _ _ _ _).trans (eE ((ho (Bam L (A0o L k p45_0 p45_1 p45_2 p45_3 p45_4) p45_0.Name p45_1 p45_2 p45_3 p45_4 p45_0) fun o5=>Bh2 L k p45_0 p45_1 p45_2 p45_3 p45_4 o5)))
def Axo(p41_0:List Ax)(p41_1:Aa)(v:Y6):St:=⟨[(0,.any),(1,.any),(2,.clo 87 1 [.mp 5]),(6,I v.1),(14,lv (.t123 p41_0)),(15,I (p41_0.length:Int)),(16,I v.2.1)],[(1,(Ae p41_1)),(3,[.mp 5]),(4,[.clo 88 0 [.loc 3 0]]),(5,[.mapO false false (.t9 v.2.2.1) (.t4 v.2.2.2)])],1006⟩
def M6 [An A L5](L:Nat)(Am:Int)(Au:Int)(rec:Int→Int→List ByteArray→List Bool→A)(o8:Co):A:=
 (cn (o8.1 != 0)
 (lf (0,o8.1,Am,o8.2.1,o8.2.2))
 (rec Au (Bi (Am+1)) o8.2.1 o8.2.2))
def Ro [An A L5](L:Nat)(p41_0:List Ax)(p41_1:Aa)(rec:Int→Int→List ByteArray→List Bool→A)(Au:Int)(Am:Int)(C3:List ByteArray)(C4:List Bool)(nx64:Int→(List ByteArray)→(List Bool)→Int→A):A:=
 (lw Am p41_0
 (nx64 Am C3 C4 Au)
 (lf (1,Au,Am,C3,C4)))
def Yg [An A L5](p41_0:List Ax)(p41_1:Aa)(rec:Int→Int→List ByteArray→List Bool→A)(Au:Int)(Am:Int)(C3:List ByteArray)(C4:List Bool):A:=Ro L p41_0 p41_1 rec Au Am C3 C4 (fun Am C3 C4 Au=>bd (J5 L (p41_0.getD (Int.toNat Am) default) p41_1 C3 C4 (p41_0.getD (Int.toNat Am) default)) fun o8=>M6 L Am Au rec o8)
def Ha(L:Nat)(p41_0:List Ax)(p41_1:Aa):Nat→Int→Int→List ByteArray→List Bool→Option L5
 |0,_,_,_,_=>none
 |n+1,Au,Am,C3,C4=>Yg L p41_0 p41_1 (Ha L p41_0 p41_1 n) Au Am C3 C4
def A4k(p41_0:List Ax)(p41_1:Aa):Prop:=LI (EV (C9 L) (L+24) 5 c86.w.l.u.l.l) [0,1,2,6,14,15,16] [1,3,4,5] (Axo p41_0 p41_1) [.ret,.exit 0] (fun n v=>Ha L p41_0 p41_1 n v.1 v.2.1 v.2.2.1 v.2.2.2) K n
def A0p(p41_0:List Ax)(Am:Int)(Au:Int)(p41_1:Aa)(C3:List ByteArray)(C4:List Bool):Bn:=(Bx Tryz.prog (C9 L) (EI (C9 L) (L+24) 5) 1 (List.drop 3 c86.w.l.u.l.l.w.l.l.u.l.ops) ⟨[(21,.agg (B9 (p41_0.getD (Int.toNat Am) default))),(20,.clo 87 1 [.mp 5]),(2,.clo 87 1 [.mp 5]),(6,I Au),(8,.loc 1014 0),(14,lv (.t123 p41_0)),(15,I (p41_0.length:Int)),(16,I Am),(17,B (decide (Am < (p41_0.length:Int)))),(18,.ref (B9 (p41_0.getD (Int.toNat Am) default))),(19,.agg (B9 (p41_0.getD (Int.toNat Am) default)))],[(1,(Ae p41_1)),(3,[.mp 5]),(4,[.clo 88 0 [.loc 3 0]]),(5,[.mapO false false (.t9 C3) (.t4 C4)]),(1014,(B9 (p41_0.getD (Int.toNat Am) default)))],1006⟩ (some 22) (fun st9=>(Bz (EV (C9 L) (L+24) 5 c86.w.l.u.l.l.w.l.l.u.r) (Bs 1 (Bz (EV (C9 L) (L+24) 5 c86.w.l.u.l.l.w.r) (H6 (Kj (EV (C9 L) (L+24) 5 c86.w.l.u.l.l) [0,1,2,6,14,15,16] [1,3,4,5] n) [0,1,2,6,14,15,16] [1,3,4,5] K)))) .normal st9))
theorem Bh3(p41_0:List Ax)(Am:Int)(p41_1:Aa)(C3:List ByteArray)(C4:List Bool)(Au:Int)(ih:A4k L n K p41_0 p41_1)(o8:Co):Ap4 (p41_0.getD (Int.toNat Am) default) p41_1 C3 C4 (p41_0.getD (Int.toNat Am) default) (A0p L n K p41_0 Am Au p41_1 C3 C4) o8=ob (M6 L Am Au (Ha L p41_0 p41_1 n) o8) (kX [.ret,.exit 0] (Axo p41_0 p41_1) K):=eE (M6 L Am Au (fun Au Am C3 C4=>re (ih (Au,Am,C3,C4))) o8)
theorem Bgg(p41_0:List Ax)(p41_1:Aa):∀n,A4k L n K p41_0 p41_1:=lE (fun _=>rfl) fun n v ih=>eE (Ro L p41_0 p41_1 (fun Au Am C3 C4=>re (ih (Au,Am,C3,C4))) v.1 v.2.1 v.2.2.1 v.2.2.2 (fun Am C3 C4 Au=>ho (Bal L (A0p L n K p41_0 Am Au p41_1 C3 C4) (p41_0.getD (Int.toNat Am) default) p41_1 C3 C4 (p41_0.getD (Int.toNat Am) default)) fun o8=>Bh3 L n K p41_0 Am p41_1 C3 C4 Au ih o8))
def Ap3(p41_0:List Ax)(p41_1:Aa)(k:Bn):Co→Prop:=fun o=>k (I o.1) [(1,(Ae p41_1)),(3,[.mp 5]),(4,[.clo 88 0 [.loc 3 0]]),(5,[.mapO false false (.t9 o.2.1) (.t4 o.2.2)])]
def Wj [An A Co](L:Nat)(o9:Nat×Y6):A:=
 (sl o9.1 [(lf (o9.2.1,o9.2.2.2.1,o9.2.2.2.2)),
 (lf (0,o9.2.2.2.1,o9.2.2.2.2))])
def A0q:Ci:=(Bs 0 (Bz (EV (C9 L) (L+24) 5 c86.w.r) (Dg Tryz.prog (RS Tryz.f86) k)))
theorem Bh4(p41_0:List Ax)(p41_1:Aa)(o9:Nat×Y6):kX [.ret,.exit 0] (Axo p41_0 p41_1) (A0q L k) o9=ob (Wj L o9) (Ap3 p41_0 p41_1 k):=eE (Wj L o9)
def Aa3 [An A Co](L:Nat)(p41_0:List Ax)(p41_1:Aa)(nx65:A):A:=
 (cn (decide ((p41_0.length:Int) > 32))
 (lf (6,[],[]))
 nx65)
def Aii [An A Co](p41_0:List Ax)(p41_1:Aa):A:=Aa3 L p41_0 p41_1 (bd (Ha L p41_0 p41_1 (L+24) 0 0 [] []) fun o9=>Wj L o9)
def V0(p41_0:List Ax)(p41_1:Aa):Option Co:=Aii L p41_0 p41_1
theorem Bak(p41_0:List Ax)(p41_1:Aa):YO (C9 L) (L+24) 6 86 [lv (.t123 p41_0),I 32,.clo 87 1 [.mp 5]] [(1,(Ae p41_1)),(3,[.mp 5]),(4,[.clo 88 0 [.loc 3 0]]),(5,[.mapO false false (.t9 []) (.t4 [])])] k=ob (V0 L p41_0 p41_1) (Ap3 p41_0 p41_1 k):=(C6 _ _ _ y9 _ _ _ _ _ _ _).trans (eE (Aa3 L p41_0 p41_1 (ho (Bgg L (A0q L k) p41_0 p41_1 (L+24) (0,0,[],[])) fun o9=>Bh4 L k p41_0 p41_1 o9)))
def Ayi(p54_0:ByteArray)(p54_1:Aa)(p54_2:List ByteArray)(p54_3:List Bool)(p54_4:Ap)(p54_5:Ap)(k:Bn):Co→Prop:=fun o=>k (I o.1) [(1,(Ae p54_1)),(3,[.mp 5]),(4,[.clo 88 0 [.loc 3 0]]),(5,[.mapO false false (.t9 o.2.1) (.t4 o.2.2)]),(1014,(B8 p54_4)),(2018,(B8 p54_5))]
def Aan [An A Co](p54_0:ByteArray)(p54_1:Aa)(p54_2:List ByteArray)(p54_3:List Bool)(p54_4:Ap)(p54_5:Ap):A:=
 (bd (Cr L p54_0) fun r11=>
 (cn (r11 != 0)
 (lf (r11,p54_2,p54_3))
 (fq (p54_2.findIdx? fun b=>p54_0 == b) (fun i12=>
 (cn (p54_3.getD i12 default)
 (lf (4,p54_2,p54_3))
 (fq (p54_2.findIdx? fun b=>p54_0 == b) (fun i13=>
 (lf (0,p54_2,(p54_3.set i13 true))))
 (lf (0,(p54_2++ [p54_0]),(p54_3++ [true]))))))
 (fq (p54_2.findIdx? fun b=>p54_0 == b) (fun i14=>
 (lf (0,p54_2,(p54_3.set i14 true))))
 (lf (0,(p54_2++ [p54_0]),(p54_3++ [true])))))))
def V3(p54_0:ByteArray)(p54_1:Aa)(p54_2:List ByteArray)(p54_3:List Bool)(p54_4:Ap)(p54_5:Ap):Option Co:=Aan L p54_0 p54_1 p54_2 p54_3 p54_4 p54_5
theorem Bap(p54_0:ByteArray)(p54_1:Aa)(p54_2:List ByteArray)(p54_3:List Bool)(p54_4:Ap)(p54_5:Ap):YO (C9 L) (L+24) 5 59 [.mp 5,S p54_0] [(1,(Ae p54_1)),(3,[.mp 5]),(4,[.clo 88 0 [.loc 3 0]]),(5,[.mapO false false (.t9 p54_2) (.t4 p54_3)]),(1014,(B8 p54_4)),(2018,(B8 p54_5))] k=ob (V3 L p54_0 p54_1 p54_2 p54_3 p54_4 p54_5) (Ayi p54_0 p54_1 p54_2 p54_3 p54_4 p54_5 k):=(C6 _ _ _ y9 _ _ _ _ _ _ _).trans (eE (Aan L p54_0 p54_1 p54_2 p54_3 p54_4 p54_5))
def Ap6(p52_0:Ap)(p52_1:Aa)(p52_2:List ByteArray)(p52_3:List Bool)(p52_4:Ap)(k:Bn):Co→Prop:=fun o=>k (I o.1) [(1,(Ae p52_1)),(3,[.mp 5]),(4,[.clo 88 0 [.loc 3 0]]),(5,[.mapO false false (.t9 o.2.1) (.t4 o.2.2)]),(1014,(B8 p52_4)),(2018,(B8 p52_0))]
def Rf [An A Co](p52_0:Ap)(p52_1:Aa)(o15:Co):A:=
 (cn (o15.1 != 0)
 (lf (o15.1,o15.2.1,o15.2.2))
 (bd (Bf L p52_0.Units 0 1000) fun r16=>
 (cn (!r16)
 (lf (2,o15.2.1,o15.2.2))
 (bd (Qm L p52_0) fun r17=>
 (cn (r17 != 0)
 (lf (r17,o15.2.1,o15.2.2))
 (bd (Ql L p52_1 p52_0.Fault) fun r18=>
 (lf (r18,o15.2.1,o15.2.2))))))))
def A0s(p52_0:Ap)(p52_1:Aa)(p52_2:List ByteArray)(p52_3:List Bool)(p52_4:Ap):Bn:=(Bx Tryz.prog (C9 L) (EI (C9 L) (L+24) 5) 1 (List.drop 4 c94.u.l.l.ops) ⟨[(9,S p52_0.Name),(8,.loc 2018 0),(7,.mp 5),(1,.loc 3 0),(2,.loc 1 0),(3,.loc 2018 0),(4,I 0)],[(1,(Ae p52_1)),(3,[.mp 5]),(4,[.clo 88 0 [.loc 3 0]]),(5,[.mapO false false (.t9 p52_2) (.t4 p52_3)]),(1014,(B8 p52_4)),(2018,(B8 p52_0))],2015⟩ (some 10) (fun st9=>(Bz (EV (C9 L) (L+24) 5 c94.u.l.r) (Bz (EV (C9 L) (L+24) 5 c94.u.r) (Dg Tryz.prog (RS Tryz.f94) k))) .normal st9))
theorem Bh6(p52_0:Ap)(p52_1:Aa)(p52_2:List ByteArray)(p52_3:List Bool)(p52_4:Ap)(o15:Co):Ayi p52_0.Name p52_1 p52_2 p52_3 p52_4 p52_0 (A0s L k p52_0 p52_1 p52_2 p52_3 p52_4) o15=ob (Rf L p52_0 p52_1 o15) (Ap6 p52_0 p52_1 p52_2 p52_3 p52_4 k):=eE (Rf L p52_0 p52_1 o15)
def Aam [An A Co](p52_0:Ap)(p52_1:Aa)(p52_2:List ByteArray)(p52_3:List Bool)(p52_4:Ap):A:=(bd (V3 L p52_0.Name p52_1 p52_2 p52_3 p52_4 p52_0) fun o15=>Rf L p52_0 p52_1 o15)
def J6(p52_0:Ap)(p52_1:Aa)(p52_2:List ByteArray)(p52_3:List Bool)(p52_4:Ap):Option Co:=Aam L p52_0 p52_1 p52_2 p52_3 p52_4
theorem Bao(p52_0:Ap)(p52_1:Aa)(p52_2:List ByteArray)(p52_3:List Bool)(p52_4:Ap):YO (C9 L) (L+24) 6 94 [.agg (B8 p52_0),.loc 3 0,.loc 1 0] [(1,(Ae p52_1)),(3,[.mp 5]),(4,[.clo 88 0 [.loc 3 0]]),(5,[.mapO false false (.t9 p52_2) (.t4 p52_3)]),(1014,(B8 p52_4))] k=ob (J6 L p52_0 p52_1 p52_2 p52_3 p52_4) (Ap6 p52_0 p52_1 p52_2 p52_3 p52_4 k):=(C6 _ _ _ y9 _ _ _ _ _ _ _).trans (eE ((ho (Bap L (A0s L k p52_0 p52_1 p52_2 p52_3 p52_4) p52_0.Name p52_1 p52_2 p52_3 p52_4 p52_0) fun o15=>Bh6 L k p52_0 p52_1 p52_2 p52_3 p52_4 o15)))
def Axp(p48_0:List Ap)(p48_1:Aa)(v:Y6):St:=⟨[(0,.any),(1,.any),(2,.clo 94 0 [.loc 3 0,.loc 1 0]),(6,I v.1),(14,lv (.t86 p48_0)),(15,I (p48_0.length:Int)),(16,I v.2.1)],[(1,(Ae p48_1)),(3,[.mp 5]),(4,[.clo 88 0 [.loc 3 0]]),(5,[.mapO false false (.t9 v.2.2.1) (.t4 v.2.2.2)])],1006⟩
def M7 [An A L5](L:Nat)(Bw:Int)(Cn:Int)(rec:Int→Int→List ByteArray→List Bool→A)(o19:Co):A:=
 (cn (o19.1 != 0)
 (lf (0,o19.1,Bw,o19.2.1,o19.2.2))
 (rec Cn (Bi (Bw+1)) o19.2.1 o19.2.2))
def Rp [An A L5](L:Nat)(p48_0:List Ap)(p48_1:Aa)(rec:Int→Int→List ByteArray→List Bool→A)(Cn:Int)(Bw:Int)(F3:List ByteArray)(F6:List Bool)(nx73:Int→(List ByteArray)→(List Bool)→Int→A):A:=
 (lw Bw p48_0
 (nx73 Bw F3 F6 Cn)
 (lf (1,Cn,Bw,F3,F6)))
def Yh [An A L5](p48_0:List Ap)(p48_1:Aa)(rec:Int→Int→List ByteArray→List Bool→A)(Cn:Int)(Bw:Int)(F3:List ByteArray)(F6:List Bool):A:=Rp L p48_0 p48_1 rec Cn Bw F3 F6 (fun Bw F3 F6 Cn=>bd (J6 L (p48_0.getD (Int.toNat Bw) default) p48_1 F3 F6 (p48_0.getD (Int.toNat Bw) default)) fun o19=>M7 L Bw Cn rec o19)
def Hb(L:Nat)(p48_0:List Ap)(p48_1:Aa):Nat→Int→Int→List ByteArray→List Bool→Option L5
 |0,_,_,_,_=>none
 |n+1,Cn,Bw,F3,F6=>Yh L p48_0 p48_1 (Hb L p48_0 p48_1 n) Cn Bw F3 F6
def A4l(p48_0:List Ap)(p48_1:Aa):Prop:=LI (EV (C9 L) (L+24) 6 c93.w.l.u.l.l) [0,1,2,6,14,15,16] [1,3,4,5] (Axp p48_0 p48_1) [.ret,.exit 0] (fun n v=>Hb L p48_0 p48_1 n v.1 v.2.1 v.2.2.1 v.2.2.2) K n
def A0t(p48_0:List Ap)(Bw:Int)(Cn:Int)(p48_1:Aa)(F3:List ByteArray)(F6:List Bool):Bn:=(Bx Tryz.prog (C9 L) (EI (C9 L) (L+24) 6) 1 (List.drop 3 c93.w.l.u.l.l.w.l.l.u.l.ops) ⟨[(21,.agg (B8 (p48_0.getD (Int.toNat Bw) default))),(20,.clo 94 0 [.loc 3 0,.loc 1 0]),(2,.clo 94 0 [.loc 3 0,.loc 1 0]),(6,I Cn),(8,.loc 1014 0),(14,lv (.t86 p48_0)),(15,I (p48_0.length:Int)),(16,I Bw),(17,B (decide (Bw < (p48_0.length:Int)))),(18,.ref (B8 (p48_0.getD (Int.toNat Bw) default))),(19,.agg (B8 (p48_0.getD (Int.toNat Bw) default)))],[(1,(Ae p48_1)),(3,[.mp 5]),(4,[.clo 88 0 [.loc 3 0]]),(5,[.mapO false false (.t9 F3) (.t4 F6)]),(1014,(B8 (p48_0.getD (Int.toNat Bw) default)))],1006⟩ (some 22) (fun st9=>(Bz (EV (C9 L) (L+24) 6 c93.w.l.u.l.l.w.l.l.u.r) (Bs 1 (Bz (EV (C9 L) (L+24) 6 c93.w.l.u.l.l.w.r) (H6 (Kj (EV (C9 L) (L+24) 6 c93.w.l.u.l.l) [0,1,2,6,14,15,16] [1,3,4,5] n) [0,1,2,6,14,15,16] [1,3,4,5] K)))) .normal st9))
theorem Bh7(p48_0:List Ap)(Bw:Int)(p48_1:Aa)(F3:List ByteArray)(F6:List Bool)(Cn:Int)(ih:A4l L n K p48_0 p48_1)(o19:Co):Ap6 (p48_0.getD (Int.toNat Bw) default) p48_1 F3 F6 (p48_0.getD (Int.toNat Bw) default) (A0t L n K p48_0 Bw Cn p48_1 F3 F6) o19=ob (M7 L Bw Cn (Hb L p48_0 p48_1 n) o19) (kX [.ret,.exit 0] (Axp p48_0 p48_1) K):=eE (M7 L Bw Cn (fun Cn Bw F3 F6=>re (ih (Cn,Bw,F3,F6))) o19)
theorem Bgh(p48_0:List Ap)(p48_1:Aa):∀n,A4l L n K p48_0 p48_1:=lE (fun _=>rfl) fun n v ih=>eE (Rp L p48_0 p48_1 (fun Cn Bw F3 F6=>re (ih (Cn,Bw,F3,F6))) v.1 v.2.1 v.2.2.1 v.2.2.2 (fun Bw F3 F6 Cn=>ho (Bao L (A0t L n K p48_0 Bw Cn p48_1 F3 F6) (p48_0.getD (Int.toNat Bw) default) p48_1 F3 F6 (p48_0.getD (Int.toNat Bw) default)) fun o19=>Bh7 L n K p48_0 Bw p48_1 F3 F6 Cn ih o19))
def Ap5(p48_0:List Ap)(p48_1:Aa)(p48_2:List ByteArray)(p48_3:List Bool)(k:Bn):Co→Prop:=fun o=>k (I o.1) [(1,(Ae p48_1)),(3,[.mp 5]),(4,[.clo 88 0 [.loc 3 0]]),(5,[.mapO false false (.t9 o.2.1) (.t4 o.2.2)])]
def Wl [An A Co](L:Nat)(o20:Nat×Y6):A:=
 (sl o20.1 [(lf (o20.2.1,o20.2.2.2.1,o20.2.2.2.2)),
 (lf (0,o20.2.2.2.1,o20.2.2.2.2))])
def A0u:Ci:=(Bs 0 (Bz (EV (C9 L) (L+24) 6 c93.w.r) (Dg Tryz.prog (RS Tryz.f93) k)))
theorem Bh8(p48_0:List Ap)(p48_1:Aa)(p48_2:List ByteArray)(p48_3:List Bool)(o20:Nat×Y6):kX [.ret,.exit 0] (Axp p48_0 p48_1) (A0u L k) o20=ob (Wl L o20) (Ap5 p48_0 p48_1 p48_2 p48_3 k):=eE (Wl L o20)
def Aa4 [An A Co](L:Nat)(p48_0:List Ap)(p48_1:Aa)(p48_2:List ByteArray)(p48_3:List Bool)(nx74:A):A:=
 (cn (decide ((p48_0.length:Int) > 32))
 (lf (6,p48_2,p48_3))
 nx74)
def Aij [An A Co](p48_0:List Ap)(p48_1:Aa)(p48_2:List ByteArray)(p48_3:List Bool):A:=Aa4 L p48_0 p48_1 p48_2 p48_3 (bd (Hb L p48_0 p48_1 (L+24) 0 0 p48_2 p48_3) fun o20=>Wl L o20)
def V2(p48_0:List Ap)(p48_1:Aa)(p48_2:List ByteArray)(p48_3:List Bool):Option Co:=Aij L p48_0 p48_1 p48_2 p48_3
theorem Ban(p48_0:List Ap)(p48_1:Aa)(p48_2:List ByteArray)(p48_3:List Bool):YO (C9 L) (L+24) 7 93 [lv (.t86 p48_0),I 32,.clo 94 0 [.loc 3 0,.loc 1 0]] [(1,(Ae p48_1)),(3,[.mp 5]),(4,[.clo 88 0 [.loc 3 0]]),(5,[.mapO false false (.t9 p48_2) (.t4 p48_3)])] k=ob (V2 L p48_0 p48_1 p48_2 p48_3) (Ap5 p48_0 p48_1 p48_2 p48_3 k):=(C6 _ _ _ y9 _ _ _ _ _ _ _).trans (eE (Aa4 L p48_0 p48_1 p48_2 p48_3 (ho (Bgh L (A0u L k) p48_0 p48_1 (L+24) (0,0,p48_2,p48_3)) fun o20=>Bh8 L k p48_0 p48_1 p48_2 p48_3 o20)))
def Ayj(p61_0:ByteArray)(p61_1:Aa)(p61_2:List ByteArray)(p61_3:List Bool)(p61_4:Av)(p61_5:Av)(k:Bn):Co→Prop:=fun o=>k (I o.1) [(1,(Ae p61_1)),(3,[.mp 5]),(4,[.clo 88 0 [.loc 3 0]]),(5,[.mapO false false (.t9 o.2.1) (.t4 o.2.2)]),(1014,(Cv p61_4)),(2017,(Cv p61_5))]
def Aap [An A Co](p61_0:ByteArray)(p61_1:Aa)(p61_2:List ByteArray)(p61_3:List Bool)(p61_4:Av)(p61_5:Av):A:=
 (bd (Cr L p61_0) fun r22=>
 (cn (r22 != 0)
 (lf (r22,p61_2,p61_3))
 (fq (p61_2.findIdx? fun b=>p61_0 == b) (fun i23=>
 (cn (p61_3.getD i23 default)
 (lf (4,p61_2,p61_3))
 (fq (p61_2.findIdx? fun b=>p61_0 == b) (fun i24=>
 (lf (0,p61_2,(p61_3.set i24 true))))
 (lf (0,(p61_2++ [p61_0]),(p61_3++ [true]))))))
 (fq (p61_2.findIdx? fun b=>p61_0 == b) (fun i25=>
 (lf (0,p61_2,(p61_3.set i25 true))))
 (lf (0,(p61_2++ [p61_0]),(p61_3++ [true])))))))
def V5(p61_0:ByteArray)(p61_1:Aa)(p61_2:List ByteArray)(p61_3:List Bool)(p61_4:Av)(p61_5:Av):Option Co:=Aap L p61_0 p61_1 p61_2 p61_3 p61_4 p61_5
theorem Bas(p61_0:ByteArray)(p61_1:Aa)(p61_2:List ByteArray)(p61_3:List Bool)(p61_4:Av)(p61_5:Av):YO (C9 L) (L+24) 5 59 [.mp 5,S p61_0] [(1,(Ae p61_1)),(3,[.mp 5]),(4,[.clo 88 0 [.loc 3 0]]),(5,[.mapO false false (.t9 p61_2) (.t4 p61_3)]),(1014,(Cv p61_4)),(2017,(Cv p61_5))] k=ob (V5 L p61_0 p61_1 p61_2 p61_3 p61_4 p61_5) (Ayj p61_0 p61_1 p61_2 p61_3 p61_4 p61_5 k):=(C6 _ _ _ y9 _ _ _ _ _ _ _).trans (eE (Aap L p61_0 p61_1 p61_2 p61_3 p61_4 p61_5))
def Ap8(p59_0:Av)(p59_1:Aa)(p59_2:List ByteArray)(p59_3:List Bool)(p59_4:Av)(k:Bn):Co→Prop:=fun o=>k (I o.1) [(1,(Ae p59_1)),(3,[.mp 5]),(4,[.clo 88 0 [.loc 3 0]]),(5,[.mapO false false (.t9 o.2.1) (.t4 o.2.2)]),(1014,(Cv p59_4)),(2017,(Cv p59_0))]
def Rg [An A Co](p59_0:Av)(o26:Co):A:=
 (cn (o26.1 != 0)
 (lf (o26.1,o26.2.1,o26.2.2))
 (bd (Bf L p59_0.Room 1 1000) fun r27=>
 (cn (!r27)
 (lf (2,o26.2.1,o26.2.2))
 (jp (.cn (decide (p59_0.Policy < 1))
 (.lf true)
 (.lf (decide (p59_0.Policy > 3)))) (fun b28=>
 (cn b28
 (lf (1,o26.2.1,o26.2.2))
 (lf (0,o26.2.1,o26.2.2))))))))
def A0w(p59_0:Av)(p59_1:Aa)(p59_2:List ByteArray)(p59_3:List Bool)(p59_4:Av):Bn:=(Bx Tryz.prog (C9 L) (EI (C9 L) (L+24) 5) 1 (List.drop 4 Be5.u.l.l.ops) ⟨[(7,S p59_0.Name),(6,.loc 2017 0),(5,.mp 5),(1,.loc 3 0),(2,.loc 2017 0),(3,I 0)],[(1,(Ae p59_1)),(3,[.mp 5]),(4,[.clo 88 0 [.loc 3 0]]),(5,[.mapO false false (.t9 p59_2) (.t4 p59_3)]),(1014,(Cv p59_4)),(2017,(Cv p59_0))],2015⟩ (some 8) (fun st9=>(Bz (EV (C9 L) (L+24) 5 Be5.u.l.r) (Bz (EV (C9 L) (L+24) 5 Be5.u.r) (Dg Tryz.prog (RS Tryz.f100) k))) .normal st9))
theorem Bia(p59_0:Av)(p59_1:Aa)(p59_2:List ByteArray)(p59_3:List Bool)(p59_4:Av)(o26:Co):Ayj p59_0.Name p59_1 p59_2 p59_3 p59_4 p59_0 (A0w L k p59_0 p59_1 p59_2 p59_3 p59_4) o26=ob (Rg L p59_0 o26) (Ap8 p59_0 p59_1 p59_2 p59_3 p59_4 k):=eE (Rg L p59_0 o26)
def Aao [An A Co](p59_0:Av)(p59_1:Aa)(p59_2:List ByteArray)(p59_3:List Bool)(p59_4:Av):A:=(bd (V5 L p59_0.Name p59_1 p59_2 p59_3 p59_4 p59_0) fun o26=>Rg L p59_0 o26)
def J7(p59_0:Av)(p59_1:Aa)(p59_2:List ByteArray)(p59_3:List Bool)(p59_4:Av):Option Co:=Aao L p59_0 p59_1 p59_2 p59_3 p59_4
theorem Bar(p59_0:Av)(p59_1:Aa)(p59_2:List ByteArray)(p59_3:List Bool)(p59_4:Av):YO (C9 L) (L+24) 6 100 [.agg (Cv p59_0),.loc 3 0] [(1,(Ae p59_1)),(3,[.mp 5]),(4,[.clo 88 0 [.loc 3 0]]),(5,[.mapO false false (.t9 p59_2) (.t4 p59_3)]),(1014,(Cv p59_4))] k=ob (J7 L p59_0 p59_1 p59_2 p59_3 p59_4) (Ap8 p59_0 p59_1 p59_2 p59_3 p59_4 k):=(C6 _ _ _ y9 _ _ _ _ _ _ _).trans (eE ((ho (Bas L (A0w L k p59_0 p59_1 p59_2 p59_3 p59_4) p59_0.Name p59_1 p59_2 p59_3 p59_4 p59_0) fun o26=>Bia L k p59_0 p59_1 p59_2 p59_3 p59_4 o26)))
def Axq(p55_0:List Av)(p55_1:Aa)(v:Y6):St:=⟨[(0,.any),(1,.any),(2,.clo 100 0 [.loc 3 0]),(6,I v.1),(14,lv (.t89 p55_0)),(15,I (p55_0.length:Int)),(16,I v.2.1)],[(1,(Ae p55_1)),(3,[.mp 5]),(4,[.clo 88 0 [.loc 3 0]]),(5,[.mapO false false (.t9 v.2.2.1) (.t4 v.2.2.2)])],1006⟩
def M8 [An A L5](L:Nat)(Kx:Int)(Et:Int)(rec:Int→Int→List ByteArray→List Bool→A)(o29:Co):A:=
 (cn (o29.1 != 0)
 (lf (0,o29.1,Kx,o29.2.1,o29.2.2))
 (rec Et (Bi (Kx+1)) o29.2.1 o29.2.2))
def Rq [An A L5](L:Nat)(p55_0:List Av)(p55_1:Aa)(rec:Int→Int→List ByteArray→List Bool→A)(Et:Int)(Kx:Int)(F4:List ByteArray)(F7:List Bool)(nx82:Int→(List ByteArray)→(List Bool)→Int→A):A:=
 (lw Kx p55_0
 (nx82 Kx F4 F7 Et)
 (lf (1,Et,Kx,F4,F7)))
def Yi [An A L5](p55_0:List Av)(p55_1:Aa)(rec:Int→Int→List ByteArray→List Bool→A)(Et:Int)(Kx:Int)(F4:List ByteArray)(F7:List Bool):A:=Rq L p55_0 p55_1 rec Et Kx F4 F7 (fun Kx F4 F7 Et=>bd (J7 L (p55_0.getD (Int.toNat Kx) default) p55_1 F4 F7 (p55_0.getD (Int.toNat Kx) default)) fun o29=>M8 L Kx Et rec o29)
def Hc(L:Nat)(p55_0:List Av)(p55_1:Aa):Nat→Int→Int→List ByteArray→List Bool→Option L5
 |0,_,_,_,_=>none
 |n+1,Et,Kx,F4,F7=>Yi L p55_0 p55_1 (Hc L p55_0 p55_1 n) Et Kx F4 F7
def A4m(p55_0:List Av)(p55_1:Aa):Prop:=LI (EV (C9 L) (L+24) 6 c99.w.l.u.l.l) [0,1,2,6,14,15,16] [1,3,4,5] (Axq p55_0 p55_1) [.ret,.exit 0] (fun n v=>Hc L p55_0 p55_1 n v.1 v.2.1 v.2.2.1 v.2.2.2) K n
def A0x(p55_0:List Av)(Kx:Int)(Et:Int)(p55_1:Aa)(F4:List ByteArray)(F7:List Bool):Bn:=(Bx Tryz.prog (C9 L) (EI (C9 L) (L+24) 6) 1 (List.drop 3 c99.w.l.u.l.l.w.l.l.u.l.ops) ⟨[(21,.agg (Cv (p55_0.getD (Int.toNat Kx) default))),(20,.clo 100 0 [.loc 3 0]),(2,.clo 100 0 [.loc 3 0]),(6,I Et),(8,.loc 1014 0),(14,lv (.t89 p55_0)),(15,I (p55_0.length:Int)),(16,I Kx),(17,B (decide (Kx < (p55_0.length:Int)))),(18,.ref (Cv (p55_0.getD (Int.toNat Kx) default))),(19,.agg (Cv (p55_0.getD (Int.toNat Kx) default)))],[(1,(Ae p55_1)),(3,[.mp 5]),(4,[.clo 88 0 [.loc 3 0]]),(5,[.mapO false false (.t9 F4) (.t4 F7)]),(1014,(Cv (p55_0.getD (Int.toNat Kx) default)))],1006⟩ (some 22) (fun st9=>(Bz (EV (C9 L) (L+24) 6 c99.w.l.u.l.l.w.l.l.u.r) (Bs 1 (Bz (EV (C9 L) (L+24) 6 c99.w.l.u.l.l.w.r) (H6 (Kj (EV (C9 L) (L+24) 6 c99.w.l.u.l.l) [0,1,2,6,14,15,16] [1,3,4,5] n) [0,1,2,6,14,15,16] [1,3,4,5] K)))) .normal st9))
theorem Bib(p55_0:List Av)(Kx:Int)(p55_1:Aa)(F4:List ByteArray)(F7:List Bool)(Et:Int)(ih:A4m L n K p55_0 p55_1)(o29:Co):Ap8 (p55_0.getD (Int.toNat Kx) default) p55_1 F4 F7 (p55_0.getD (Int.toNat Kx) default) (A0x L n K p55_0 Kx Et p55_1 F4 F7) o29=ob (M8 L Kx Et (Hc L p55_0 p55_1 n) o29) (kX [.ret,.exit 0] (Axq p55_0 p55_1) K):=eE (M8 L Kx Et (fun Et Kx F4 F7=>re (ih (Et,Kx,F4,F7))) o29)
theorem Bgi(p55_0:List Av)(p55_1:Aa):∀n,A4m L n K p55_0 p55_1:=lE (fun _=>rfl) fun n v ih=>eE (Rq L p55_0 p55_1 (fun Et Kx F4 F7=>re (ih (Et,Kx,F4,F7))) v.1 v.2.1 v.2.2.1 v.2.2.2 (fun Kx F4 F7 Et=>ho (Bar L (A0x L n K p55_0 Kx Et p55_1 F4 F7) (p55_0.getD (Int.toNat Kx) default) p55_1 F4 F7 (p55_0.getD (Int.toNat Kx) default)) fun o29=>Bib L n K p55_0 Kx p55_1 F4 F7 Et ih o29))
def Ap7(p55_0:List Av)(p55_1:Aa)(p55_2:List ByteArray)(p55_3:List Bool)(k:Bn):Co→Prop:=fun o=>k (I o.1) [(1,(Ae p55_1)),(3,[.mp 5]),(4,[.clo 88 0 [.loc 3 0]]),(5,[.mapO false false (.t9 o.2.1) (.t4 o.2.2)])]
def Wn [An A Co](L:Nat)(o30:Nat×Y6):A:=
 (sl o30.1 [(lf (o30.2.1,o30.2.2.2.1,o30.2.2.2.2)),
 (lf (0,o30.2.2.2.1,o30.2.2.2.2))])
def A0y:Ci:=(Bs 0 (Bz (EV (C9 L) (L+24) 6 c99.w.r) (Dg Tryz.prog (RS Tryz.f99) k)))
theorem Bic(p55_0:List Av)(p55_1:Aa)(p55_2:List ByteArray)(p55_3:List Bool)(o30:Nat×Y6):kX [.ret,.exit 0] (Axq p55_0 p55_1) (A0y L k) o30=ob (Wn L o30) (Ap7 p55_0 p55_1 p55_2 p55_3 k):=eE (Wn L o30)
def Aa5 [An A Co](L:Nat)(p55_0:List Av)(p55_1:Aa)(p55_2:List ByteArray)(p55_3:List Bool)(nx83:A):A:=
 (cn (decide ((p55_0.length:Int) > 32))
 (lf (6,p55_2,p55_3))
 nx83)
def Aik [An A Co](p55_0:List Av)(p55_1:Aa)(p55_2:List ByteArray)(p55_3:List Bool):A:=Aa5 L p55_0 p55_1 p55_2 p55_3 (bd (Hc L p55_0 p55_1 (L+24) 0 0 p55_2 p55_3) fun o30=>Wn L o30)
def V4(p55_0:List Av)(p55_1:Aa)(p55_2:List ByteArray)(p55_3:List Bool):Option Co:=Aik L p55_0 p55_1 p55_2 p55_3
theorem Baq(p55_0:List Av)(p55_1:Aa)(p55_2:List ByteArray)(p55_3:List Bool):YO (C9 L) (L+24) 7 99 [lv (.t89 p55_0),I 32,.clo 100 0 [.loc 3 0]] [(1,(Ae p55_1)),(3,[.mp 5]),(4,[.clo 88 0 [.loc 3 0]]),(5,[.mapO false false (.t9 p55_2) (.t4 p55_3)])] k=ob (V4 L p55_0 p55_1 p55_2 p55_3) (Ap7 p55_0 p55_1 p55_2 p55_3 k):=(C6 _ _ _ y9 _ _ _ _ _ _ _).trans (eE (Aa5 L p55_0 p55_1 p55_2 p55_3 (ho (Bgi L (A0y L k) p55_0 p55_1 (L+24) (0,0,p55_2,p55_3)) fun o30=>Bic L k p55_0 p55_1 p55_2 p55_3 o30)))
def Ayk(p68_0:ByteArray)(p68_1:Aa)(p68_2:List ByteArray)(p68_3:List Bool)(p68_4:Bd)(p68_5:Bd)(k:Bn):Co→Prop:=fun o=>k (I o.1) [(1,(Ae p68_1)),(3,[.mp 5]),(4,[.clo 88 0 [.loc 3 0]]),(5,[.mapO false false (.t9 o.2.1) (.t4 o.2.2)]),(1014,(C1 p68_4)),(2017,(C1 p68_5))]
def Aar [An A Co](p68_0:ByteArray)(p68_1:Aa)(p68_2:List ByteArray)(p68_3:List Bool)(p68_4:Bd)(p68_5:Bd):A:=
 (bd (Cr L p68_0) fun r32=>
 (cn (r32 != 0)
 (lf (r32,p68_2,p68_3))
 (fq (p68_2.findIdx? fun b=>p68_0 == b) (fun i33=>
 (cn (p68_3.getD i33 default)
 (lf (4,p68_2,p68_3))
 (fq (p68_2.findIdx? fun b=>p68_0 == b) (fun i34=>
 (lf (0,p68_2,(p68_3.set i34 true))))
 (lf (0,(p68_2++ [p68_0]),(p68_3++ [true]))))))
 (fq (p68_2.findIdx? fun b=>p68_0 == b) (fun i35=>
 (lf (0,p68_2,(p68_3.set i35 true))))
 (lf (0,(p68_2++ [p68_0]),(p68_3++ [true])))))))
def V7(p68_0:ByteArray)(p68_1:Aa)(p68_2:List ByteArray)(p68_3:List Bool)(p68_4:Bd)(p68_5:Bd):Option Co:=Aar L p68_0 p68_1 p68_2 p68_3 p68_4 p68_5
theorem Bav(p68_0:ByteArray)(p68_1:Aa)(p68_2:List ByteArray)(p68_3:List Bool)(p68_4:Bd)(p68_5:Bd):YO (C9 L) (L+24) 5 59 [.mp 5,S p68_0] [(1,(Ae p68_1)),(3,[.mp 5]),(4,[.clo 88 0 [.loc 3 0]]),(5,[.mapO false false (.t9 p68_2) (.t4 p68_3)]),(1014,(C1 p68_4)),(2017,(C1 p68_5))] k=ob (V7 L p68_0 p68_1 p68_2 p68_3 p68_4 p68_5) (Ayk p68_0 p68_1 p68_2 p68_3 p68_4 p68_5 k):=(C6 _ _ _ y9 _ _ _ _ _ _ _).trans (eE (Aar L p68_0 p68_1 p68_2 p68_3 p68_4 p68_5))
def Aqa(p66_0:Bd)(p66_1:Aa)(p66_2:List ByteArray)(p66_3:List Bool)(p66_4:Bd)(k:Bn):Co→Prop:=fun o=>k (I o.1) [(1,(Ae p66_1)),(3,[.mp 5]),(4,[.clo 88 0 [.loc 3 0]]),(5,[.mapO false false (.t9 o.2.1) (.t4 o.2.2)]),(1014,(C1 p66_4)),(2017,(C1 p66_0))]
def Rh [An A Co](p66_0:Bd)(o36:Co):A:=
 (cn (o36.1 != 0)
 (lf (o36.1,o36.2.1,o36.2.2))
 (bd (Bf L p66_0.Length 1 1000) fun r37=>
 (jb (.cn (!r37)
 (.lf true)
 (.bd (Bf L p66_0.Step 1 1000) fun r39=>
 (.lf (!r39)))) (fun b38=>
 (cn b38
 (lf (2,o36.2.1,o36.2.2))
 (lf (0,o36.2.1,o36.2.2)))))))
def A00(p66_0:Bd)(p66_1:Aa)(p66_2:List ByteArray)(p66_3:List Bool)(p66_4:Bd):Bn:=(Bx Tryz.prog (C9 L) (EI (C9 L) (L+24) 5) 1 (List.drop 4 Be6.u.l.l.ops) ⟨[(7,S p66_0.Name),(6,.loc 2017 0),(5,.mp 5),(1,.loc 3 0),(2,.loc 2017 0),(3,I 0)],[(1,(Ae p66_1)),(3,[.mp 5]),(4,[.clo 88 0 [.loc 3 0]]),(5,[.mapO false false (.t9 p66_2) (.t4 p66_3)]),(1014,(C1 p66_4)),(2017,(C1 p66_0))],2015⟩ (some 8) (fun st9=>(Bz (EV (C9 L) (L+24) 5 Be6.u.l.r) (Bz (EV (C9 L) (L+24) 5 Be6.u.r) (Dg Tryz.prog (RS Tryz.f103) k))) .normal st9))
theorem Bie(p66_0:Bd)(p66_1:Aa)(p66_2:List ByteArray)(p66_3:List Bool)(p66_4:Bd)(o36:Co):Ayk p66_0.Name p66_1 p66_2 p66_3 p66_4 p66_0 (A00 L k p66_0 p66_1 p66_2 p66_3 p66_4) o36=ob (Rh L p66_0 o36) (Aqa p66_0 p66_1 p66_2 p66_3 p66_4 k):=eE (Rh L p66_0 o36)
def Aaq [An A Co](p66_0:Bd)(p66_1:Aa)(p66_2:List ByteArray)(p66_3:List Bool)(p66_4:Bd):A:=(bd (V7 L p66_0.Name p66_1 p66_2 p66_3 p66_4 p66_0) fun o36=>Rh L p66_0 o36)
def J8(p66_0:Bd)(p66_1:Aa)(p66_2:List ByteArray)(p66_3:List Bool)(p66_4:Bd):Option Co:=Aaq L p66_0 p66_1 p66_2 p66_3 p66_4
theorem Bau(p66_0:Bd)(p66_1:Aa)(p66_2:List ByteArray)(p66_3:List Bool)(p66_4:Bd):YO (C9 L) (L+24) 6 103 [.agg (C1 p66_0),.loc 3 0] [(1,(Ae p66_1)),(3,[.mp 5]),(4,[.clo 88 0 [.loc 3 0]]),(5,[.mapO false false (.t9 p66_2) (.t4 p66_3)]),(1014,(C1 p66_4))] k=ob (J8 L p66_0 p66_1 p66_2 p66_3 p66_4) (Aqa p66_0 p66_1 p66_2 p66_3 p66_4 k):=(C6 _ _ _ y9 _ _ _ _ _ _ _).trans (eE ((ho (Bav L (A00 L k p66_0 p66_1 p66_2 p66_3 p66_4) p66_0.Name p66_1 p66_2 p66_3 p66_4 p66_0) fun o36=>Bie L k p66_0 p66_1 p66_2 p66_3 p66_4 o36)))
def Axr(p62_0:List Bd)(p62_1:Aa)(v:Y6):St:=⟨[(0,.any),(1,.any),(2,.clo 103 0 [.loc 3 0]),(6,I v.1),(14,lv (.t178 p62_0)),(15,I (p62_0.length:Int)),(16,I v.2.1)],[(1,(Ae p62_1)),(3,[.mp 5]),(4,[.clo 88 0 [.loc 3 0]]),(5,[.mapO false false (.t9 v.2.2.1) (.t4 v.2.2.2)])],1006⟩
def M9 [An A L5](L:Nat)(Pv:Int)(Qd:Int)(rec:Int→Int→List ByteArray→List Bool→A)(o40:Co):A:=
 (cn (o40.1 != 0)
 (lf (0,o40.1,Pv,o40.2.1,o40.2.2))
 (rec Qd (Bi (Pv+1)) o40.2.1 o40.2.2))
def Rr [An A L5](L:Nat)(p62_0:List Bd)(p62_1:Aa)(rec:Int→Int→List ByteArray→List Bool→A)(Qd:Int)(Pv:Int)(Ji:List ByteArray)(Jj:List Bool)(nx91:Int→(List ByteArray)→(List Bool)→Int→A):A:=
 (lw Pv p62_0
 (nx91 Pv Ji Jj Qd)
 (lf (1,Qd,Pv,Ji,Jj)))
def Yj [An A L5](p62_0:List Bd)(p62_1:Aa)(rec:Int→Int→List ByteArray→List Bool→A)(Qd:Int)(Pv:Int)(Ji:List ByteArray)(Jj:List Bool):A:=Rr L p62_0 p62_1 rec Qd Pv Ji Jj (fun Pv Ji Jj Qd=>bd (J8 L (p62_0.getD (Int.toNat Pv) default) p62_1 Ji Jj (p62_0.getD (Int.toNat Pv) default)) fun o40=>M9 L Pv Qd rec o40)
def He(L:Nat)(p62_0:List Bd)(p62_1:Aa):Nat→Int→Int→List ByteArray→List Bool→Option L5
 |0,_,_,_,_=>none
 |n+1,Qd,Pv,Ji,Jj=>Yj L p62_0 p62_1 (He L p62_0 p62_1 n) Qd Pv Ji Jj
def A4n(p62_0:List Bd)(p62_1:Aa):Prop:=LI (EV (C9 L) (L+24) 6 A2w.w.l.u.l.l) [0,1,2,6,14,15,16] [1,3,4,5] (Axr p62_0 p62_1) [.ret,.exit 0] (fun n v=>He L p62_0 p62_1 n v.1 v.2.1 v.2.2.1 v.2.2.2) K n
def A01(p62_0:List Bd)(Pv:Int)(Qd:Int)(p62_1:Aa)(Ji:List ByteArray)(Jj:List Bool):Bn:=(Bx Tryz.prog (C9 L) (EI (C9 L) (L+24) 6) 1 (List.drop 3 A2w.w.l.u.l.l.w.l.l.u.l.ops) ⟨[(21,.agg (C1 (p62_0.getD (Int.toNat Pv) default))),(20,.clo 103 0 [.loc 3 0]),(2,.clo 103 0 [.loc 3 0]),(6,I Qd),(8,.loc 1014 0),(14,lv (.t178 p62_0)),(15,I (p62_0.length:Int)),(16,I Pv),(17,B (decide (Pv < (p62_0.length:Int)))),(18,.ref (C1 (p62_0.getD (Int.toNat Pv) default))),(19,.agg (C1 (p62_0.getD (Int.toNat Pv) default)))],[(1,(Ae p62_1)),(3,[.mp 5]),(4,[.clo 88 0 [.loc 3 0]]),(5,[.mapO false false (.t9 Ji) (.t4 Jj)]),(1014,(C1 (p62_0.getD (Int.toNat Pv) default)))],1006⟩ (some 22) (fun st9=>(Bz (EV (C9 L) (L+24) 6 A2w.w.l.u.l.l.w.l.l.u.r) (Bs 1 (Bz (EV (C9 L) (L+24) 6 A2w.w.l.u.l.l.w.r) (H6 (Kj (EV (C9 L) (L+24) 6 A2w.w.l.u.l.l) [0,1,2,6,14,15,16] [1,3,4,5] n) [0,1,2,6,14,15,16] [1,3,4,5] K)))) .normal st9))
theorem Bif(p62_0:List Bd)(Pv:Int)(p62_1:Aa)(Ji:List ByteArray)(Jj:List Bool)(Qd:Int)(ih:A4n L n K p62_0 p62_1)(o40:Co):Aqa (p62_0.getD (Int.toNat Pv) default) p62_1 Ji Jj (p62_0.getD (Int.toNat Pv) default) (A01 L n K p62_0 Pv Qd p62_1 Ji Jj) o40=ob (M9 L Pv Qd (He L p62_0 p62_1 n) o40) (kX [.ret,.exit 0] (Axr p62_0 p62_1) K):=eE (M9 L Pv Qd (fun Qd Pv Ji Jj=>re (ih (Qd,Pv,Ji,Jj))) o40)
theorem Bgj(p62_0:List Bd)(p62_1:Aa):∀n,A4n L n K p62_0 p62_1:=lE (fun _=>rfl) fun n v ih=>eE (Rr L p62_0 p62_1 (fun Qd Pv Ji Jj=>re (ih (Qd,Pv,Ji,Jj))) v.1 v.2.1 v.2.2.1 v.2.2.2 (fun Pv Ji Jj Qd=>ho (Bau L (A01 L n K p62_0 Pv Qd p62_1 Ji Jj) (p62_0.getD (Int.toNat Pv) default) p62_1 Ji Jj (p62_0.getD (Int.toNat Pv) default)) fun o40=>Bif L n K p62_0 Pv p62_1 Ji Jj Qd ih o40))
def Ap9(p62_0:List Bd)(p62_1:Aa)(p62_2:List ByteArray)(p62_3:List Bool)(k:Bn):Co→Prop:=fun o=>k (I o.1) [(1,(Ae p62_1)),(3,[.mp 5]),(4,[.clo 88 0 [.loc 3 0]]),(5,[.mapO false false (.t9 o.2.1) (.t4 o.2.2)])]
def Wp [An A Co](L:Nat)(o41:Nat×Y6):A:=
 (sl o41.1 [(lf (o41.2.1,o41.2.2.2.1,o41.2.2.2.2)),
 (lf (0,o41.2.2.2.1,o41.2.2.2.2))])
def A02:Ci:=(Bs 0 (Bz (EV (C9 L) (L+24) 6 A2w.w.r) (Dg Tryz.prog (RS Tryz.f102) k)))
theorem Big(p62_0:List Bd)(p62_1:Aa)(p62_2:List ByteArray)(p62_3:List Bool)(o41:Nat×Y6):kX [.ret,.exit 0] (Axr p62_0 p62_1) (A02 L k) o41=ob (Wp L o41) (Ap9 p62_0 p62_1 p62_2 p62_3 k):=eE (Wp L o41)
def Aa6 [An A Co](L:Nat)(p62_0:List Bd)(p62_1:Aa)(p62_2:List ByteArray)(p62_3:List Bool)(nx92:A):A:=
 (cn (decide ((p62_0.length:Int) > 32))
 (lf (6,p62_2,p62_3))
 nx92)
def Ail [An A Co](p62_0:List Bd)(p62_1:Aa)(p62_2:List ByteArray)(p62_3:List Bool):A:=Aa6 L p62_0 p62_1 p62_2 p62_3 (bd (He L p62_0 p62_1 (L+24) 0 0 p62_2 p62_3) fun o41=>Wp L o41)
def V6(p62_0:List Bd)(p62_1:Aa)(p62_2:List ByteArray)(p62_3:List Bool):Option Co:=Ail L p62_0 p62_1 p62_2 p62_3
theorem Bat(p62_0:List Bd)(p62_1:Aa)(p62_2:List ByteArray)(p62_3:List Bool):YO (C9 L) (L+24) 7 102 [lv (.t178 p62_0),I 32,.clo 103 0 [.loc 3 0]] [(1,(Ae p62_1)),(3,[.mp 5]),(4,[.clo 88 0 [.loc 3 0]]),(5,[.mapO false false (.t9 p62_2) (.t4 p62_3)])] k=ob (V6 L p62_0 p62_1 p62_2 p62_3) (Ap9 p62_0 p62_1 p62_2 p62_3 k):=(C6 _ _ _ y9 _ _ _ _ _ _ _).trans (eE (Aa6 L p62_0 p62_1 p62_2 p62_3 (ho (Bgj L (A02 L k) p62_0 p62_1 (L+24) (0,0,p62_2,p62_3)) fun o41=>Big L k p62_0 p62_1 p62_2 p62_3 o41)))
def Ayl(p71_0:ByteArray)(p71_1:Aa)(p71_2:List ByteArray)(p71_3:List Bool)(k:Bn):Co→Prop:=fun o=>k (I o.1) [(1,(Ae p71_1)),(3,[.mp 5]),(4,[.clo 88 0 [.loc 3 0]]),(5,[.mapO false false (.t9 o.2.1) (.t4 o.2.2)])]
def Aas [An A Co](p71_0:ByteArray)(p71_1:Aa)(p71_2:List ByteArray)(p71_3:List Bool):A:=
 (bd (Cr L p71_0) fun r43=>
 (cn (r43 != 0)
 (lf (r43,p71_2,p71_3))
 (fq (p71_2.findIdx? fun b=>p71_0 == b) (fun i44=>
 (cn (p71_3.getD i44 default)
 (lf (4,p71_2,p71_3))
 (fq (p71_2.findIdx? fun b=>p71_0 == b) (fun i45=>
 (lf (0,p71_2,(p71_3.set i45 true))))
 (lf (0,(p71_2++ [p71_0]),(p71_3++ [true]))))))
 (fq (p71_2.findIdx? fun b=>p71_0 == b) (fun i46=>
 (lf (0,p71_2,(p71_3.set i46 true))))
 (lf (0,(p71_2++ [p71_0]),(p71_3++ [true])))))))
def J9(p71_0:ByteArray)(p71_1:Aa)(p71_2:List ByteArray)(p71_3:List Bool):Option Co:=Aas L p71_0 p71_1 p71_2 p71_3
theorem Baw(p71_0:ByteArray)(p71_1:Aa)(p71_2:List ByteArray)(p71_3:List Bool):YO (C9 L) (L+24) 5 59 [.mp 5,S p71_0] [(1,(Ae p71_1)),(3,[.mp 5]),(4,[.clo 88 0 [.loc 3 0]]),(5,[.mapO false false (.t9 p71_2) (.t4 p71_3)])] k=ob (J9 L p71_0 p71_1 p71_2 p71_3) (Ayl p71_0 p71_1 p71_2 p71_3 k):=(C6 _ _ _ y9 _ _ _ _ _ _ _).trans (eE (Aas L p71_0 p71_1 p71_2 p71_3))
def Axs(p69_0:List ByteArray)(p69_1:Aa)(v:Y6):St:=⟨[(0,.any),(1,.any),(2,.clo 59 1 [.mp 5]),(6,I v.1),(14,lv (.t9 p69_0)),(15,I (p69_0.length:Int)),(16,I v.2.1)],[(1,(Ae p69_1)),(3,[.mp 5]),(4,[.clo 88 0 [.loc 3 0]]),(5,[.mapO false false (.t9 v.2.2.1) (.t4 v.2.2.2)])],1006⟩
def Na [An A L5](L:Nat)(R5:Int)(Qe:Int)(rec:Int→Int→List ByteArray→List Bool→A)(o47:Co):A:=
 (cn (o47.1 != 0)
 (lf (0,o47.1,R5,o47.2.1,o47.2.2))
 (rec Qe (Bi (R5+1)) o47.2.1 o47.2.2))
def Rs [An A L5](L:Nat)(p69_0:List ByteArray)(p69_1:Aa)(rec:Int→Int→List ByteArray→List Bool→A)(Qe:Int)(R5:Int)(Jk:List ByteArray)(Jl:List Bool)(nx96:Int→(List ByteArray)→(List Bool)→Int→A):A:=
 (lw R5 p69_0
 (nx96 R5 Jk Jl Qe)
 (lf (1,Qe,R5,Jk,Jl)))
def Yk [An A L5](p69_0:List ByteArray)(p69_1:Aa)(rec:Int→Int→List ByteArray→List Bool→A)(Qe:Int)(R5:Int)(Jk:List ByteArray)(Jl:List Bool):A:=Rs L p69_0 p69_1 rec Qe R5 Jk Jl (fun R5 Jk Jl Qe=>bd (J9 L (p69_0.getD (Int.toNat R5) default) p69_1 Jk Jl) fun o47=>Na L R5 Qe rec o47)
def Hf(L:Nat)(p69_0:List ByteArray)(p69_1:Aa):Nat→Int→Int→List ByteArray→List Bool→Option L5
 |0,_,_,_,_=>none
 |n+1,Qe,R5,Jk,Jl=>Yk L p69_0 p69_1 (Hf L p69_0 p69_1 n) Qe R5 Jk Jl
def A4o(p69_0:List ByteArray)(p69_1:Aa):Prop:=LI (EV (C9 L) (L+24) 5 c89.w.l.u.l.l) [0,1,2,6,14,15,16] [1,3,4,5] (Axs p69_0 p69_1) [.ret,.exit 0] (fun n v=>Hf L p69_0 p69_1 n v.1 v.2.1 v.2.2.1 v.2.2.2) K n
def A04(p69_0:List ByteArray)(R5:Int)(Qe:Int)(p69_1:Aa)(Jk:List ByteArray)(Jl:List Bool):Bn:=(Bx Tryz.prog (C9 L) (EI (C9 L) (L+24) 5) 1 (List.drop 3 c89.w.l.u.l.l.w.l.l.u.l.ops) ⟨[(21,S (p69_0.getD (Int.toNat R5) default)),(20,.clo 59 1 [.mp 5]),(2,.clo 59 1 [.mp 5]),(6,I Qe),(8,S (p69_0.getD (Int.toNat R5) default)),(14,lv (.t9 p69_0)),(15,I (p69_0.length:Int)),(16,I R5),(17,B (decide (R5 < (p69_0.length:Int)))),(18,.ref [S (p69_0.getD (Int.toNat R5) default)]),(19,S (p69_0.getD (Int.toNat R5) default))],[(1,(Ae p69_1)),(3,[.mp 5]),(4,[.clo 88 0 [.loc 3 0]]),(5,[.mapO false false (.t9 Jk) (.t4 Jl)])],1006⟩ (some 22) (fun st9=>(Bz (EV (C9 L) (L+24) 5 c89.w.l.u.l.l.w.l.l.u.r) (Bs 1 (Bz (EV (C9 L) (L+24) 5 c89.w.l.u.l.l.w.r) (H6 (Kj (EV (C9 L) (L+24) 5 c89.w.l.u.l.l) [0,1,2,6,14,15,16] [1,3,4,5] n) [0,1,2,6,14,15,16] [1,3,4,5] K)))) .normal st9))
theorem Bii(p69_0:List ByteArray)(R5:Int)(p69_1:Aa)(Jk:List ByteArray)(Jl:List Bool)(Qe:Int)(ih:A4o L n K p69_0 p69_1)(o47:Co):Ayl (p69_0.getD (Int.toNat R5) default) p69_1 Jk Jl (A04 L n K p69_0 R5 Qe p69_1 Jk Jl) o47=ob (Na L R5 Qe (Hf L p69_0 p69_1 n) o47) (kX [.ret,.exit 0] (Axs p69_0 p69_1) K):=eE (Na L R5 Qe (fun Qe R5 Jk Jl=>re (ih (Qe,R5,Jk,Jl))) o47)
theorem Bgk(p69_0:List ByteArray)(p69_1:Aa):∀n,A4o L n K p69_0 p69_1:=lE (fun _=>rfl) fun n v ih=>eE (Rs L p69_0 p69_1 (fun Qe R5 Jk Jl=>re (ih (Qe,R5,Jk,Jl))) v.1 v.2.1 v.2.2.1 v.2.2.2 (fun R5 Jk Jl Qe=>ho (Baw L (A04 L n K p69_0 R5 Qe p69_1 Jk Jl) (p69_0.getD (Int.toNat R5) default) p69_1 Jk Jl) fun o47=>Bii L n K p69_0 R5 p69_1 Jk Jl Qe ih o47))
def Abe(p69_0:List ByteArray)(p69_1:Aa)(p69_2:List ByteArray)(p69_3:List Bool)(k:Bn):Co→Prop:=fun o=>k (I o.1) [(1,(Ae p69_1)),(3,[.mp 5]),(4,[.clo 88 0 [.loc 3 0]]),(5,[.mapO false false (.t9 o.2.1) (.t4 o.2.2)])]
def Wr [An A Co](L:Nat)(o48:Nat×Y6):A:=
 (sl o48.1 [(lf (o48.2.1,o48.2.2.2.1,o48.2.2.2.2)),
 (lf (0,o48.2.2.2.1,o48.2.2.2.2))])
def A05:Ci:=(Bs 0 (Bz (EV (C9 L) (L+24) 5 c89.w.r) (Dg Tryz.prog (RS Tryz.f89) k)))
theorem Bij(p69_0:List ByteArray)(p69_1:Aa)(p69_2:List ByteArray)(p69_3:List Bool)(o48:Nat×Y6):kX [.ret,.exit 0] (Axs p69_0 p69_1) (A05 L k) o48=ob (Wr L o48) (Abe p69_0 p69_1 p69_2 p69_3 k):=eE (Wr L o48)
def Aa7 [An A Co](L:Nat)(p69_0:List ByteArray)(p69_1:Aa)(p69_2:List ByteArray)(p69_3:List Bool)(nx97:A):A:=
 (cn (decide ((p69_0.length:Int) > 32))
 (lf (6,p69_2,p69_3))
 nx97)
def Aim [An A Co](p69_0:List ByteArray)(p69_1:Aa)(p69_2:List ByteArray)(p69_3:List Bool):A:=Aa7 L p69_0 p69_1 p69_2 p69_3 (bd (Hf L p69_0 p69_1 (L+24) 0 0 p69_2 p69_3) fun o48=>Wr L o48)
def Ht(p69_0:List ByteArray)(p69_1:Aa)(p69_2:List ByteArray)(p69_3:List Bool):Option Co:=Aim L p69_0 p69_1 p69_2 p69_3
theorem Ag5(p69_0:List ByteArray)(p69_1:Aa)(p69_2:List ByteArray)(p69_3:List Bool):YO (C9 L) (L+24) 6 89 [lv (.t9 p69_0),I 32,.clo 59 1 [.mp 5]] [(1,(Ae p69_1)),(3,[.mp 5]),(4,[.clo 88 0 [.loc 3 0]]),(5,[.mapO false false (.t9 p69_2) (.t4 p69_3)])] k=ob (Ht L p69_0 p69_1 p69_2 p69_3) (Abe p69_0 p69_1 p69_2 p69_3 k):=(C6 _ _ _ y9 _ _ _ _ _ _ _).trans (eE (Aa7 L p69_0 p69_1 p69_2 p69_3 (ho (Bgk L (A05 L k) p69_0 p69_1 (L+24) (0,0,p69_2,p69_3)) fun o48=>Bij L k p69_0 p69_1 p69_2 p69_3 o48)))
def Aym(p78_0:ByteArray)(p78_1:Aa)(p78_2:List ByteArray)(p78_3:List Bool)(p78_4:Ao)(p78_5:Ao)(k:Bn):Co→Prop:=fun o=>k (I o.1) [(1,(Ae p78_1)),(3,[.mp 5]),(4,[.clo 88 0 [.loc 3 0]]),(5,[.mapO false false (.t9 o.2.1) (.t4 o.2.2)]),(1014,(Cs p78_4)),(2017,(Cs p78_5))]
def Aau [An A Co](p78_0:ByteArray)(p78_1:Aa)(p78_2:List ByteArray)(p78_3:List Bool)(p78_4:Ao)(p78_5:Ao):A:=
 (bd (Cr L p78_0) fun r54=>
 (cn (r54 != 0)
 (lf (r54,p78_2,p78_3))
 (fq (p78_2.findIdx? fun b=>p78_0 == b) (fun i55=>
 (cn (p78_3.getD i55 default)
 (lf (4,p78_2,p78_3))
 (fq (p78_2.findIdx? fun b=>p78_0 == b) (fun i56=>
 (lf (0,p78_2,(p78_3.set i56 true))))
 (lf (0,(p78_2++ [p78_0]),(p78_3++ [true]))))))
 (fq (p78_2.findIdx? fun b=>p78_0 == b) (fun i57=>
 (lf (0,p78_2,(p78_3.set i57 true))))
 (lf (0,(p78_2++ [p78_0]),(p78_3++ [true])))))))
def V9(p78_0:ByteArray)(p78_1:Aa)(p78_2:List ByteArray)(p78_3:List Bool)(p78_4:Ao)(p78_5:Ao):Option Co:=Aau L p78_0 p78_1 p78_2 p78_3 p78_4 p78_5
theorem Baz(p78_0:ByteArray)(p78_1:Aa)(p78_2:List ByteArray)(p78_3:List Bool)(p78_4:Ao)(p78_5:Ao):YO (C9 L) (L+24) 5 59 [.mp 5,S p78_0] [(1,(Ae p78_1)),(3,[.mp 5]),(4,[.clo 88 0 [.loc 3 0]]),(5,[.mapO false false (.t9 p78_2) (.t4 p78_3)]),(1014,(Cs p78_4)),(2017,(Cs p78_5))] k=ob (V9 L p78_0 p78_1 p78_2 p78_3 p78_4 p78_5) (Aym p78_0 p78_1 p78_2 p78_3 p78_4 p78_5 k):=(C6 _ _ _ y9 _ _ _ _ _ _ _).trans (eE (Aau L p78_0 p78_1 p78_2 p78_3 p78_4 p78_5))
def Aqc(p76_0:Ao)(p76_1:Aa)(p76_2:List ByteArray)(p76_3:List Bool)(p76_4:Ao)(k:Bn):Co→Prop:=fun o=>k (I o.1) [(1,(Ae p76_1)),(3,[.mp 5]),(4,[.clo 88 0 [.loc 3 0]]),(5,[.mapO false false (.t9 o.2.1) (.t4 o.2.2)]),(1014,(Cs p76_4)),(2017,(Cs p76_0))]
def O9 [An A Co](p76_0:Ao)(o58:Co):A:=
 (cn (o58.1 != 0)
 (lf (o58.1,o58.2.1,o58.2.2))
 (bd (Sf L p76_0) fun r59=>
 (lf (r59,o58.2.1,o58.2.2))))
def At3(p76_0:Ao)(p76_1:Aa)(p76_2:List ByteArray)(p76_3:List Bool)(p76_4:Ao):Bn:=(Bx Tryz.prog (C9 L) (EI (C9 L) (L+24) 5) 1 (List.drop 4 Be7.u.l.l.ops) ⟨[(7,S p76_0.Name),(6,.loc 2017 0),(5,.mp 5),(1,.loc 3 0),(2,.loc 2017 0),(3,I 0)],[(1,(Ae p76_1)),(3,[.mp 5]),(4,[.clo 88 0 [.loc 3 0]]),(5,[.mapO false false (.t9 p76_2) (.t4 p76_3)]),(1014,(Cs p76_4)),(2017,(Cs p76_0))],2015⟩ (some 8) (fun st9=>(Bz (EV (C9 L) (L+24) 5 Be7.u.l.r) (Bz (EV (C9 L) (L+24) 5 Be7.u.r) (Dg Tryz.prog (RS Tryz.f111) k))) .normal st9))
theorem Bcg(p76_0:Ao)(p76_1:Aa)(p76_2:List ByteArray)(p76_3:List Bool)(p76_4:Ao)(o58:Co):Aym p76_0.Name p76_1 p76_2 p76_3 p76_4 p76_0 (At3 L k p76_0 p76_1 p76_2 p76_3 p76_4) o58=ob (O9 L p76_0 o58) (Aqc p76_0 p76_1 p76_2 p76_3 p76_4 k):=eE (O9 L p76_0 o58)
def Aat [An A Co](p76_0:Ao)(p76_1:Aa)(p76_2:List ByteArray)(p76_3:List Bool)(p76_4:Ao):A:=(bd (V9 L p76_0.Name p76_1 p76_2 p76_3 p76_4 p76_0) fun o58=>O9 L p76_0 o58)
def Ka(p76_0:Ao)(p76_1:Aa)(p76_2:List ByteArray)(p76_3:List Bool)(p76_4:Ao):Option Co:=Aat L p76_0 p76_1 p76_2 p76_3 p76_4
theorem Bay(p76_0:Ao)(p76_1:Aa)(p76_2:List ByteArray)(p76_3:List Bool)(p76_4:Ao):YO (C9 L) (L+24) 6 111 [.agg (Cs p76_0),.loc 3 0] [(1,(Ae p76_1)),(3,[.mp 5]),(4,[.clo 88 0 [.loc 3 0]]),(5,[.mapO false false (.t9 p76_2) (.t4 p76_3)]),(1014,(Cs p76_4))] k=ob (Ka L p76_0 p76_1 p76_2 p76_3 p76_4) (Aqc p76_0 p76_1 p76_2 p76_3 p76_4 k):=(C6 _ _ _ y9 _ _ _ _ _ _ _).trans (eE ((ho (Baz L (At3 L k p76_0 p76_1 p76_2 p76_3 p76_4) p76_0.Name p76_1 p76_2 p76_3 p76_4 p76_0) fun o58=>Bcg L k p76_0 p76_1 p76_2 p76_3 p76_4 o58)))
def Axt(p72_0:List Ao)(p72_1:Aa)(v:Y6):St:=⟨[(0,.any),(1,.any),(2,.clo 111 0 [.loc 3 0]),(6,I v.1),(14,lv (.t93 p72_0)),(15,I (p72_0.length:Int)),(16,I v.2.1)],[(1,(Ae p72_1)),(3,[.mp 5]),(4,[.clo 88 0 [.loc 3 0]]),(5,[.mapO false false (.t9 v.2.2.1) (.t4 v.2.2.2)])],1006⟩
def Lv [An A L5](L:Nat)(Pw:Int)(Qf:Int)(rec:Int→Int→List ByteArray→List Bool→A)(o60:Co):A:=
 (cn (o60.1 != 0)
 (lf (0,o60.1,Pw,o60.2.1,o60.2.2))
 (rec Qf (Bi (Pw+1)) o60.2.1 o60.2.2))
def Ps [An A L5](L:Nat)(p72_0:List Ao)(p72_1:Aa)(rec:Int→Int→List ByteArray→List Bool→A)(Qf:Int)(Pw:Int)(Jm:List ByteArray)(Jn:List Bool)(nx109:Int→(List ByteArray)→(List Bool)→Int→A):A:=
 (lw Pw p72_0
 (nx109 Pw Jm Jn Qf)
 (lf (1,Qf,Pw,Jm,Jn)))
def Yl [An A L5](p72_0:List Ao)(p72_1:Aa)(rec:Int→Int→List ByteArray→List Bool→A)(Qf:Int)(Pw:Int)(Jm:List ByteArray)(Jn:List Bool):A:=Ps L p72_0 p72_1 rec Qf Pw Jm Jn (fun Pw Jm Jn Qf=>bd (Ka L (p72_0.getD (Int.toNat Pw) default) p72_1 Jm Jn (p72_0.getD (Int.toNat Pw) default)) fun o60=>Lv L Pw Qf rec o60)
def Hg(L:Nat)(p72_0:List Ao)(p72_1:Aa):Nat→Int→Int→List ByteArray→List Bool→Option L5
 |0,_,_,_,_=>none
 |n+1,Qf,Pw,Jm,Jn=>Yl L p72_0 p72_1 (Hg L p72_0 p72_1 n) Qf Pw Jm Jn
def A4p(p72_0:List Ao)(p72_1:Aa):Prop:=LI (EV (C9 L) (L+24) 6 A2x.w.l.u.l.l) [0,1,2,6,14,15,16] [1,3,4,5] (Axt p72_0 p72_1) [.ret,.exit 0] (fun n v=>Hg L p72_0 p72_1 n v.1 v.2.1 v.2.2.1 v.2.2.2) K n
def At4(p72_0:List Ao)(Pw:Int)(Qf:Int)(p72_1:Aa)(Jm:List ByteArray)(Jn:List Bool):Bn:=(Bx Tryz.prog (C9 L) (EI (C9 L) (L+24) 6) 1 (List.drop 3 A2x.w.l.u.l.l.w.l.l.u.l.ops) ⟨[(21,.agg (Cs (p72_0.getD (Int.toNat Pw) default))),(20,.clo 111 0 [.loc 3 0]),(2,.clo 111 0 [.loc 3 0]),(6,I Qf),(8,.loc 1014 0),(14,lv (.t93 p72_0)),(15,I (p72_0.length:Int)),(16,I Pw),(17,B (decide (Pw < (p72_0.length:Int)))),(18,.ref (Cs (p72_0.getD (Int.toNat Pw) default))),(19,.agg (Cs (p72_0.getD (Int.toNat Pw) default)))],[(1,(Ae p72_1)),(3,[.mp 5]),(4,[.clo 88 0 [.loc 3 0]]),(5,[.mapO false false (.t9 Jm) (.t4 Jn)]),(1014,(Cs (p72_0.getD (Int.toNat Pw) default)))],1006⟩ (some 22) (fun st9=>(Bz (EV (C9 L) (L+24) 6 A2x.w.l.u.l.l.w.l.l.u.r) (Bs 1 (Bz (EV (C9 L) (L+24) 6 A2x.w.l.u.l.l.w.r) (H6 (Kj (EV (C9 L) (L+24) 6 A2x.w.l.u.l.l) [0,1,2,6,14,15,16] [1,3,4,5] n) [0,1,2,6,14,15,16] [1,3,4,5] K)))) .normal st9))
theorem Bch(p72_0:List Ao)(Pw:Int)(p72_1:Aa)(Jm:List ByteArray)(Jn:List Bool)(Qf:Int)(ih:A4p L n K p72_0 p72_1)(o60:Co):Aqc (p72_0.getD (Int.toNat Pw) default) p72_1 Jm Jn (p72_0.getD (Int.toNat Pw) default) (At4 L n K p72_0 Pw Qf p72_1 Jm Jn) o60=ob (Lv L Pw Qf (Hg L p72_0 p72_1 n) o60) (kX [.ret,.exit 0] (Axt p72_0 p72_1) K):=eE (Lv L Pw Qf (fun Qf Pw Jm Jn=>re (ih (Qf,Pw,Jm,Jn))) o60)
theorem Bgl(p72_0:List Ao)(p72_1:Aa):∀n,A4p L n K p72_0 p72_1:=lE (fun _=>rfl) fun n v ih=>eE (Ps L p72_0 p72_1 (fun Qf Pw Jm Jn=>re (ih (Qf,Pw,Jm,Jn))) v.1 v.2.1 v.2.2.1 v.2.2.2 (fun Pw Jm Jn Qf=>ho (Bay L (At4 L n K p72_0 Pw Qf p72_1 Jm Jn) (p72_0.getD (Int.toNat Pw) default) p72_1 Jm Jn (p72_0.getD (Int.toNat Pw) default)) fun o60=>Bch L n K p72_0 Pw p72_1 Jm Jn Qf ih o60))
def Aqb(p72_0:List Ao)(p72_1:Aa)(p72_2:List ByteArray)(p72_3:List Bool)(k:Bn):Co→Prop:=fun o=>k (I o.1) [(1,(Ae p72_1)),(3,[.mp 5]),(4,[.clo 88 0 [.loc 3 0]]),(5,[.mapO false false (.t9 o.2.1) (.t4 o.2.2)])]
def Uz [An A Co](L:Nat)(o61:Nat×Y6):A:=
 (sl o61.1 [(lf (o61.2.1,o61.2.2.2.1,o61.2.2.2.2)),
 (lf (0,o61.2.2.2.1,o61.2.2.2.2))])
def At5:Ci:=(Bs 0 (Bz (EV (C9 L) (L+24) 6 A2x.w.r) (Dg Tryz.prog (RS Tryz.f110) k)))
theorem Bci(p72_0:List Ao)(p72_1:Aa)(p72_2:List ByteArray)(p72_3:List Bool)(o61:Nat×Y6):kX [.ret,.exit 0] (Axt p72_0 p72_1) (At5 L k) o61=ob (Uz L o61) (Aqb p72_0 p72_1 p72_2 p72_3 k):=eE (Uz L o61)
def q8 [An A Co](L:Nat)(p72_0:List Ao)(p72_1:Aa)(p72_2:List ByteArray)(p72_3:List Bool)(nx110:A):A:=
 (cn (decide ((p72_0.length:Int) > 16))
 (lf (6,p72_2,p72_3))
 nx110)
def Ain [An A Co](p72_0:List Ao)(p72_1:Aa)(p72_2:List ByteArray)(p72_3:List Bool):A:=q8 L p72_0 p72_1 p72_2 p72_3 (bd (Hg L p72_0 p72_1 (L+24) 0 0 p72_2 p72_3) fun o61=>Uz L o61)
def V8(p72_0:List Ao)(p72_1:Aa)(p72_2:List ByteArray)(p72_3:List Bool):Option Co:=Ain L p72_0 p72_1 p72_2 p72_3
theorem Bax(p72_0:List Ao)(p72_1:Aa)(p72_2:List ByteArray)(p72_3:List Bool):YO (C9 L) (L+24) 7 110 [lv (.t93 p72_0),I 16,.clo 111 0 [.loc 3 0]] [(1,(Ae p72_1)),(3,[.mp 5]),(4,[.clo 88 0 [.loc 3 0]]),(5,[.mapO false false (.t9 p72_2) (.t4 p72_3)])] k=ob (V8 L p72_0 p72_1 p72_2 p72_3) (Aqb p72_0 p72_1 p72_2 p72_3 k):=(C6 _ _ _ y9 _ _ _ _ _ _ _).trans (eE (q8 L p72_0 p72_1 p72_2 p72_3 (ho (Bgl L (At5 L k) p72_0 p72_1 (L+24) (0,0,p72_2,p72_3)) fun o61=>Bci L k p72_0 p72_1 p72_2 p72_3 o61)))
def A73(p79_0:List Cl)(p79_1:Aa)(p79_2:List ByteArray)(p79_3:List Bool)(v:L1):St:=⟨[(0,.any),(1,.any),(2,.clo 115 0 [.loc 1 0]),(6,I v.1),(14,lv (.t150 p79_0)),(15,I (p79_0.length:Int)),(16,I v.2)],[(1,(Ae p79_1)),(3,[.mp 5]),(4,[.clo 88 0 [.loc 3 0]]),(5,[.mapO false false (.t9 p79_2) (.t4 p79_3)])],1006⟩
def Sr [An A Hl](p79_0:List Cl)(p79_1:Aa)(p79_2:List ByteArray)(p79_3:List Bool)(rec:Int→Int→A)(Acx:Int)(Asj:Int):A:=
 (lw Asj p79_0
 (bd (Oq L p79_1 (p79_0.getD (Int.toNat Asj) default)) fun r63=>
 (cn (r63 != 0)
 (lf (0,r63,Asj))
 (rec Acx (Bi (Asj+1)))))
 (lf (1,Acx,Asj)))
def Iu(L:Nat)(p79_0:List Cl)(p79_1:Aa)(p79_2:List ByteArray)(p79_3:List Bool):Nat→Int→Int→Option Hl
 |0,_,_=>none
 |n+1,Acx,Asj=>Sr L p79_0 p79_1 p79_2 p79_3 (Iu L p79_0 p79_1 p79_2 p79_3 n) Acx Asj
theorem Bgm(p79_0:List Cl)(p79_1:Aa)(p79_2:List ByteArray)(p79_3:List Bool):LP (EV (C9 L) (L+24) 6 Bjw.w.l.u.l.l) [0,1,2,6,14,15,16] [1,3,4,5] (A73 p79_0 p79_1 p79_2 p79_3) [.ret,.exit 0] (fun n v=>Iu L p79_0 p79_1 p79_2 p79_3 n v.1 v.2) K:=lE (fun _=>rfl) fun n v ih=>eE (Sr L p79_0 p79_1 p79_2 p79_3 (fun Acx Asj=>re (ih (Acx,Asj))) v.1 v.2)
def Aqd(p79_0:List Cl)(p79_1:Aa)(p79_2:List ByteArray)(p79_3:List Bool)(k:Bn):Int→Prop:=fun o=>k (I o) [(1,(Ae p79_1)),(3,[.mp 5]),(4,[.clo 88 0 [.loc 3 0]]),(5,[.mapO false false (.t9 p79_2) (.t4 p79_3)])]
def U1 [An A Int](L:Nat)(o64:Nat×L1):A:=
 (sl o64.1 [(lf o64.2.1),
 (lf 0)])
def At7:Ci:=(Bs 0 (Bz (EV (C9 L) (L+24) 6 Bjw.w.r) (Dg Tryz.prog (RS Tryz.f114) k)))
theorem Bck(p79_0:List Cl)(p79_1:Aa)(p79_2:List ByteArray)(p79_3:List Bool)(o64:Nat×L1):kX [.ret,.exit 0] (A73 p79_0 p79_1 p79_2 p79_3) (At7 L k) o64=ob (U1 L o64) (Aqd p79_0 p79_1 p79_2 p79_3 k):=eE (U1 L o64)
def q9 [An A Int](L:Nat)(p79_0:List Cl)(p79_1:Aa)(p79_2:List ByteArray)(p79_3:List Bool)(nx113:A):A:=
 (cn (decide ((p79_0.length:Int) > 32))
 (lf 6)
 nx113)
def Aio [An A Int](p79_0:List Cl)(p79_1:Aa)(p79_2:List ByteArray)(p79_3:List Bool):A:=q9 L p79_0 p79_1 p79_2 p79_3 (bd (Iu L p79_0 p79_1 p79_2 p79_3 (L+24) 0 0) fun o64=>U1 L o64)
def Wa(p79_0:List Cl)(p79_1:Aa)(p79_2:List ByteArray)(p79_3:List Bool):Option Int:=Aio L p79_0 p79_1 p79_2 p79_3
theorem Ba0(p79_0:List Cl)(p79_1:Aa)(p79_2:List ByteArray)(p79_3:List Bool):YO (C9 L) (L+24) 7 114 [lv (.t150 p79_0),I 32,.clo 115 0 [.loc 1 0]] [(1,(Ae p79_1)),(3,[.mp 5]),(4,[.clo 88 0 [.loc 3 0]]),(5,[.mapO false false (.t9 p79_2) (.t4 p79_3)])] k=ob (Wa L p79_0 p79_1 p79_2 p79_3) (Aqd p79_0 p79_1 p79_2 p79_3 k):=(C6 _ _ _ y9 _ _ _ _ _ _ _).trans (eE (q9 L p79_0 p79_1 p79_2 p79_3 (ho (Bgm L (At7 L k) p79_0 p79_1 p79_2 p79_3 (L+24) (0,0)) fun o64=>Bck L k p79_0 p79_1 p79_2 p79_3 o64)))
def Vh(p1_0:Aa)(k:Bn):Co→Prop:=fun o=>k (I o.1) [(1,(Ae p1_0)),(3,[.mp 5]),(4,[.clo 88 0 [.loc 3 0]]),(5,[.mapO false false (.t9 o.2.1) (.t4 o.2.2)])]
def Ph [An A Co](o62:Co)(p1_0:Aa)(o65:Int):A:=
 (cn (o65 != 0)
 (lf (o65,o62.2.1,o62.2.2))
 (gq ((0:Int)≤11)
 (gq (11 < ((12:Nat):Int))
 (bd (Y0 L p1_0) fun r66=>
 (cn (r66 != 0)
 (lf (r66,o62.2.1,o62.2.2))
 (lf (0,o62.2.1,o62.2.2)))))))
def At8(p1_0:Aa)(o62:Co):Bn:=(Bx Tryz.prog (C9 L) (EI (C9 L) (L+24) 7) 1 (List.drop 4 Bjv.u.l.ops) ⟨[(4,.clo 115 0 [.loc 1 0]),(3,lv (.t150 p1_0.Starts)),(2,.loc 1 11),(0,.loc 1 0),(1,I 0)],[(1,(Ae p1_0)),(3,[.mp 5]),(4,[.clo 88 0 [.loc 3 0]]),(5,[.mapO false false (.t9 o62.2.1) (.t4 o62.2.2)])],1006⟩ (some 5) (fun st9=>(Bz (EV (C9 L) (L+24) 7 Bjv.u.r) (Dg Tryz.prog (RS Tryz.f113) (Bx Tryz.prog (C9 L) (EI (C9 L) (L+24) 8) 1 (List.drop 2 g7.u.l.u.l.l.w.l.l.u.l.ops) ⟨[(12,.clo 113 0 [.loc 1 0]),(2,I 0),(4,.clo 113 0 [.loc 1 0]),(6,.sl false 170 1 [[.clo 91 0 [.loc 3 0,.loc 1 0]],[.clo 92 0 [.loc 1 0,.loc 3 0]],[.clo 98 0 [.loc 1 0,.loc 3 0]],[.clo 101 0 [.loc 1 0,.loc 3 0]],[.clo 104 0 [.loc 4 0,.loc 1 0]],[.clo 105 0 [.loc 4 0,.loc 1 0]],[.clo 106 0 [.loc 4 0,.loc 1 0]],[.clo 107 0 [.loc 4 0,.loc 1 0]],[.clo 108 0 [.loc 4 0,.loc 1 0]],[.clo 109 0 [.loc 1 0,.loc 3 0]],[.clo 113 0 [.loc 1 0]],[.clo 117 0 [.loc 1 0]]]),(7,I 12),(8,I 10),(9,B true),(10,.ref [.clo 113 0 [.loc 1 0]]),(11,.clo 113 0 [.loc 1 0])],[(1,(Ae p1_0)),(3,[.mp 5]),(4,[.clo 88 0 [.loc 3 0]]),(5,[.mapO false false (.t9 o62.2.1) (.t4 o62.2.2)])],1006⟩ (some 13) (fun st9=>(Bz (EV (C9 L) (L+24) 8 g7.u.l.u.l.l.w.l.l.u.r) (Bs 1 (Bz (EV (C9 L) (L+24) 8 g7.u.l.u.l.l.w.r) (H6 (Kj (EV (C9 L) (L+24) 8 g7.u.l.u.l.l) [0,2,6,7,8] [1,3,4,5] (L+13)) [0,2,6,7,8] [1,3,4,5] (Z4 L k))))) .normal st9)))) .normal st9))
theorem Bcl(p1_0:Aa)(o62:Co)(o65:Int):Aqd p1_0.Starts p1_0 o62.2.1 o62.2.2 (At8 L k p1_0 o62) o65=ob (Ph L o62 p1_0 o65) (Vh p1_0 k):=eE (Ph L o62 p1_0 o65)
def Vb [An A Co](L:Nat)(p1_0:Aa)(o62:Co)(nx114:Co→A):A:=
 (cn (o62.1 != 0)
 (lf (o62.1,o62.2.1,o62.2.2))
 (gq ((0:Int)≤10)
 (gq (10 < ((12:Nat):Int))
 (nx114 o62))))
def U0 [An A Co](p1_0:Aa)(o62:Co):A:=Vb L p1_0 o62 (fun o62=>bd (Wa L p1_0.Starts p1_0 o62.2.1 o62.2.2) fun o65=>Ph L o62 p1_0 o65)
def At6(p1_0:Aa)(o53:Co):Bn:=(Bx Tryz.prog (C9 L) (EI (C9 L) (L+24) 7) 1 (List.drop 4 Bju.u.l.ops) ⟨[(5,.clo 111 0 [.loc 3 0]),(4,lv (.t93 p1_0.Routines)),(3,.loc 1 10),(0,.loc 1 0),(1,.loc 3 0),(2,I 0)],[(1,(Ae p1_0)),(3,[.mp 5]),(4,[.clo 88 0 [.loc 3 0]]),(5,[.mapO false false (.t9 o53.2.1) (.t4 o53.2.2)])],1006⟩ (some 6) (fun st9=>(Bz (EV (C9 L) (L+24) 7 Bju.u.r) (Dg Tryz.prog (RS Tryz.f109) (Bx Tryz.prog (C9 L) (EI (C9 L) (L+24) 8) 1 (List.drop 2 g7.u.l.u.l.l.w.l.l.u.l.ops) ⟨[(12,.clo 109 0 [.loc 1 0,.loc 3 0]),(2,I 0),(4,.clo 109 0 [.loc 1 0,.loc 3 0]),(6,.sl false 170 1 [[.clo 91 0 [.loc 3 0,.loc 1 0]],[.clo 92 0 [.loc 1 0,.loc 3 0]],[.clo 98 0 [.loc 1 0,.loc 3 0]],[.clo 101 0 [.loc 1 0,.loc 3 0]],[.clo 104 0 [.loc 4 0,.loc 1 0]],[.clo 105 0 [.loc 4 0,.loc 1 0]],[.clo 106 0 [.loc 4 0,.loc 1 0]],[.clo 107 0 [.loc 4 0,.loc 1 0]],[.clo 108 0 [.loc 4 0,.loc 1 0]],[.clo 109 0 [.loc 1 0,.loc 3 0]],[.clo 113 0 [.loc 1 0]],[.clo 117 0 [.loc 1 0]]]),(7,I 12),(8,I 9),(9,B true),(10,.ref [.clo 109 0 [.loc 1 0,.loc 3 0]]),(11,.clo 109 0 [.loc 1 0,.loc 3 0])],[(1,(Ae p1_0)),(3,[.mp 5]),(4,[.clo 88 0 [.loc 3 0]]),(5,[.mapO false false (.t9 o53.2.1) (.t4 o53.2.2)])],1006⟩ (some 13) (fun st9=>(Bz (EV (C9 L) (L+24) 8 g7.u.l.u.l.l.w.l.l.u.r) (Bs 1 (Bz (EV (C9 L) (L+24) 8 g7.u.l.u.l.l.w.r) (H6 (Kj (EV (C9 L) (L+24) 8 g7.u.l.u.l.l) [0,2,6,7,8] [1,3,4,5] (L+14)) [0,2,6,7,8] [1,3,4,5] (Z4 L k))))) .normal st9)))) .normal st9))
theorem Bcj(p1_0:Aa)(o53:Co)(o62:Co):Aqb p1_0.Routines p1_0 o53.2.1 o53.2.2 (At6 L k p1_0 o53) o62=ob (U0 L p1_0 o62) (Vh p1_0 k):=eE (Vb L p1_0 o62 (fun o62=>ho (Ba0 L (At8 L k p1_0 o62) p1_0.Starts p1_0 o62.2.1 o62.2.2) fun o65=>Bcl L k p1_0 o62 o65))
def Va [An A Co](L:Nat)(p1_0:Aa)(o53:Co)(nx111:Co→A):A:=
 (cn (o53.1 != 0)
 (lf (o53.1,o53.2.1,o53.2.2))
 (gq ((0:Int)≤9)
 (gq (9 < ((12:Nat):Int))
 (nx111 o53))))
def Uy [An A Co](p1_0:Aa)(o53:Co):A:=Va L p1_0 o53 (fun o53=>bd (V8 L p1_0.Routines p1_0 o53.2.1 o53.2.2) fun o62=>U0 L p1_0 o62)
def At2(p1_0:Aa)(o52:Co):Bn:=(Bx Tryz.prog (C9 L) (EI (C9 L) (L+24) 6) 1 (List.drop 4 c88.u.l.ops) ⟨[(6,.clo 59 1 [.mp 5]),(5,.mp 5),(4,lv (.t9 p1_0.Counts)),(0,lv (.t9 p1_0.Counts)),(1,.loc 3 0),(3,I 0)],[(1,(Ae p1_0)),(3,[.mp 5]),(4,[.clo 88 0 [.loc 3 0]]),(5,[.mapO false false (.t9 o52.2.1) (.t4 o52.2.2)])],1006⟩ (some 7) (fun st9=>(Bz (EV (C9 L) (L+24) 6 c88.u.r) (Dg Tryz.prog (RS Tryz.f88) (Bx Tryz.prog (C9 L) (EI (C9 L) (L+24) 7) 1 (List.drop 4 Bjt.u.l.ops) ⟨[(5,lv (.t9 p1_0.Counts)),(4,.loc 1 9),(3,.clo 88 0 [.loc 3 0]),(0,.loc 4 0),(1,.loc 1 0),(2,I 0)],[(1,(Ae p1_0)),(3,[.mp 5]),(4,[.clo 88 0 [.loc 3 0]]),(5,[.mapO false false (.t9 o52.2.1) (.t4 o52.2.2)])],1006⟩ (some 6) (fun st9=>(Bz (EV (C9 L) (L+24) 7 Bjt.u.r) (Dg Tryz.prog (RS Tryz.f108) (Bx Tryz.prog (C9 L) (EI (C9 L) (L+24) 8) 1 (List.drop 2 g7.u.l.u.l.l.w.l.l.u.l.ops) ⟨[(12,.clo 108 0 [.loc 4 0,.loc 1 0]),(2,I 0),(4,.clo 108 0 [.loc 4 0,.loc 1 0]),(6,.sl false 170 1 [[.clo 91 0 [.loc 3 0,.loc 1 0]],[.clo 92 0 [.loc 1 0,.loc 3 0]],[.clo 98 0 [.loc 1 0,.loc 3 0]],[.clo 101 0 [.loc 1 0,.loc 3 0]],[.clo 104 0 [.loc 4 0,.loc 1 0]],[.clo 105 0 [.loc 4 0,.loc 1 0]],[.clo 106 0 [.loc 4 0,.loc 1 0]],[.clo 107 0 [.loc 4 0,.loc 1 0]],[.clo 108 0 [.loc 4 0,.loc 1 0]],[.clo 109 0 [.loc 1 0,.loc 3 0]],[.clo 113 0 [.loc 1 0]],[.clo 117 0 [.loc 1 0]]]),(7,I 12),(8,I 8),(9,B true),(10,.ref [.clo 108 0 [.loc 4 0,.loc 1 0]]),(11,.clo 108 0 [.loc 4 0,.loc 1 0])],[(1,(Ae p1_0)),(3,[.mp 5]),(4,[.clo 88 0 [.loc 3 0]]),(5,[.mapO false false (.t9 o52.2.1) (.t4 o52.2.2)])],1006⟩ (some 13) (fun st9=>(Bz (EV (C9 L) (L+24) 8 g7.u.l.u.l.l.w.l.l.u.r) (Bs 1 (Bz (EV (C9 L) (L+24) 8 g7.u.l.u.l.l.w.r) (H6 (Kj (EV (C9 L) (L+24) 8 g7.u.l.u.l.l) [0,2,6,7,8] [1,3,4,5] (L+15)) [0,2,6,7,8] [1,3,4,5] (Z4 L k))))) .normal st9)))) .normal st9)))) .normal st9))
theorem Bcf(p1_0:Aa)(o52:Co)(o53:Co):Abe p1_0.Counts p1_0 o52.2.1 o52.2.2 (At2 L k p1_0 o52) o53=ob (Uy L p1_0 o53) (Vh p1_0 k):=eE (Va L p1_0 o53 (fun o53=>ho (Bax L (At6 L k p1_0 o53) p1_0.Routines p1_0 o53.2.1 o53.2.2) fun o62=>Bcj L k p1_0 o53 o62))
def U9 [An A Co](L:Nat)(p1_0:Aa)(o52:Co)(nx102:Co→A):A:=
 (cn (o52.1 != 0)
 (lf (o52.1,o52.2.1,o52.2.2))
 (gq ((0:Int)≤8)
 (gq (8 < ((12:Nat):Int))
 (nx102 o52))))
def Ux [An A Co](p1_0:Aa)(o52:Co):A:=U9 L p1_0 o52 (fun o52=>bd (Ht L p1_0.Counts p1_0 o52.2.1 o52.2.2) fun o53=>Uy L p1_0 o53)
def At1(p1_0:Aa)(o51:Co):Bn:=(Bx Tryz.prog (C9 L) (EI (C9 L) (L+24) 6) 1 (List.drop 4 c88.u.l.ops) ⟨[(6,.clo 59 1 [.mp 5]),(5,.mp 5),(4,lv (.t9 p1_0.Levels)),(0,lv (.t9 p1_0.Levels)),(1,.loc 3 0),(3,I 0)],[(1,(Ae p1_0)),(3,[.mp 5]),(4,[.clo 88 0 [.loc 3 0]]),(5,[.mapO false false (.t9 o51.2.1) (.t4 o51.2.2)])],1006⟩ (some 7) (fun st9=>(Bz (EV (C9 L) (L+24) 6 c88.u.r) (Dg Tryz.prog (RS Tryz.f88) (Bx Tryz.prog (C9 L) (EI (C9 L) (L+24) 7) 1 (List.drop 4 Bjs.u.l.ops) ⟨[(5,lv (.t9 p1_0.Levels)),(4,.loc 1 8),(3,.clo 88 0 [.loc 3 0]),(0,.loc 4 0),(1,.loc 1 0),(2,I 0)],[(1,(Ae p1_0)),(3,[.mp 5]),(4,[.clo 88 0 [.loc 3 0]]),(5,[.mapO false false (.t9 o51.2.1) (.t4 o51.2.2)])],1006⟩ (some 6) (fun st9=>(Bz (EV (C9 L) (L+24) 7 Bjs.u.r) (Dg Tryz.prog (RS Tryz.f107) (Bx Tryz.prog (C9 L) (EI (C9 L) (L+24) 8) 1 (List.drop 2 g7.u.l.u.l.l.w.l.l.u.l.ops) ⟨[(12,.clo 107 0 [.loc 4 0,.loc 1 0]),(2,I 0),(4,.clo 107 0 [.loc 4 0,.loc 1 0]),(6,.sl false 170 1 [[.clo 91 0 [.loc 3 0,.loc 1 0]],[.clo 92 0 [.loc 1 0,.loc 3 0]],[.clo 98 0 [.loc 1 0,.loc 3 0]],[.clo 101 0 [.loc 1 0,.loc 3 0]],[.clo 104 0 [.loc 4 0,.loc 1 0]],[.clo 105 0 [.loc 4 0,.loc 1 0]],[.clo 106 0 [.loc 4 0,.loc 1 0]],[.clo 107 0 [.loc 4 0,.loc 1 0]],[.clo 108 0 [.loc 4 0,.loc 1 0]],[.clo 109 0 [.loc 1 0,.loc 3 0]],[.clo 113 0 [.loc 1 0]],[.clo 117 0 [.loc 1 0]]]),(7,I 12),(8,I 7),(9,B true),(10,.ref [.clo 107 0 [.loc 4 0,.loc 1 0]]),(11,.clo 107 0 [.loc 4 0,.loc 1 0])],[(1,(Ae p1_0)),(3,[.mp 5]),(4,[.clo 88 0 [.loc 3 0]]),(5,[.mapO false false (.t9 o51.2.1) (.t4 o51.2.2)])],1006⟩ (some 13) (fun st9=>(Bz (EV (C9 L) (L+24) 8 g7.u.l.u.l.l.w.l.l.u.r) (Bs 1 (Bz (EV (C9 L) (L+24) 8 g7.u.l.u.l.l.w.r) (H6 (Kj (EV (C9 L) (L+24) 8 g7.u.l.u.l.l) [0,2,6,7,8] [1,3,4,5] (L+16)) [0,2,6,7,8] [1,3,4,5] (Z4 L k))))) .normal st9)))) .normal st9)))) .normal st9))
theorem Bce(p1_0:Aa)(o51:Co)(o52:Co):Abe p1_0.Levels p1_0 o51.2.1 o51.2.2 (At1 L k p1_0 o51) o52=ob (Ux L p1_0 o52) (Vh p1_0 k):=eE (U9 L p1_0 o52 (fun o52=>ho (Ag5 L (At2 L k p1_0 o52) p1_0.Counts p1_0 o52.2.1 o52.2.2) fun o53=>Bcf L k p1_0 o52 o53))
def U8 [An A Co](L:Nat)(p1_0:Aa)(o51:Co)(nx101:Co→A):A:=
 (cn (o51.1 != 0)
 (lf (o51.1,o51.2.1,o51.2.2))
 (gq ((0:Int)≤7)
 (gq (7 < ((12:Nat):Int))
 (nx101 o51))))
def Uw [An A Co](p1_0:Aa)(o51:Co):A:=U8 L p1_0 o51 (fun o51=>bd (Ht L p1_0.Levels p1_0 o51.2.1 o51.2.2) fun o52=>Ux L p1_0 o52)
def At0(p1_0:Aa)(o50:Co):Bn:=(Bx Tryz.prog (C9 L) (EI (C9 L) (L+24) 6) 1 (List.drop 4 c88.u.l.ops) ⟨[(6,.clo 59 1 [.mp 5]),(5,.mp 5),(4,lv (.t9 p1_0.Tallies)),(0,lv (.t9 p1_0.Tallies)),(1,.loc 3 0),(3,I 0)],[(1,(Ae p1_0)),(3,[.mp 5]),(4,[.clo 88 0 [.loc 3 0]]),(5,[.mapO false false (.t9 o50.2.1) (.t4 o50.2.2)])],1006⟩ (some 7) (fun st9=>(Bz (EV (C9 L) (L+24) 6 c88.u.r) (Dg Tryz.prog (RS Tryz.f88) (Bx Tryz.prog (C9 L) (EI (C9 L) (L+24) 7) 1 (List.drop 4 Bjr.u.l.ops) ⟨[(5,lv (.t9 p1_0.Tallies)),(4,.loc 1 7),(3,.clo 88 0 [.loc 3 0]),(0,.loc 4 0),(1,.loc 1 0),(2,I 0)],[(1,(Ae p1_0)),(3,[.mp 5]),(4,[.clo 88 0 [.loc 3 0]]),(5,[.mapO false false (.t9 o50.2.1) (.t4 o50.2.2)])],1006⟩ (some 6) (fun st9=>(Bz (EV (C9 L) (L+24) 7 Bjr.u.r) (Dg Tryz.prog (RS Tryz.f106) (Bx Tryz.prog (C9 L) (EI (C9 L) (L+24) 8) 1 (List.drop 2 g7.u.l.u.l.l.w.l.l.u.l.ops) ⟨[(12,.clo 106 0 [.loc 4 0,.loc 1 0]),(2,I 0),(4,.clo 106 0 [.loc 4 0,.loc 1 0]),(6,.sl false 170 1 [[.clo 91 0 [.loc 3 0,.loc 1 0]],[.clo 92 0 [.loc 1 0,.loc 3 0]],[.clo 98 0 [.loc 1 0,.loc 3 0]],[.clo 101 0 [.loc 1 0,.loc 3 0]],[.clo 104 0 [.loc 4 0,.loc 1 0]],[.clo 105 0 [.loc 4 0,.loc 1 0]],[.clo 106 0 [.loc 4 0,.loc 1 0]],[.clo 107 0 [.loc 4 0,.loc 1 0]],[.clo 108 0 [.loc 4 0,.loc 1 0]],[.clo 109 0 [.loc 1 0,.loc 3 0]],[.clo 113 0 [.loc 1 0]],[.clo 117 0 [.loc 1 0]]]),(7,I 12),(8,I 6),(9,B true),(10,.ref [.clo 106 0 [.loc 4 0,.loc 1 0]]),(11,.clo 106 0 [.loc 4 0,.loc 1 0])],[(1,(Ae p1_0)),(3,[.mp 5]),(4,[.clo 88 0 [.loc 3 0]]),(5,[.mapO false false (.t9 o50.2.1) (.t4 o50.2.2)])],1006⟩ (some 13) (fun st9=>(Bz (EV (C9 L) (L+24) 8 g7.u.l.u.l.l.w.l.l.u.r) (Bs 1 (Bz (EV (C9 L) (L+24) 8 g7.u.l.u.l.l.w.r) (H6 (Kj (EV (C9 L) (L+24) 8 g7.u.l.u.l.l) [0,2,6,7,8] [1,3,4,5] (L+17)) [0,2,6,7,8] [1,3,4,5] (Z4 L k))))) .normal st9)))) .normal st9)))) .normal st9))
theorem Bcd(p1_0:Aa)(o50:Co)(o51:Co):Abe p1_0.Tallies p1_0 o50.2.1 o50.2.2 (At0 L k p1_0 o50) o51=ob (Uw L p1_0 o51) (Vh p1_0 k):=eE (U8 L p1_0 o51 (fun o51=>ho (Ag5 L (At1 L k p1_0 o51) p1_0.Levels p1_0 o51.2.1 o51.2.2) fun o52=>Bce L k p1_0 o51 o52))
def U7 [An A Co](L:Nat)(p1_0:Aa)(o50:Co)(nx100:Co→A):A:=
 (cn (o50.1 != 0)
 (lf (o50.1,o50.2.1,o50.2.2))
 (gq ((0:Int)≤6)
 (gq (6 < ((12:Nat):Int))
 (nx100 o50))))
def Wt [An A Co](p1_0:Aa)(o50:Co):A:=U7 L p1_0 o50 (fun o50=>bd (Ht L p1_0.Tallies p1_0 o50.2.1 o50.2.2) fun o51=>Uw L p1_0 o51)
def A07(p1_0:Aa)(o49:Co):Bn:=(Bx Tryz.prog (C9 L) (EI (C9 L) (L+24) 6) 1 (List.drop 4 c88.u.l.ops) ⟨[(6,.clo 59 1 [.mp 5]),(5,.mp 5),(4,lv (.t9 p1_0.Streams)),(0,lv (.t9 p1_0.Streams)),(1,.loc 3 0),(3,I 0)],[(1,(Ae p1_0)),(3,[.mp 5]),(4,[.clo 88 0 [.loc 3 0]]),(5,[.mapO false false (.t9 o49.2.1) (.t4 o49.2.2)])],1006⟩ (some 7) (fun st9=>(Bz (EV (C9 L) (L+24) 6 c88.u.r) (Dg Tryz.prog (RS Tryz.f88) (Bx Tryz.prog (C9 L) (EI (C9 L) (L+24) 7) 1 (List.drop 4 Bjq.u.l.ops) ⟨[(5,lv (.t9 p1_0.Streams)),(4,.loc 1 6),(3,.clo 88 0 [.loc 3 0]),(0,.loc 4 0),(1,.loc 1 0),(2,I 0)],[(1,(Ae p1_0)),(3,[.mp 5]),(4,[.clo 88 0 [.loc 3 0]]),(5,[.mapO false false (.t9 o49.2.1) (.t4 o49.2.2)])],1006⟩ (some 6) (fun st9=>(Bz (EV (C9 L) (L+24) 7 Bjq.u.r) (Dg Tryz.prog (RS Tryz.f105) (Bx Tryz.prog (C9 L) (EI (C9 L) (L+24) 8) 1 (List.drop 2 g7.u.l.u.l.l.w.l.l.u.l.ops) ⟨[(12,.clo 105 0 [.loc 4 0,.loc 1 0]),(2,I 0),(4,.clo 105 0 [.loc 4 0,.loc 1 0]),(6,.sl false 170 1 [[.clo 91 0 [.loc 3 0,.loc 1 0]],[.clo 92 0 [.loc 1 0,.loc 3 0]],[.clo 98 0 [.loc 1 0,.loc 3 0]],[.clo 101 0 [.loc 1 0,.loc 3 0]],[.clo 104 0 [.loc 4 0,.loc 1 0]],[.clo 105 0 [.loc 4 0,.loc 1 0]],[.clo 106 0 [.loc 4 0,.loc 1 0]],[.clo 107 0 [.loc 4 0,.loc 1 0]],[.clo 108 0 [.loc 4 0,.loc 1 0]],[.clo 109 0 [.loc 1 0,.loc 3 0]],[.clo 113 0 [.loc 1 0]],[.clo 117 0 [.loc 1 0]]]),(7,I 12),(8,I 5),(9,B true),(10,.ref [.clo 105 0 [.loc 4 0,.loc 1 0]]),(11,.clo 105 0 [.loc 4 0,.loc 1 0])],[(1,(Ae p1_0)),(3,[.mp 5]),(4,[.clo 88 0 [.loc 3 0]]),(5,[.mapO false false (.t9 o49.2.1) (.t4 o49.2.2)])],1006⟩ (some 13) (fun st9=>(Bz (EV (C9 L) (L+24) 8 g7.u.l.u.l.l.w.l.l.u.r) (Bs 1 (Bz (EV (C9 L) (L+24) 8 g7.u.l.u.l.l.w.r) (H6 (Kj (EV (C9 L) (L+24) 8 g7.u.l.u.l.l) [0,2,6,7,8] [1,3,4,5] (L+18)) [0,2,6,7,8] [1,3,4,5] (Z4 L k))))) .normal st9)))) .normal st9)))) .normal st9))
theorem Bil(p1_0:Aa)(o49:Co)(o50:Co):Abe p1_0.Streams p1_0 o49.2.1 o49.2.2 (A07 L k p1_0 o49) o50=ob (Wt L p1_0 o50) (Vh p1_0 k):=eE (U7 L p1_0 o50 (fun o50=>ho (Ag5 L (At0 L k p1_0 o50) p1_0.Tallies p1_0 o50.2.1 o50.2.2) fun o51=>Bcd L k p1_0 o50 o51))
def W5 [An A Co](L:Nat)(p1_0:Aa)(o49:Co)(nx99:Co→A):A:=
 (cn (o49.1 != 0)
 (lf (o49.1,o49.2.1,o49.2.2))
 (gq ((0:Int)≤5)
 (gq (5 < ((12:Nat):Int))
 (nx99 o49))))
def Ws [An A Co](p1_0:Aa)(o49:Co):A:=W5 L p1_0 o49 (fun o49=>bd (Ht L p1_0.Streams p1_0 o49.2.1 o49.2.2) fun o50=>Wt L p1_0 o50)
def A06(p1_0:Aa)(o42:Co):Bn:=(Bx Tryz.prog (C9 L) (EI (C9 L) (L+24) 6) 1 (List.drop 4 c88.u.l.ops) ⟨[(6,.clo 59 1 [.mp 5]),(5,.mp 5),(4,lv (.t9 p1_0.Queues)),(0,lv (.t9 p1_0.Queues)),(1,.loc 3 0),(3,I 0)],[(1,(Ae p1_0)),(3,[.mp 5]),(4,[.clo 88 0 [.loc 3 0]]),(5,[.mapO false false (.t9 o42.2.1) (.t4 o42.2.2)])],1006⟩ (some 7) (fun st9=>(Bz (EV (C9 L) (L+24) 6 c88.u.r) (Dg Tryz.prog (RS Tryz.f88) (Bx Tryz.prog (C9 L) (EI (C9 L) (L+24) 7) 1 (List.drop 4 Bjp.u.l.ops) ⟨[(5,lv (.t9 p1_0.Queues)),(4,.loc 1 5),(3,.clo 88 0 [.loc 3 0]),(0,.loc 4 0),(1,.loc 1 0),(2,I 0)],[(1,(Ae p1_0)),(3,[.mp 5]),(4,[.clo 88 0 [.loc 3 0]]),(5,[.mapO false false (.t9 o42.2.1) (.t4 o42.2.2)])],1006⟩ (some 6) (fun st9=>(Bz (EV (C9 L) (L+24) 7 Bjp.u.r) (Dg Tryz.prog (RS Tryz.f104) (Bx Tryz.prog (C9 L) (EI (C9 L) (L+24) 8) 1 (List.drop 2 g7.u.l.u.l.l.w.l.l.u.l.ops) ⟨[(12,.clo 104 0 [.loc 4 0,.loc 1 0]),(2,I 0),(4,.clo 104 0 [.loc 4 0,.loc 1 0]),(6,.sl false 170 1 [[.clo 91 0 [.loc 3 0,.loc 1 0]],[.clo 92 0 [.loc 1 0,.loc 3 0]],[.clo 98 0 [.loc 1 0,.loc 3 0]],[.clo 101 0 [.loc 1 0,.loc 3 0]],[.clo 104 0 [.loc 4 0,.loc 1 0]],[.clo 105 0 [.loc 4 0,.loc 1 0]],[.clo 106 0 [.loc 4 0,.loc 1 0]],[.clo 107 0 [.loc 4 0,.loc 1 0]],[.clo 108 0 [.loc 4 0,.loc 1 0]],[.clo 109 0 [.loc 1 0,.loc 3 0]],[.clo 113 0 [.loc 1 0]],[.clo 117 0 [.loc 1 0]]]),(7,I 12),(8,I 4),(9,B true),(10,.ref [.clo 104 0 [.loc 4 0,.loc 1 0]]),(11,.clo 104 0 [.loc 4 0,.loc 1 0])],[(1,(Ae p1_0)),(3,[.mp 5]),(4,[.clo 88 0 [.loc 3 0]]),(5,[.mapO false false (.t9 o42.2.1) (.t4 o42.2.2)])],1006⟩ (some 13) (fun st9=>(Bz (EV (C9 L) (L+24) 8 g7.u.l.u.l.l.w.l.l.u.r) (Bs 1 (Bz (EV (C9 L) (L+24) 8 g7.u.l.u.l.l.w.r) (H6 (Kj (EV (C9 L) (L+24) 8 g7.u.l.u.l.l) [0,2,6,7,8] [1,3,4,5] (L+19)) [0,2,6,7,8] [1,3,4,5] (Z4 L k))))) .normal st9)))) .normal st9)))) .normal st9))
theorem Bik(p1_0:Aa)(o42:Co)(o49:Co):Abe p1_0.Queues p1_0 o42.2.1 o42.2.2 (A06 L k p1_0 o42) o49=ob (Ws L p1_0 o49) (Vh p1_0 k):=eE (W5 L p1_0 o49 (fun o49=>ho (Ag5 L (A07 L k p1_0 o49) p1_0.Streams p1_0 o49.2.1 o49.2.2) fun o50=>Bil L k p1_0 o49 o50))
def W4 [An A Co](L:Nat)(p1_0:Aa)(o42:Co)(nx98:Co→A):A:=
 (cn (o42.1 != 0)
 (lf (o42.1,o42.2.1,o42.2.2))
 (gq ((0:Int)≤4)
 (gq (4 < ((12:Nat):Int))
 (nx98 o42))))
def Wq [An A Co](p1_0:Aa)(o42:Co):A:=W4 L p1_0 o42 (fun o42=>bd (Ht L p1_0.Queues p1_0 o42.2.1 o42.2.2) fun o49=>Ws L p1_0 o49)
def A03(p1_0:Aa)(o31:Co):Bn:=(Bx Tryz.prog (C9 L) (EI (C9 L) (L+24) 7) 1 (List.drop 4 Bjo.u.l.ops) ⟨[(5,.clo 103 0 [.loc 3 0]),(4,lv (.t178 p1_0.Belts)),(3,.loc 1 4),(0,.loc 1 0),(1,.loc 3 0),(2,I 0)],[(1,(Ae p1_0)),(3,[.mp 5]),(4,[.clo 88 0 [.loc 3 0]]),(5,[.mapO false false (.t9 o31.2.1) (.t4 o31.2.2)])],1006⟩ (some 6) (fun st9=>(Bz (EV (C9 L) (L+24) 7 Bjo.u.r) (Dg Tryz.prog (RS Tryz.f101) (Bx Tryz.prog (C9 L) (EI (C9 L) (L+24) 8) 1 (List.drop 2 g7.u.l.u.l.l.w.l.l.u.l.ops) ⟨[(12,.clo 101 0 [.loc 1 0,.loc 3 0]),(2,I 0),(4,.clo 101 0 [.loc 1 0,.loc 3 0]),(6,.sl false 170 1 [[.clo 91 0 [.loc 3 0,.loc 1 0]],[.clo 92 0 [.loc 1 0,.loc 3 0]],[.clo 98 0 [.loc 1 0,.loc 3 0]],[.clo 101 0 [.loc 1 0,.loc 3 0]],[.clo 104 0 [.loc 4 0,.loc 1 0]],[.clo 105 0 [.loc 4 0,.loc 1 0]],[.clo 106 0 [.loc 4 0,.loc 1 0]],[.clo 107 0 [.loc 4 0,.loc 1 0]],[.clo 108 0 [.loc 4 0,.loc 1 0]],[.clo 109 0 [.loc 1 0,.loc 3 0]],[.clo 113 0 [.loc 1 0]],[.clo 117 0 [.loc 1 0]]]),(7,I 12),(8,I 3),(9,B true),(10,.ref [.clo 101 0 [.loc 1 0,.loc 3 0]]),(11,.clo 101 0 [.loc 1 0,.loc 3 0])],[(1,(Ae p1_0)),(3,[.mp 5]),(4,[.clo 88 0 [.loc 3 0]]),(5,[.mapO false false (.t9 o31.2.1) (.t4 o31.2.2)])],1006⟩ (some 13) (fun st9=>(Bz (EV (C9 L) (L+24) 8 g7.u.l.u.l.l.w.l.l.u.r) (Bs 1 (Bz (EV (C9 L) (L+24) 8 g7.u.l.u.l.l.w.r) (H6 (Kj (EV (C9 L) (L+24) 8 g7.u.l.u.l.l) [0,2,6,7,8] [1,3,4,5] (L+20)) [0,2,6,7,8] [1,3,4,5] (Z4 L k))))) .normal st9)))) .normal st9))
theorem Bih(p1_0:Aa)(o31:Co)(o42:Co):Ap9 p1_0.Belts p1_0 o31.2.1 o31.2.2 (A03 L k p1_0 o31) o42=ob (Wq L p1_0 o42) (Vh p1_0 k):=eE (W4 L p1_0 o42 (fun o42=>ho (Ag5 L (A06 L k p1_0 o42) p1_0.Queues p1_0 o42.2.1 o42.2.2) fun o49=>Bik L k p1_0 o42 o49))
def W3 [An A Co](L:Nat)(p1_0:Aa)(o31:Co)(nx93:Co→A):A:=
 (cn (o31.1 != 0)
 (lf (o31.1,o31.2.1,o31.2.2))
 (gq ((0:Int)≤3)
 (gq (3 < ((12:Nat):Int))
 (nx93 o31))))
def Wo [An A Co](p1_0:Aa)(o31:Co):A:=W3 L p1_0 o31 (fun o31=>bd (V6 L p1_0.Belts p1_0 o31.2.1 o31.2.2) fun o42=>Wq L p1_0 o42)
def A0z(p1_0:Aa)(o21:Co):Bn:=(Bx Tryz.prog (C9 L) (EI (C9 L) (L+24) 7) 1 (List.drop 4 c98.u.l.ops) ⟨[(5,.clo 100 0 [.loc 3 0]),(4,lv (.t89 p1_0.Stores)),(3,.loc 1 3),(0,.loc 1 0),(1,.loc 3 0),(2,I 0)],[(1,(Ae p1_0)),(3,[.mp 5]),(4,[.clo 88 0 [.loc 3 0]]),(5,[.mapO false false (.t9 o21.2.1) (.t4 o21.2.2)])],1006⟩ (some 6) (fun st9=>(Bz (EV (C9 L) (L+24) 7 c98.u.r) (Dg Tryz.prog (RS Tryz.f98) (Bx Tryz.prog (C9 L) (EI (C9 L) (L+24) 8) 1 (List.drop 2 g7.u.l.u.l.l.w.l.l.u.l.ops) ⟨[(12,.clo 98 0 [.loc 1 0,.loc 3 0]),(2,I 0),(4,.clo 98 0 [.loc 1 0,.loc 3 0]),(6,.sl false 170 1 [[.clo 91 0 [.loc 3 0,.loc 1 0]],[.clo 92 0 [.loc 1 0,.loc 3 0]],[.clo 98 0 [.loc 1 0,.loc 3 0]],[.clo 101 0 [.loc 1 0,.loc 3 0]],[.clo 104 0 [.loc 4 0,.loc 1 0]],[.clo 105 0 [.loc 4 0,.loc 1 0]],[.clo 106 0 [.loc 4 0,.loc 1 0]],[.clo 107 0 [.loc 4 0,.loc 1 0]],[.clo 108 0 [.loc 4 0,.loc 1 0]],[.clo 109 0 [.loc 1 0,.loc 3 0]],[.clo 113 0 [.loc 1 0]],[.clo 117 0 [.loc 1 0]]]),(7,I 12),(8,I 2),(9,B true),(10,.ref [.clo 98 0 [.loc 1 0,.loc 3 0]]),(11,.clo 98 0 [.loc 1 0,.loc 3 0])],[(1,(Ae p1_0)),(3,[.mp 5]),(4,[.clo 88 0 [.loc 3 0]]),(5,[.mapO false false (.t9 o21.2.1) (.t4 o21.2.2)])],1006⟩ (some 13) (fun st9=>(Bz (EV (C9 L) (L+24) 8 g7.u.l.u.l.l.w.l.l.u.r) (Bs 1 (Bz (EV (C9 L) (L+24) 8 g7.u.l.u.l.l.w.r) (H6 (Kj (EV (C9 L) (L+24) 8 g7.u.l.u.l.l) [0,2,6,7,8] [1,3,4,5] (L+21)) [0,2,6,7,8] [1,3,4,5] (Z4 L k))))) .normal st9)))) .normal st9))
theorem Bid(p1_0:Aa)(o21:Co)(o31:Co):Ap7 p1_0.Stores p1_0 o21.2.1 o21.2.2 (A0z L k p1_0 o21) o31=ob (Wo L p1_0 o31) (Vh p1_0 k):=eE (W3 L p1_0 o31 (fun o31=>ho (Bat L (A03 L k p1_0 o31) p1_0.Belts p1_0 o31.2.1 o31.2.2) fun o42=>Bih L k p1_0 o31 o42))
def W2 [An A Co](L:Nat)(p1_0:Aa)(o21:Co)(nx84:Co→A):A:=
 (cn (o21.1 != 0)
 (lf (o21.1,o21.2.1,o21.2.2))
 (gq ((0:Int)≤2)
 (gq (2 < ((12:Nat):Int))
 (nx84 o21))))
def Wm [An A Co](p1_0:Aa)(o21:Co):A:=W2 L p1_0 o21 (fun o21=>bd (V4 L p1_0.Stores p1_0 o21.2.1 o21.2.2) fun o31=>Wo L p1_0 o31)
def A0v(p1_0:Aa)(o10:Co):Bn:=(Bx Tryz.prog (C9 L) (EI (C9 L) (L+24) 7) 1 (List.drop 4 c92.u.l.ops) ⟨[(5,.clo 94 0 [.loc 3 0,.loc 1 0]),(4,lv (.t86 p1_0.Resources)),(3,.loc 1 2),(0,.loc 1 0),(1,.loc 3 0),(2,I 0)],[(1,(Ae p1_0)),(3,[.mp 5]),(4,[.clo 88 0 [.loc 3 0]]),(5,[.mapO false false (.t9 o10.2.1) (.t4 o10.2.2)])],1006⟩ (some 6) (fun st9=>(Bz (EV (C9 L) (L+24) 7 c92.u.r) (Dg Tryz.prog (RS Tryz.f92) (Bx Tryz.prog (C9 L) (EI (C9 L) (L+24) 8) 1 (List.drop 2 g7.u.l.u.l.l.w.l.l.u.l.ops) ⟨[(12,.clo 92 0 [.loc 1 0,.loc 3 0]),(2,I 0),(4,.clo 92 0 [.loc 1 0,.loc 3 0]),(6,.sl false 170 1 [[.clo 91 0 [.loc 3 0,.loc 1 0]],[.clo 92 0 [.loc 1 0,.loc 3 0]],[.clo 98 0 [.loc 1 0,.loc 3 0]],[.clo 101 0 [.loc 1 0,.loc 3 0]],[.clo 104 0 [.loc 4 0,.loc 1 0]],[.clo 105 0 [.loc 4 0,.loc 1 0]],[.clo 106 0 [.loc 4 0,.loc 1 0]],[.clo 107 0 [.loc 4 0,.loc 1 0]],[.clo 108 0 [.loc 4 0,.loc 1 0]],[.clo 109 0 [.loc 1 0,.loc 3 0]],[.clo 113 0 [.loc 1 0]],[.clo 117 0 [.loc 1 0]]]),(7,I 12),(8,I 1),(9,B true),(10,.ref [.clo 92 0 [.loc 1 0,.loc 3 0]]),(11,.clo 92 0 [.loc 1 0,.loc 3 0])],[(1,(Ae p1_0)),(3,[.mp 5]),(4,[.clo 88 0 [.loc 3 0]]),(5,[.mapO false false (.t9 o10.2.1) (.t4 o10.2.2)])],1006⟩ (some 13) (fun st9=>(Bz (EV (C9 L) (L+24) 8 g7.u.l.u.l.l.w.l.l.u.r) (Bs 1 (Bz (EV (C9 L) (L+24) 8 g7.u.l.u.l.l.w.r) (H6 (Kj (EV (C9 L) (L+24) 8 g7.u.l.u.l.l) [0,2,6,7,8] [1,3,4,5] (L+22)) [0,2,6,7,8] [1,3,4,5] (Z4 L k))))) .normal st9)))) .normal st9))
theorem Bh9(p1_0:Aa)(o10:Co)(o21:Co):Ap5 p1_0.Resources p1_0 o10.2.1 o10.2.2 (A0v L k p1_0 o10) o21=ob (Wm L p1_0 o21) (Vh p1_0 k):=eE (W2 L p1_0 o21 (fun o21=>ho (Baq L (A0z L k p1_0 o21) p1_0.Stores p1_0 o21.2.1 o21.2.2) fun o31=>Bid L k p1_0 o21 o31))
def W1 [An A Co](L:Nat)(p1_0:Aa)(o10:Co)(nx75:Co→A):A:=
 (cn (o10.1 != 0)
 (lf (o10.1,o10.2.1,o10.2.2))
 (gq ((0:Int)≤1)
 (gq (1 < ((12:Nat):Int))
 (nx75 o10))))
def Wk [An A Co](p1_0:Aa)(o10:Co):A:=W1 L p1_0 o10 (fun o10=>bd (V2 L p1_0.Resources p1_0 o10.2.1 o10.2.2) fun o21=>Wm L p1_0 o21)
def A0r(p1_0:Aa):Bn:=(Bx Tryz.prog (C9 L) (EI (C9 L) (L+24) 6) 1 (List.drop 4 c56.u.l.ops) ⟨[(7,.clo 87 1 [.mp 5]),(6,.mp 5),(5,lv (.t123 p1_0.Vars)),(0,.mp 5),(1,lv (.t123 p1_0.Vars)),(4,I 0)],[(1,(Ae p1_0)),(3,[.mp 5]),(4,[.clo 88 0 [.loc 3 0]]),(5,[.mapO false false (.t9 []) (.t4 [])])],1006⟩ (some 8) (fun st9=>(Bz (EV (C9 L) (L+24) 6 c56.u.r) (Dg Tryz.prog (RS Tryz.f56) (Bx Tryz.prog (C9 L) (EI (C9 L) (L+24) 7) 1 (List.drop 4 c91.u.l.ops) ⟨[(5,lv (.t123 p1_0.Vars)),(4,.loc 1 1),(3,.mp 5),(0,.loc 3 0),(1,.loc 1 0),(2,I 0)],[(1,(Ae p1_0)),(3,[.mp 5]),(4,[.clo 88 0 [.loc 3 0]]),(5,[.mapO false false (.t9 []) (.t4 [])])],1006⟩ (some 6) (fun st9=>(Bz (EV (C9 L) (L+24) 7 c91.u.r) (Dg Tryz.prog (RS Tryz.f91) (Bx Tryz.prog (C9 L) (EI (C9 L) (L+24) 8) 1 (List.drop 2 g7.u.l.u.l.l.w.l.l.u.l.ops) ⟨[(12,.clo 91 0 [.loc 3 0,.loc 1 0]),(2,I 0),(4,.clo 91 0 [.loc 3 0,.loc 1 0]),(6,.sl false 170 1 [[.clo 91 0 [.loc 3 0,.loc 1 0]],[.clo 92 0 [.loc 1 0,.loc 3 0]],[.clo 98 0 [.loc 1 0,.loc 3 0]],[.clo 101 0 [.loc 1 0,.loc 3 0]],[.clo 104 0 [.loc 4 0,.loc 1 0]],[.clo 105 0 [.loc 4 0,.loc 1 0]],[.clo 106 0 [.loc 4 0,.loc 1 0]],[.clo 107 0 [.loc 4 0,.loc 1 0]],[.clo 108 0 [.loc 4 0,.loc 1 0]],[.clo 109 0 [.loc 1 0,.loc 3 0]],[.clo 113 0 [.loc 1 0]],[.clo 117 0 [.loc 1 0]]]),(7,I 12),(8,I 0),(9,B true),(10,.ref [.clo 91 0 [.loc 3 0,.loc 1 0]]),(11,.clo 91 0 [.loc 3 0,.loc 1 0])],[(1,(Ae p1_0)),(3,[.mp 5]),(4,[.clo 88 0 [.loc 3 0]]),(5,[.mapO false false (.t9 []) (.t4 [])])],1006⟩ (some 13) (fun st9=>(Bz (EV (C9 L) (L+24) 8 g7.u.l.u.l.l.w.l.l.u.r) (Bs 1 (Bz (EV (C9 L) (L+24) 8 g7.u.l.u.l.l.w.r) (H6 (Kj (EV (C9 L) (L+24) 8 g7.u.l.u.l.l) [0,2,6,7,8] [1,3,4,5] (L+23)) [0,2,6,7,8] [1,3,4,5] (Z4 L k))))) .normal st9)))) .normal st9)))) .normal st9))
theorem Bh5(p1_0:Aa)(o10:Co):Ap3 p1_0.Vars p1_0 (A0r L k p1_0) o10=ob (Wk L p1_0 o10) (Vh p1_0 k):=eE (W1 L p1_0 o10 (fun o10=>ho (Ban L (A0v L k p1_0 o10) p1_0.Resources p1_0 o10.2.1 o10.2.2) fun o21=>Bh9 L k p1_0 o10 o21))
def W0 [An A Co](L:Nat)(p1_0:Aa)(nx66:A):A:=
 (gq ((0:Int)≤0)
 (gq (0 < ((12:Nat):Int))
 nx66))
def Ack [An A Co](p1_0:Aa):A:=W0 L p1_0 (bd (V0 L p1_0.Vars p1_0) fun o10=>Wk L p1_0 o10)
def Sj(p1_0:Aa):Option Co:=Ack L p1_0
theorem Bfp(p1_0:Aa):YO (C9 L) (L+24) 9 90 [.sl false 170 1 [[.clo 91 0 [.loc 3 0,.loc 1 0]],[.clo 92 0 [.loc 1 0,.loc 3 0]],[.clo 98 0 [.loc 1 0,.loc 3 0]],[.clo 101 0 [.loc 1 0,.loc 3 0]],[.clo 104 0 [.loc 4 0,.loc 1 0]],[.clo 105 0 [.loc 4 0,.loc 1 0]],[.clo 106 0 [.loc 4 0,.loc 1 0]],[.clo 107 0 [.loc 4 0,.loc 1 0]],[.clo 108 0 [.loc 4 0,.loc 1 0]],[.clo 109 0 [.loc 1 0,.loc 3 0]],[.clo 113 0 [.loc 1 0]],[.clo 117 0 [.loc 1 0]]]] [(1,(Ae p1_0)),(3,[.mp 5]),(4,[.clo 88 0 [.loc 3 0]]),(5,[.mapO false false (.t9 []) (.t4 [])])] k=ob (Sj L p1_0) (Vh p1_0 k):=(C6 _ _ _ y9 _ _ _ _ _ _ _).trans (eE (W0 L p1_0 (ho (Bak L (A0r L k p1_0) p1_0.Vars p1_0) fun o10=>Bh5 L k p1_0 o10)))
def Lw [An A Int](L:Nat)(o67:Co):A:=
 (lf o67.1)
def At9(a0:Aa):Bn:=(Bx Tryz.prog (C9 L) (EI (C9 L) (L+24) 9) 1 (List.drop 14 c60.w.u.l.ops) ⟨[(19,.sl true 170 1 [[.clo 91 0 [.loc 3 0,.loc 1 0]],[.clo 92 0 [.loc 1 0,.loc 3 0]],[.clo 98 0 [.loc 1 0,.loc 3 0]],[.clo 101 0 [.loc 1 0,.loc 3 0]],[.clo 104 0 [.loc 4 0,.loc 1 0]],[.clo 105 0 [.loc 4 0,.loc 1 0]],[.clo 106 0 [.loc 4 0,.loc 1 0]],[.clo 107 0 [.loc 4 0,.loc 1 0]],[.clo 108 0 [.loc 4 0,.loc 1 0]],[.clo 109 0 [.loc 1 0,.loc 3 0]],[.clo 113 0 [.loc 1 0]],[.clo 117 0 [.loc 1 0]]]),(18,.clo 117 0 [.loc 1 0]),(17,.clo 113 0 [.loc 1 0]),(16,.clo 109 0 [.loc 1 0,.loc 3 0]),(15,.clo 108 0 [.loc 4 0,.loc 1 0]),(14,.clo 107 0 [.loc 4 0,.loc 1 0]),(13,.clo 106 0 [.loc 4 0,.loc 1 0]),(12,.clo 105 0 [.loc 4 0,.loc 1 0]),(11,.clo 104 0 [.loc 4 0,.loc 1 0]),(10,.clo 101 0 [.loc 1 0,.loc 3 0]),(9,.clo 98 0 [.loc 1 0,.loc 3 0]),(8,.clo 92 0 [.loc 1 0,.loc 3 0]),(7,.clo 91 0 [.loc 3 0,.loc 1 0]),(1,.loc 1 0),(2,I 0),(3,.loc 3 0),(4,.loc 4 0)],[(1,(Ae a0)),(3,[.mp 5]),(4,[.clo 88 0 [.loc 3 0]]),(5,[.mapO false false (.t9 []) (.t4 [])])],0⟩ (some 20) (fun st9=>(Bz (EV (C9 L) (L+24) 9 c60.w.u.r) (Kb Tryz.prog (RS Tryz.f60) kk)) .normal st9))
theorem Bcm(a0:Aa)(o67:Co):Vh a0 (At9 L kk a0) o67=ob (Lw L o67) (kQ I kk):=eE (Lw L o67)
def Agk [An A Int](a0:Aa):A:=(bd (Sj L a0) fun o67=>Lw L o67)
def Y1(a0:Aa):Option Int:=Agk L a0
def X60:Qi:=E1 I 60 K2 (Y1 L) fun a0 r h=>hF Tryz.func60 (C:=C9 L) (oS _) (L+24) (fun kk=>eE ((ho (Bfp L (At9 L kk a0) a0) fun o67=>Bcm L kk a0 o67))) h
end
end Go.Proofs.YthjhkpgonleelaaGreatDoor.Ev
