import Derived.Test.YthjhkpgonleelaaGreatDoorAG1
import Derived.Test.YthjhkpgonleelaaGreatDoorAG2
import Derived.Test.YthjhkpgonleelaaGreatDoorAG3
namespace Go.Proofs.YthjhkpgonleelaaGreatDoor.Ev
open Go An
set_option maxRecDepth 100000
set_option maxHeartbeats 4000000
set_option linter.unusedVariables false
set_option linter.unusedSimpArgs false
set_option linter.unnecessarySimpa false
noncomputable section
variable {A:Type} (L n:Nat) (kk:Cc) (K:Bg) (k:Bu)
def c56:=CC Tryz.f56
def c86:=CC Tryz.f86
def c87:=CC Tryz.f87
def c88:=CC Tryz.f88
def c89:=CC Tryz.f89
def V0:=CC Tryz.f90
def c91:=CC Tryz.f91
def c92:=CC Tryz.f92
def c93:=CC Tryz.f93
def c94:=CC Tryz.f94
def c98:=CC Tryz.f98
def c99:=CC Tryz.f99
def Bmn:=CC Tryz.f100
def Btq:=CC Tryz.f101
def A7p:=CC Tryz.f102
def Bmo:=CC Tryz.f103
def Btr:=CC Tryz.f104
def Bts:=CC Tryz.f105
def Btt:=CC Tryz.f106
def Btu:=CC Tryz.f107
def Btv:=CC Tryz.f108
def Btw:=CC Tryz.f109
def A7q:=CC Tryz.f110
def Bmp:=CC Tryz.f111
def Btx:=CC Tryz.f113
def Bty:=CC Tryz.f114
def c60:=CC Tryz.f60
def C2:Bi:=oL [X35 L,X95 L,X96 L,X97 L,Br9 L,Bsa L,Bsb L,Bfl L,Bfm L]
def Ud:Bg:=(Bb 0 (Bp (EV (C2 L) (L+24) 8 V0.u.r) (Cx Tryz.prog (RS Tryz.f90) k)))
def A2e(p47_0:ByteArray)(p47_1:Aa)(p47_2:List ByteArray)(p47_3:List Bool)(p47_4:Av)(p47_5:Av)(k:Bu):Cj→Prop:=fun o=>k (I o.1) [(1,(Ad p47_1)),(3,[.mp 5]),(4,[.clo 88 0 [.loc 3 0]]),(5,[.mapO false false (.t9 o.2.1) (.t4 o.2.2)]),(1014,(B9 p47_4)),(2018,(B9 p47_5))]
def Zb [An A Cj](p47_0:ByteArray)(p47_1:Aa)(p47_2:List ByteArray)(p47_3:List Bool)(p47_4:Av)(p47_5:Av):A:=
 (bd (Cy L p47_0) fun r1=>
 (cn (r1 != 0)
 (lf (r1,p47_2,p47_3))
 (fq (p47_2.findIdx? fun b=>p47_0 == b) (fun i2=>
 (cn (p47_3.getD i2 default)
 (lf (4,p47_2,p47_3))
 (fq (p47_2.findIdx? fun b=>p47_0 == b) (fun i3=>
 (lf (0,p47_2,(p47_3.set i3 true))))
 (lf (0,(p47_2++ [p47_0]),(p47_3++ [true]))))))
 (fq (p47_2.findIdx? fun b=>p47_0 == b) (fun i4=>
 (lf (0,p47_2,(p47_3.set i4 true))))
 (lf (0,(p47_2++ [p47_0]),(p47_3++ [true])))))))
def Zu(p47_0:ByteArray)(p47_1:Aa)(p47_2:List ByteArray)(p47_3:List Bool)(p47_4:Av)(p47_5:Av):Option Cj:=Zb L p47_0 p47_1 p47_2 p47_3 p47_4 p47_5
theorem Bhp(p47_0:ByteArray)(p47_1:Aa)(p47_2:List ByteArray)(p47_3:List Bool)(p47_4:Av)(p47_5:Av):YO (C2 L) (L+24) 4 59 [.mp 5,S p47_0] [(1,(Ad p47_1)),(3,[.mp 5]),(4,[.clo 88 0 [.loc 3 0]]),(5,[.mapO false false (.t9 p47_2) (.t4 p47_3)]),(1014,(B9 p47_4)),(2018,(B9 p47_5))] k=ob (Zu L p47_0 p47_1 p47_2 p47_3 p47_4 p47_5) (A2e p47_0 p47_1 p47_2 p47_3 p47_4 p47_5 k):=(Cu _ _ _ Xu _ _ _ _ _ _ _).trans (eE (Zb L p47_0 p47_1 p47_2 p47_3 p47_4 p47_5))
def Atn(p45_0:Av)(p45_1:Aa)(p45_2:List ByteArray)(p45_3:List Bool)(p45_4:Av)(k:Bu):Cj→Prop:=fun o=>k (I o.1) [(1,(Ad p45_1)),(3,[.mp 5]),(4,[.clo 88 0 [.loc 3 0]]),(5,[.mapO false false (.t9 o.2.1) (.t4 o.2.2)]),(1014,(B9 p45_4)),(2018,(B9 p45_0))]
def Pi [An A Cj](p45_0:Av)(o5:Cj):A:=
 (cn (o5.1 != 0)
 (lf (o5.1,o5.2.1,o5.2.2))
 (bd (P2 L p45_0.Type_) fun r6=>
 (cn (!r6)
 (lf (1,o5.2.1,o5.2.2))
 (bd (S2 L p45_0.Type_ p45_0.N) fun r7=>
 (cn (!r7)
 (lf (2,o5.2.1,o5.2.2))
 (lf (0,o5.2.1,o5.2.2)))))))
def A47(p45_0:Av)(p45_1:Aa)(p45_2:List ByteArray)(p45_3:List Bool)(p45_4:Av):Bu:=(B2 Tryz.prog (C2 L) (EI (C2 L) (L+24) 4) 1 (List.drop 4 c87.u.l.l.ops) ⟨[(8,S p45_0.Name),(7,.loc 2018 0),(6,.mp 5),(0,.mp 5),(3,.loc 2018 0),(4,I 0)],[(1,(Ad p45_1)),(3,[.mp 5]),(4,[.clo 88 0 [.loc 3 0]]),(5,[.mapO false false (.t9 p45_2) (.t4 p45_3)]),(1014,(B9 p45_4)),(2018,(B9 p45_0))],2015⟩ (some 9) (fun st9=>(Bp (EV (C2 L) (L+24) 4 c87.u.l.r) (Bp (EV (C2 L) (L+24) 4 c87.u.r) (Cx Tryz.prog (RS Tryz.f87) k))) .normal st9))
theorem Bq3(p45_0:Av)(p45_1:Aa)(p45_2:List ByteArray)(p45_3:List Bool)(p45_4:Av)(o5:Cj):A2e p45_0.Name p45_1 p45_2 p45_3 p45_4 p45_0 (A47 L k p45_0 p45_1 p45_2 p45_3 p45_4) o5=ob (Pi L p45_0 o5) (Atn p45_0 p45_1 p45_2 p45_3 p45_4 k):=eE (Pi L p45_0 o5)
def Aks [An A Cj](p45_0:Av)(p45_1:Aa)(p45_2:List ByteArray)(p45_3:List Bool)(p45_4:Av):A:=(bd (Zu L p45_0.Name p45_1 p45_2 p45_3 p45_4 p45_0) fun o5=>Pi L p45_0 o5)
def Zt(p45_0:Av)(p45_1:Aa)(p45_2:List ByteArray)(p45_3:List Bool)(p45_4:Av):Option Cj:=Aks L p45_0 p45_1 p45_2 p45_3 p45_4
theorem Bho(p45_0:Av)(p45_1:Aa)(p45_2:List ByteArray)(p45_3:List Bool)(p45_4:Av):YO (C2 L) (L+24) 5 87 [.mp 5,.agg (B9 p45_0)] [(1,(Ad p45_1)),(3,[.mp 5]),(4,[.clo 88 0 [.loc 3 0]]),(5,[.mapO false false (.t9 p45_2) (.t4 p45_3)]),(1014,(B9 p45_4))] k=ob (Zt L p45_0 p45_1 p45_2 p45_3 p45_4) (Atn p45_0 p45_1 p45_2 p45_3 p45_4 k):=(Cu _ _ _ Xu _ _ _ _ _ _ _).trans (eE ((ho (Bhp L (A47 L k p45_0 p45_1 p45_2 p45_3 p45_4) p45_0.Name p45_1 p45_2 p45_3 p45_4 p45_0) fun o5=>Bq3 L k p45_0 p45_1 p45_2 p45_3 p45_4 o5)))
def A1p(p41_0:List Av)(p41_1:Aa)(v:T1):St:=⟨[(0,.any),(1,.any),(2,.clo 87 1 [.mp 5]),(6,I v.1),(14,lv (.t123 p41_0)),(15,I (p41_0.length:Int)),(16,I v.2.1)],[(1,(Ad p41_1)),(3,[.mp 5]),(4,[.clo 88 0 [.loc 3 0]]),(5,[.mapO false false (.t9 v.2.2.1) (.t4 v.2.2.2)])],1006⟩
def Pj [An A Hn](L:Nat)(Ag:Int)(Ar:Int)(rec:Int→Int→List ByteArray→List Bool→A)(o8:Cj):A:=
 (cn (o8.1 != 0)
 (lf (0,o8.1,Ag,o8.2.1,o8.2.2))
 (rec Ar (Bo (Ag+1)) o8.2.1 o8.2.2))
def n6 [An A Hn](L:Nat)(p41_0:List Av)(p41_1:Aa)(rec:Int→Int→List ByteArray→List Bool→A)(Ar:Int)(Ag:Int)(Ea:List ByteArray)(Eb:List Bool)(nx64:Int→(List ByteArray)→(List Bool)→Int→A):A:=
 (lw Ag p41_0
 (nx64 Ag Ea Eb Ar)
 (lf (1,Ar,Ag,Ea,Eb)))
def Aod [An A Hn](p41_0:List Av)(p41_1:Aa)(rec:Int→Int→List ByteArray→List Bool→A)(Ar:Int)(Ag:Int)(Ea:List ByteArray)(Eb:List Bool):A:=n6 L p41_0 p41_1 rec Ar Ag Ea Eb (fun Ag Ea Eb Ar=>bd (Zt L (p41_0.getD (Int.toNat Ag) default) p41_1 Ea Eb (p41_0.getD (Int.toNat Ag) default)) fun o8=>Pj L Ag Ar rec o8)
def Lh(L:Nat)(p41_0:List Av)(p41_1:Aa):Nat→Int→Int→List ByteArray→List Bool→Option Hn
 |0,_,_,_,_=>none
 |n+1,Ar,Ag,Ea,Eb=>Aod L p41_0 p41_1 (Lh L p41_0 p41_1 n) Ar Ag Ea Eb
def A9a(p41_0:List Av)(p41_1:Aa):Prop:=LI (EV (C2 L) (L+24) 5 c86.w.l.u.l.l) [0,1,2,6,14,15,16] [1,3,4,5] (A1p p41_0 p41_1) [.ret,.exit 0] (fun n v=>Lh L p41_0 p41_1 n v.1 v.2.1 v.2.2.1 v.2.2.2) K n
def A48(p41_0:List Av)(Ag:Int)(Ar:Int)(p41_1:Aa)(Ea:List ByteArray)(Eb:List Bool):Bu:=(B2 Tryz.prog (C2 L) (EI (C2 L) (L+24) 5) 1 (List.drop 3 c86.w.l.u.l.l.w.l.l.u.l.ops) ⟨[(21,.agg (B9 (p41_0.getD (Int.toNat Ag) default))),(20,.clo 87 1 [.mp 5]),(2,.clo 87 1 [.mp 5]),(6,I Ar),(8,.loc 1014 0),(14,lv (.t123 p41_0)),(15,I (p41_0.length:Int)),(16,I Ag),(17,B (decide (Ag < (p41_0.length:Int)))),(18,.ref (B9 (p41_0.getD (Int.toNat Ag) default))),(19,.agg (B9 (p41_0.getD (Int.toNat Ag) default)))],[(1,(Ad p41_1)),(3,[.mp 5]),(4,[.clo 88 0 [.loc 3 0]]),(5,[.mapO false false (.t9 Ea) (.t4 Eb)]),(1014,(B9 (p41_0.getD (Int.toNat Ag) default)))],1006⟩ (some 22) (fun st9=>(Bp (EV (C2 L) (L+24) 5 c86.w.l.u.l.l.w.l.l.u.r) (Bb 1 (Bp (EV (C2 L) (L+24) 5 c86.w.l.u.l.l.w.r) (D4 (Ep (EV (C2 L) (L+24) 5 c86.w.l.u.l.l) [0,1,2,6,14,15,16] [1,3,4,5] n) [0,1,2,6,14,15,16] [1,3,4,5] K)))) .normal st9))
theorem Bq4(p41_0:List Av)(Ag:Int)(p41_1:Aa)(Ea:List ByteArray)(Eb:List Bool)(Ar:Int)(ih:A9a L n K p41_0 p41_1)(o8:Cj):Atn (p41_0.getD (Int.toNat Ag) default) p41_1 Ea Eb (p41_0.getD (Int.toNat Ag) default) (A48 L n K p41_0 Ag Ar p41_1 Ea Eb) o8=ob (Pj L Ag Ar (Lh L p41_0 p41_1 n) o8) (kX [.ret,.exit 0] (A1p p41_0 p41_1) K):=eE (Pj L Ag Ar (fun Ar Ag Ea Eb=>re (ih (Ar,Ag,Ea,Eb))) o8)
theorem Bom(p41_0:List Av)(p41_1:Aa):∀n,A9a L n K p41_0 p41_1:=lE (fun _=>rfl) fun n v ih=>eE (n6 L p41_0 p41_1 (fun Ar Ag Ea Eb=>re (ih (Ar,Ag,Ea,Eb))) v.1 v.2.1 v.2.2.1 v.2.2.2 (fun Ag Ea Eb Ar=>ho (Bho L (A48 L n K p41_0 Ag Ar p41_1 Ea Eb) (p41_0.getD (Int.toNat Ag) default) p41_1 Ea Eb (p41_0.getD (Int.toNat Ag) default)) fun o8=>Bq4 L n K p41_0 Ag p41_1 Ea Eb Ar ih o8))
def Atm(p41_0:List Av)(p41_1:Aa)(k:Bu):Cj→Prop:=fun o=>k (I o.1) [(1,(Ad p41_1)),(3,[.mp 5]),(4,[.clo 88 0 [.loc 3 0]]),(5,[.mapO false false (.t9 o.2.1) (.t4 o.2.2)])]
def Pk [An A Cj](L:Nat)(o9:Nat×T1):A:=
 (sl o9.1 [(lf (o9.2.1,o9.2.2.2.1,o9.2.2.2.2)),
 (lf (0,o9.2.2.2.1,o9.2.2.2.2))])
def A49:Bg:=(Bb 0 (Bp (EV (C2 L) (L+24) 5 c86.w.r) (Cx Tryz.prog (RS Tryz.f86) k)))
theorem Bq5(p41_0:List Av)(p41_1:Aa)(o9:Nat×T1):kX [.ret,.exit 0] (A1p p41_0 p41_1) (A49 L k) o9=ob (Pk L o9) (Atm p41_0 p41_1 k):=eE (Pk L o9)
def n7 [An A Cj](L:Nat)(p41_0:List Av)(p41_1:Aa)(nx65:A):A:=
 (cn (decide ((p41_0.length:Int) > 32))
 (lf (6,[],[]))
 nx65)
def Akr [An A Cj](p41_0:List Av)(p41_1:Aa):A:=n7 L p41_0 p41_1 (bd (Lh L p41_0 p41_1 (L+24) 0 0 [] []) fun o9=>Pk L o9)
def Zs(p41_0:List Av)(p41_1:Aa):Option Cj:=Akr L p41_0 p41_1
theorem Bhn(p41_0:List Av)(p41_1:Aa):YO (C2 L) (L+24) 6 86 [lv (.t123 p41_0),I 32,.clo 87 1 [.mp 5]] [(1,(Ad p41_1)),(3,[.mp 5]),(4,[.clo 88 0 [.loc 3 0]]),(5,[.mapO false false (.t9 []) (.t4 [])])] k=ob (Zs L p41_0 p41_1) (Atm p41_0 p41_1 k):=(Cu _ _ _ Xu _ _ _ _ _ _ _).trans (eE (n7 L p41_0 p41_1 (ho (Bom L (A49 L k) p41_0 p41_1 (L+24) (0,0,[],[])) fun o9=>Bq5 L k p41_0 p41_1 o9)))
def A2f(p54_0:ByteArray)(p54_1:Aa)(p54_2:List ByteArray)(p54_3:List Bool)(p54_4:Ah)(p54_5:Ah)(k:Bu):Cj→Prop:=fun o=>k (I o.1) [(1,(Ad p54_1)),(3,[.mp 5]),(4,[.clo 88 0 [.loc 3 0]]),(5,[.mapO false false (.t9 o.2.1) (.t4 o.2.2)]),(1014,(B5 p54_4)),(2018,(B5 p54_5))]
def Zc [An A Cj](p54_0:ByteArray)(p54_1:Aa)(p54_2:List ByteArray)(p54_3:List Bool)(p54_4:Ah)(p54_5:Ah):A:=
 (bd (Cy L p54_0) fun r11=>
 (cn (r11 != 0)
 (lf (r11,p54_2,p54_3))
 (fq (p54_2.findIdx? fun b=>p54_0 == b) (fun i12=>
 (cn (p54_3.getD i12 default)
 (lf (4,p54_2,p54_3))
 (fq (p54_2.findIdx? fun b=>p54_0 == b) (fun i13=>
 (lf (0,p54_2,(p54_3.set i13 true))))
 (lf (0,(p54_2++ [p54_0]),(p54_3++ [true]))))))
 (fq (p54_2.findIdx? fun b=>p54_0 == b) (fun i14=>
 (lf (0,p54_2,(p54_3.set i14 true))))
 (lf (0,(p54_2++ [p54_0]),(p54_3++ [true])))))))
def Zx(p54_0:ByteArray)(p54_1:Aa)(p54_2:List ByteArray)(p54_3:List Bool)(p54_4:Ah)(p54_5:Ah):Option Cj:=Zc L p54_0 p54_1 p54_2 p54_3 p54_4 p54_5
theorem Bhs(p54_0:ByteArray)(p54_1:Aa)(p54_2:List ByteArray)(p54_3:List Bool)(p54_4:Ah)(p54_5:Ah):YO (C2 L) (L+24) 5 59 [.mp 5,S p54_0] [(1,(Ad p54_1)),(3,[.mp 5]),(4,[.clo 88 0 [.loc 3 0]]),(5,[.mapO false false (.t9 p54_2) (.t4 p54_3)]),(1014,(B5 p54_4)),(2018,(B5 p54_5))] k=ob (Zx L p54_0 p54_1 p54_2 p54_3 p54_4 p54_5) (A2f p54_0 p54_1 p54_2 p54_3 p54_4 p54_5 k):=(Cu _ _ _ Xu _ _ _ _ _ _ _).trans (eE (Zc L p54_0 p54_1 p54_2 p54_3 p54_4 p54_5))
def Atp(p52_0:Ah)(p52_1:Aa)(p52_2:List ByteArray)(p52_3:List Bool)(p52_4:Ah)(k:Bu):Cj→Prop:=fun o=>k (I o.1) [(1,(Ad p52_1)),(3,[.mp 5]),(4,[.clo 88 0 [.loc 3 0]]),(5,[.mapO false false (.t9 o.2.1) (.t4 o.2.2)]),(1014,(B5 p52_4)),(2018,(B5 p52_0))]
def Pl [An A Cj](p52_0:Ah)(p52_1:Aa)(o15:Cj):A:=
 (cn (o15.1 != 0)
 (lf (o15.1,o15.2.1,o15.2.2))
 (bd (Br L p52_0.Units 0 1000) fun r16=>
 (cn (!r16)
 (lf (2,o15.2.1,o15.2.2))
 (bd (Yw L p52_0) fun r17=>
 (cn (r17 != 0)
 (lf (r17,o15.2.1,o15.2.2))
 (bd (Yv L p52_1 p52_0.Fault) fun r18=>
 (lf (r18,o15.2.1,o15.2.2))))))))
def A5b(p52_0:Ah)(p52_1:Aa)(p52_2:List ByteArray)(p52_3:List Bool)(p52_4:Ah):Bu:=(B2 Tryz.prog (C2 L) (EI (C2 L) (L+24) 5) 1 (List.drop 4 c94.u.l.l.ops) ⟨[(9,S p52_0.Name),(8,.loc 2018 0),(7,.mp 5),(1,.loc 3 0),(2,.loc 1 0),(3,.loc 2018 0),(4,I 0)],[(1,(Ad p52_1)),(3,[.mp 5]),(4,[.clo 88 0 [.loc 3 0]]),(5,[.mapO false false (.t9 p52_2) (.t4 p52_3)]),(1014,(B5 p52_4)),(2018,(B5 p52_0))],2015⟩ (some 10) (fun st9=>(Bp (EV (C2 L) (L+24) 5 c94.u.l.r) (Bp (EV (C2 L) (L+24) 5 c94.u.r) (Cx Tryz.prog (RS Tryz.f94) k))) .normal st9))
theorem Bq7(p52_0:Ah)(p52_1:Aa)(p52_2:List ByteArray)(p52_3:List Bool)(p52_4:Ah)(o15:Cj):A2f p52_0.Name p52_1 p52_2 p52_3 p52_4 p52_0 (A5b L k p52_0 p52_1 p52_2 p52_3 p52_4) o15=ob (Pl L p52_0 p52_1 o15) (Atp p52_0 p52_1 p52_2 p52_3 p52_4 k):=eE (Pl L p52_0 p52_1 o15)
def Aku [An A Cj](p52_0:Ah)(p52_1:Aa)(p52_2:List ByteArray)(p52_3:List Bool)(p52_4:Ah):A:=(bd (Zx L p52_0.Name p52_1 p52_2 p52_3 p52_4 p52_0) fun o15=>Pl L p52_0 p52_1 o15)
def Zw(p52_0:Ah)(p52_1:Aa)(p52_2:List ByteArray)(p52_3:List Bool)(p52_4:Ah):Option Cj:=Aku L p52_0 p52_1 p52_2 p52_3 p52_4
theorem Bhr(p52_0:Ah)(p52_1:Aa)(p52_2:List ByteArray)(p52_3:List Bool)(p52_4:Ah):YO (C2 L) (L+24) 6 94 [.agg (B5 p52_0),.loc 3 0,.loc 1 0] [(1,(Ad p52_1)),(3,[.mp 5]),(4,[.clo 88 0 [.loc 3 0]]),(5,[.mapO false false (.t9 p52_2) (.t4 p52_3)]),(1014,(B5 p52_4))] k=ob (Zw L p52_0 p52_1 p52_2 p52_3 p52_4) (Atp p52_0 p52_1 p52_2 p52_3 p52_4 k):=(Cu _ _ _ Xu _ _ _ _ _ _ _).trans (eE ((ho (Bhs L (A5b L k p52_0 p52_1 p52_2 p52_3 p52_4) p52_0.Name p52_1 p52_2 p52_3 p52_4 p52_0) fun o15=>Bq7 L k p52_0 p52_1 p52_2 p52_3 p52_4 o15)))
def A1q(p48_0:List Ah)(p48_1:Aa)(v:T1):St:=⟨[(0,.any),(1,.any),(2,.clo 94 0 [.loc 3 0,.loc 1 0]),(6,I v.1),(14,lv (.t86 p48_0)),(15,I (p48_0.length:Int)),(16,I v.2.1)],[(1,(Ad p48_1)),(3,[.mp 5]),(4,[.clo 88 0 [.loc 3 0]]),(5,[.mapO false false (.t9 v.2.2.1) (.t4 v.2.2.2)])],1006⟩
def Pm [An A Hn](L:Nat)(Bt:Int)(Cm:Int)(rec:Int→Int→List ByteArray→List Bool→A)(o19:Cj):A:=
 (cn (o19.1 != 0)
 (lf (0,o19.1,Bt,o19.2.1,o19.2.2))
 (rec Cm (Bo (Bt+1)) o19.2.1 o19.2.2))
def n9 [An A Hn](L:Nat)(p48_0:List Ah)(p48_1:Aa)(rec:Int→Int→List ByteArray→List Bool→A)(Cm:Int)(Bt:Int)(Gh:List ByteArray)(Gn:List Bool)(nx73:Int→(List ByteArray)→(List Bool)→Int→A):A:=
 (lw Bt p48_0
 (nx73 Bt Gh Gn Cm)
 (lf (1,Cm,Bt,Gh,Gn)))
def Aoe [An A Hn](p48_0:List Ah)(p48_1:Aa)(rec:Int→Int→List ByteArray→List Bool→A)(Cm:Int)(Bt:Int)(Gh:List ByteArray)(Gn:List Bool):A:=n9 L p48_0 p48_1 rec Cm Bt Gh Gn (fun Bt Gh Gn Cm=>bd (Zw L (p48_0.getD (Int.toNat Bt) default) p48_1 Gh Gn (p48_0.getD (Int.toNat Bt) default)) fun o19=>Pm L Bt Cm rec o19)
def Li(L:Nat)(p48_0:List Ah)(p48_1:Aa):Nat→Int→Int→List ByteArray→List Bool→Option Hn
 |0,_,_,_,_=>none
 |n+1,Cm,Bt,Gh,Gn=>Aoe L p48_0 p48_1 (Li L p48_0 p48_1 n) Cm Bt Gh Gn
def A9b(p48_0:List Ah)(p48_1:Aa):Prop:=LI (EV (C2 L) (L+24) 6 c93.w.l.u.l.l) [0,1,2,6,14,15,16] [1,3,4,5] (A1q p48_0 p48_1) [.ret,.exit 0] (fun n v=>Li L p48_0 p48_1 n v.1 v.2.1 v.2.2.1 v.2.2.2) K n
def A5c(p48_0:List Ah)(Bt:Int)(Cm:Int)(p48_1:Aa)(Gh:List ByteArray)(Gn:List Bool):Bu:=(B2 Tryz.prog (C2 L) (EI (C2 L) (L+24) 6) 1 (List.drop 3 c93.w.l.u.l.l.w.l.l.u.l.ops) ⟨[(21,.agg (B5 (p48_0.getD (Int.toNat Bt) default))),(20,.clo 94 0 [.loc 3 0,.loc 1 0]),(2,.clo 94 0 [.loc 3 0,.loc 1 0]),(6,I Cm),(8,.loc 1014 0),(14,lv (.t86 p48_0)),(15,I (p48_0.length:Int)),(16,I Bt),(17,B (decide (Bt < (p48_0.length:Int)))),(18,.ref (B5 (p48_0.getD (Int.toNat Bt) default))),(19,.agg (B5 (p48_0.getD (Int.toNat Bt) default)))],[(1,(Ad p48_1)),(3,[.mp 5]),(4,[.clo 88 0 [.loc 3 0]]),(5,[.mapO false false (.t9 Gh) (.t4 Gn)]),(1014,(B5 (p48_0.getD (Int.toNat Bt) default)))],1006⟩ (some 22) (fun st9=>(Bp (EV (C2 L) (L+24) 6 c93.w.l.u.l.l.w.l.l.u.r) (Bb 1 (Bp (EV (C2 L) (L+24) 6 c93.w.l.u.l.l.w.r) (D4 (Ep (EV (C2 L) (L+24) 6 c93.w.l.u.l.l) [0,1,2,6,14,15,16] [1,3,4,5] n) [0,1,2,6,14,15,16] [1,3,4,5] K)))) .normal st9))
theorem Bq8(p48_0:List Ah)(Bt:Int)(p48_1:Aa)(Gh:List ByteArray)(Gn:List Bool)(Cm:Int)(ih:A9b L n K p48_0 p48_1)(o19:Cj):Atp (p48_0.getD (Int.toNat Bt) default) p48_1 Gh Gn (p48_0.getD (Int.toNat Bt) default) (A5c L n K p48_0 Bt Cm p48_1 Gh Gn) o19=ob (Pm L Bt Cm (Li L p48_0 p48_1 n) o19) (kX [.ret,.exit 0] (A1q p48_0 p48_1) K):=eE (Pm L Bt Cm (fun Cm Bt Gh Gn=>re (ih (Cm,Bt,Gh,Gn))) o19)
theorem Bon(p48_0:List Ah)(p48_1:Aa):∀n,A9b L n K p48_0 p48_1:=lE (fun _=>rfl) fun n v ih=>eE (n9 L p48_0 p48_1 (fun Cm Bt Gh Gn=>re (ih (Cm,Bt,Gh,Gn))) v.1 v.2.1 v.2.2.1 v.2.2.2 (fun Bt Gh Gn Cm=>ho (Bhr L (A5c L n K p48_0 Bt Cm p48_1 Gh Gn) (p48_0.getD (Int.toNat Bt) default) p48_1 Gh Gn (p48_0.getD (Int.toNat Bt) default)) fun o19=>Bq8 L n K p48_0 Bt p48_1 Gh Gn Cm ih o19))
def Ato(p48_0:List Ah)(p48_1:Aa)(p48_2:List ByteArray)(p48_3:List Bool)(k:Bu):Cj→Prop:=fun o=>k (I o.1) [(1,(Ad p48_1)),(3,[.mp 5]),(4,[.clo 88 0 [.loc 3 0]]),(5,[.mapO false false (.t9 o.2.1) (.t4 o.2.2)])]
def Pn [An A Cj](L:Nat)(o20:Nat×T1):A:=
 (sl o20.1 [(lf (o20.2.1,o20.2.2.2.1,o20.2.2.2.2)),
 (lf (0,o20.2.2.2.1,o20.2.2.2.2))])
def A5d:Bg:=(Bb 0 (Bp (EV (C2 L) (L+24) 6 c93.w.r) (Cx Tryz.prog (RS Tryz.f93) k)))
theorem Bq9(p48_0:List Ah)(p48_1:Aa)(p48_2:List ByteArray)(p48_3:List Bool)(o20:Nat×T1):kX [.ret,.exit 0] (A1q p48_0 p48_1) (A5d L k) o20=ob (Pn L o20) (Ato p48_0 p48_1 p48_2 p48_3 k):=eE (Pn L o20)
def o0 [An A Cj](L:Nat)(p48_0:List Ah)(p48_1:Aa)(p48_2:List ByteArray)(p48_3:List Bool)(nx74:A):A:=
 (cn (decide ((p48_0.length:Int) > 32))
 (lf (6,p48_2,p48_3))
 nx74)
def Akt [An A Cj](p48_0:List Ah)(p48_1:Aa)(p48_2:List ByteArray)(p48_3:List Bool):A:=o0 L p48_0 p48_1 p48_2 p48_3 (bd (Li L p48_0 p48_1 (L+24) 0 0 p48_2 p48_3) fun o20=>Pn L o20)
def Zv(p48_0:List Ah)(p48_1:Aa)(p48_2:List ByteArray)(p48_3:List Bool):Option Cj:=Akt L p48_0 p48_1 p48_2 p48_3
theorem Bhq(p48_0:List Ah)(p48_1:Aa)(p48_2:List ByteArray)(p48_3:List Bool):YO (C2 L) (L+24) 7 93 [lv (.t86 p48_0),I 32,.clo 94 0 [.loc 3 0,.loc 1 0]] [(1,(Ad p48_1)),(3,[.mp 5]),(4,[.clo 88 0 [.loc 3 0]]),(5,[.mapO false false (.t9 p48_2) (.t4 p48_3)])] k=ob (Zv L p48_0 p48_1 p48_2 p48_3) (Ato p48_0 p48_1 p48_2 p48_3 k):=(Cu _ _ _ Xu _ _ _ _ _ _ _).trans (eE (o0 L p48_0 p48_1 p48_2 p48_3 (ho (Bon L (A5d L k) p48_0 p48_1 (L+24) (0,0,p48_2,p48_3)) fun o20=>Bq9 L k p48_0 p48_1 p48_2 p48_3 o20)))
def A2g(p61_0:ByteArray)(p61_1:Aa)(p61_2:List ByteArray)(p61_3:List Bool)(p61_4:Al)(p61_5:Al)(k:Bu):Cj→Prop:=fun o=>k (I o.1) [(1,(Ad p61_1)),(3,[.mp 5]),(4,[.clo 88 0 [.loc 3 0]]),(5,[.mapO false false (.t9 o.2.1) (.t4 o.2.2)]),(1014,(Cp p61_4)),(2017,(Cp p61_5))]
def Zd [An A Cj](p61_0:ByteArray)(p61_1:Aa)(p61_2:List ByteArray)(p61_3:List Bool)(p61_4:Al)(p61_5:Al):A:=
 (bd (Cy L p61_0) fun r22=>
 (cn (r22 != 0)
 (lf (r22,p61_2,p61_3))
 (fq (p61_2.findIdx? fun b=>p61_0 == b) (fun i23=>
 (cn (p61_3.getD i23 default)
 (lf (4,p61_2,p61_3))
 (fq (p61_2.findIdx? fun b=>p61_0 == b) (fun i24=>
 (lf (0,p61_2,(p61_3.set i24 true))))
 (lf (0,(p61_2++ [p61_0]),(p61_3++ [true]))))))
 (fq (p61_2.findIdx? fun b=>p61_0 == b) (fun i25=>
 (lf (0,p61_2,(p61_3.set i25 true))))
 (lf (0,(p61_2++ [p61_0]),(p61_3++ [true])))))))
def Z0(p61_0:ByteArray)(p61_1:Aa)(p61_2:List ByteArray)(p61_3:List Bool)(p61_4:Al)(p61_5:Al):Option Cj:=Zd L p61_0 p61_1 p61_2 p61_3 p61_4 p61_5
theorem Bhv(p61_0:ByteArray)(p61_1:Aa)(p61_2:List ByteArray)(p61_3:List Bool)(p61_4:Al)(p61_5:Al):YO (C2 L) (L+24) 5 59 [.mp 5,S p61_0] [(1,(Ad p61_1)),(3,[.mp 5]),(4,[.clo 88 0 [.loc 3 0]]),(5,[.mapO false false (.t9 p61_2) (.t4 p61_3)]),(1014,(Cp p61_4)),(2017,(Cp p61_5))] k=ob (Z0 L p61_0 p61_1 p61_2 p61_3 p61_4 p61_5) (A2g p61_0 p61_1 p61_2 p61_3 p61_4 p61_5 k):=(Cu _ _ _ Xu _ _ _ _ _ _ _).trans (eE (Zd L p61_0 p61_1 p61_2 p61_3 p61_4 p61_5))
def Atr(p59_0:Al)(p59_1:Aa)(p59_2:List ByteArray)(p59_3:List Bool)(p59_4:Al)(k:Bu):Cj→Prop:=fun o=>k (I o.1) [(1,(Ad p59_1)),(3,[.mp 5]),(4,[.clo 88 0 [.loc 3 0]]),(5,[.mapO false false (.t9 o.2.1) (.t4 o.2.2)]),(1014,(Cp p59_4)),(2017,(Cp p59_0))]
def Po [An A Cj](p59_0:Al)(o26:Cj):A:=
 (cn (o26.1 != 0)
 (lf (o26.1,o26.2.1,o26.2.2))
 (bd (Br L p59_0.Room 1 1000) fun r27=>
 (cn (!r27)
 (lf (2,o26.2.1,o26.2.2))
 (jp (.cn (decide (p59_0.Policy < 1))
 (.lf true)
 (.lf (decide (p59_0.Policy > 3)))) (fun b28=>
 (cn b28
 (lf (1,o26.2.1,o26.2.2))
 (lf (0,o26.2.1,o26.2.2))))))))
def A5f(p59_0:Al)(p59_1:Aa)(p59_2:List ByteArray)(p59_3:List Bool)(p59_4:Al):Bu:=(B2 Tryz.prog (C2 L) (EI (C2 L) (L+24) 5) 1 (List.drop 4 Bmn.u.l.l.ops) ⟨[(7,S p59_0.Name),(6,.loc 2017 0),(5,.mp 5),(1,.loc 3 0),(2,.loc 2017 0),(3,I 0)],[(1,(Ad p59_1)),(3,[.mp 5]),(4,[.clo 88 0 [.loc 3 0]]),(5,[.mapO false false (.t9 p59_2) (.t4 p59_3)]),(1014,(Cp p59_4)),(2017,(Cp p59_0))],2015⟩ (some 8) (fun st9=>(Bp (EV (C2 L) (L+24) 5 Bmn.u.l.r) (Bp (EV (C2 L) (L+24) 5 Bmn.u.r) (Cx Tryz.prog (RS Tryz.f100) k))) .normal st9))
theorem Brb(p59_0:Al)(p59_1:Aa)(p59_2:List ByteArray)(p59_3:List Bool)(p59_4:Al)(o26:Cj):A2g p59_0.Name p59_1 p59_2 p59_3 p59_4 p59_0 (A5f L k p59_0 p59_1 p59_2 p59_3 p59_4) o26=ob (Po L p59_0 o26) (Atr p59_0 p59_1 p59_2 p59_3 p59_4 k):=eE (Po L p59_0 o26)
def Akw [An A Cj](p59_0:Al)(p59_1:Aa)(p59_2:List ByteArray)(p59_3:List Bool)(p59_4:Al):A:=(bd (Z0 L p59_0.Name p59_1 p59_2 p59_3 p59_4 p59_0) fun o26=>Po L p59_0 o26)
def Zz(p59_0:Al)(p59_1:Aa)(p59_2:List ByteArray)(p59_3:List Bool)(p59_4:Al):Option Cj:=Akw L p59_0 p59_1 p59_2 p59_3 p59_4
theorem Bhu(p59_0:Al)(p59_1:Aa)(p59_2:List ByteArray)(p59_3:List Bool)(p59_4:Al):YO (C2 L) (L+24) 6 100 [.agg (Cp p59_0),.loc 3 0] [(1,(Ad p59_1)),(3,[.mp 5]),(4,[.clo 88 0 [.loc 3 0]]),(5,[.mapO false false (.t9 p59_2) (.t4 p59_3)]),(1014,(Cp p59_4))] k=ob (Zz L p59_0 p59_1 p59_2 p59_3 p59_4) (Atr p59_0 p59_1 p59_2 p59_3 p59_4 k):=(Cu _ _ _ Xu _ _ _ _ _ _ _).trans (eE ((ho (Bhv L (A5f L k p59_0 p59_1 p59_2 p59_3 p59_4) p59_0.Name p59_1 p59_2 p59_3 p59_4 p59_0) fun o26=>Brb L k p59_0 p59_1 p59_2 p59_3 p59_4 o26)))
def A1r(p55_0:List Al)(p55_1:Aa)(v:T1):St:=⟨[(0,.any),(1,.any),(2,.clo 100 0 [.loc 3 0]),(6,I v.1),(14,lv (.t89 p55_0)),(15,I (p55_0.length:Int)),(16,I v.2.1)],[(1,(Ad p55_1)),(3,[.mp 5]),(4,[.clo 88 0 [.loc 3 0]]),(5,[.mapO false false (.t9 v.2.2.1) (.t4 v.2.2.2)])],1006⟩
def Pp [An A Hn](L:Nat)(Gv:Int)(Hl:Int)(rec:Int→Int→List ByteArray→List Bool→A)(o29:Cj):A:=
 (cn (o29.1 != 0)
 (lf (0,o29.1,Gv,o29.2.1,o29.2.2))
 (rec Hl (Bo (Gv+1)) o29.2.1 o29.2.2))
def q6 [An A Hn](L:Nat)(p55_0:List Al)(p55_1:Aa)(rec:Int→Int→List ByteArray→List Bool→A)(Hl:Int)(Gv:Int)(Ef:List ByteArray)(Gp:List Bool)(nx82:Int→(List ByteArray)→(List Bool)→Int→A):A:=
 (lw Gv p55_0
 (nx82 Gv Ef Gp Hl)
 (lf (1,Hl,Gv,Ef,Gp)))
def Aof [An A Hn](p55_0:List Al)(p55_1:Aa)(rec:Int→Int→List ByteArray→List Bool→A)(Hl:Int)(Gv:Int)(Ef:List ByteArray)(Gp:List Bool):A:=q6 L p55_0 p55_1 rec Hl Gv Ef Gp (fun Gv Ef Gp Hl=>bd (Zz L (p55_0.getD (Int.toNat Gv) default) p55_1 Ef Gp (p55_0.getD (Int.toNat Gv) default)) fun o29=>Pp L Gv Hl rec o29)
def Lj(L:Nat)(p55_0:List Al)(p55_1:Aa):Nat→Int→Int→List ByteArray→List Bool→Option Hn
 |0,_,_,_,_=>none
 |n+1,Hl,Gv,Ef,Gp=>Aof L p55_0 p55_1 (Lj L p55_0 p55_1 n) Hl Gv Ef Gp
def A9c(p55_0:List Al)(p55_1:Aa):Prop:=LI (EV (C2 L) (L+24) 6 c99.w.l.u.l.l) [0,1,2,6,14,15,16] [1,3,4,5] (A1r p55_0 p55_1) [.ret,.exit 0] (fun n v=>Lj L p55_0 p55_1 n v.1 v.2.1 v.2.2.1 v.2.2.2) K n
def A5g(p55_0:List Al)(Gv:Int)(Hl:Int)(p55_1:Aa)(Ef:List ByteArray)(Gp:List Bool):Bu:=(B2 Tryz.prog (C2 L) (EI (C2 L) (L+24) 6) 1 (List.drop 3 c99.w.l.u.l.l.w.l.l.u.l.ops) ⟨[(21,.agg (Cp (p55_0.getD (Int.toNat Gv) default))),(20,.clo 100 0 [.loc 3 0]),(2,.clo 100 0 [.loc 3 0]),(6,I Hl),(8,.loc 1014 0),(14,lv (.t89 p55_0)),(15,I (p55_0.length:Int)),(16,I Gv),(17,B (decide (Gv < (p55_0.length:Int)))),(18,.ref (Cp (p55_0.getD (Int.toNat Gv) default))),(19,.agg (Cp (p55_0.getD (Int.toNat Gv) default)))],[(1,(Ad p55_1)),(3,[.mp 5]),(4,[.clo 88 0 [.loc 3 0]]),(5,[.mapO false false (.t9 Ef) (.t4 Gp)]),(1014,(Cp (p55_0.getD (Int.toNat Gv) default)))],1006⟩ (some 22) (fun st9=>(Bp (EV (C2 L) (L+24) 6 c99.w.l.u.l.l.w.l.l.u.r) (Bb 1 (Bp (EV (C2 L) (L+24) 6 c99.w.l.u.l.l.w.r) (D4 (Ep (EV (C2 L) (L+24) 6 c99.w.l.u.l.l) [0,1,2,6,14,15,16] [1,3,4,5] n) [0,1,2,6,14,15,16] [1,3,4,5] K)))) .normal st9))
theorem Brc(p55_0:List Al)(Gv:Int)(p55_1:Aa)(Ef:List ByteArray)(Gp:List Bool)(Hl:Int)(ih:A9c L n K p55_0 p55_1)(o29:Cj):Atr (p55_0.getD (Int.toNat Gv) default) p55_1 Ef Gp (p55_0.getD (Int.toNat Gv) default) (A5g L n K p55_0 Gv Hl p55_1 Ef Gp) o29=ob (Pp L Gv Hl (Lj L p55_0 p55_1 n) o29) (kX [.ret,.exit 0] (A1r p55_0 p55_1) K):=eE (Pp L Gv Hl (fun Hl Gv Ef Gp=>re (ih (Hl,Gv,Ef,Gp))) o29)
theorem Boo(p55_0:List Al)(p55_1:Aa):∀n,A9c L n K p55_0 p55_1:=lE (fun _=>rfl) fun n v ih=>eE (q6 L p55_0 p55_1 (fun Hl Gv Ef Gp=>re (ih (Hl,Gv,Ef,Gp))) v.1 v.2.1 v.2.2.1 v.2.2.2 (fun Gv Ef Gp Hl=>ho (Bhu L (A5g L n K p55_0 Gv Hl p55_1 Ef Gp) (p55_0.getD (Int.toNat Gv) default) p55_1 Ef Gp (p55_0.getD (Int.toNat Gv) default)) fun o29=>Brc L n K p55_0 Gv p55_1 Ef Gp Hl ih o29))
def Atq(p55_0:List Al)(p55_1:Aa)(p55_2:List ByteArray)(p55_3:List Bool)(k:Bu):Cj→Prop:=fun o=>k (I o.1) [(1,(Ad p55_1)),(3,[.mp 5]),(4,[.clo 88 0 [.loc 3 0]]),(5,[.mapO false false (.t9 o.2.1) (.t4 o.2.2)])]
def Pq [An A Cj](L:Nat)(o30:Nat×T1):A:=
 (sl o30.1 [(lf (o30.2.1,o30.2.2.2.1,o30.2.2.2.2)),
 (lf (0,o30.2.2.2.1,o30.2.2.2.2))])
def A5h:Bg:=(Bb 0 (Bp (EV (C2 L) (L+24) 6 c99.w.r) (Cx Tryz.prog (RS Tryz.f99) k)))
theorem Brd(p55_0:List Al)(p55_1:Aa)(p55_2:List ByteArray)(p55_3:List Bool)(o30:Nat×T1):kX [.ret,.exit 0] (A1r p55_0 p55_1) (A5h L k) o30=ob (Pq L o30) (Atq p55_0 p55_1 p55_2 p55_3 k):=eE (Pq L o30)
def q7 [An A Cj](L:Nat)(p55_0:List Al)(p55_1:Aa)(p55_2:List ByteArray)(p55_3:List Bool)(nx83:A):A:=
 (cn (decide ((p55_0.length:Int) > 32))
 (lf (6,p55_2,p55_3))
 nx83)
def Akv [An A Cj](p55_0:List Al)(p55_1:Aa)(p55_2:List ByteArray)(p55_3:List Bool):A:=q7 L p55_0 p55_1 p55_2 p55_3 (bd (Lj L p55_0 p55_1 (L+24) 0 0 p55_2 p55_3) fun o30=>Pq L o30)
def Zy(p55_0:List Al)(p55_1:Aa)(p55_2:List ByteArray)(p55_3:List Bool):Option Cj:=Akv L p55_0 p55_1 p55_2 p55_3
theorem Bht(p55_0:List Al)(p55_1:Aa)(p55_2:List ByteArray)(p55_3:List Bool):YO (C2 L) (L+24) 7 99 [lv (.t89 p55_0),I 32,.clo 100 0 [.loc 3 0]] [(1,(Ad p55_1)),(3,[.mp 5]),(4,[.clo 88 0 [.loc 3 0]]),(5,[.mapO false false (.t9 p55_2) (.t4 p55_3)])] k=ob (Zy L p55_0 p55_1 p55_2 p55_3) (Atq p55_0 p55_1 p55_2 p55_3 k):=(Cu _ _ _ Xu _ _ _ _ _ _ _).trans (eE (q7 L p55_0 p55_1 p55_2 p55_3 (ho (Boo L (A5h L k) p55_0 p55_1 (L+24) (0,0,p55_2,p55_3)) fun o30=>Brd L k p55_0 p55_1 p55_2 p55_3 o30)))
def A2h(p68_0:ByteArray)(p68_1:Aa)(p68_2:List ByteArray)(p68_3:List Bool)(p68_4:Be)(p68_5:Be)(k:Bu):Cj→Prop:=fun o=>k (I o.1) [(1,(Ad p68_1)),(3,[.mp 5]),(4,[.clo 88 0 [.loc 3 0]]),(5,[.mapO false false (.t9 o.2.1) (.t4 o.2.2)]),(1014,(Cv p68_4)),(2017,(Cv p68_5))]
def Ze [An A Cj](p68_0:ByteArray)(p68_1:Aa)(p68_2:List ByteArray)(p68_3:List Bool)(p68_4:Be)(p68_5:Be):A:=
 (bd (Cy L p68_0) fun r32=>
 (cn (r32 != 0)
 (lf (r32,p68_2,p68_3))
 (fq (p68_2.findIdx? fun b=>p68_0 == b) (fun i33=>
 (cn (p68_3.getD i33 default)
 (lf (4,p68_2,p68_3))
 (fq (p68_2.findIdx? fun b=>p68_0 == b) (fun i34=>
 (lf (0,p68_2,(p68_3.set i34 true))))
 (lf (0,(p68_2++ [p68_0]),(p68_3++ [true]))))))
 (fq (p68_2.findIdx? fun b=>p68_0 == b) (fun i35=>
 (lf (0,p68_2,(p68_3.set i35 true))))
 (lf (0,(p68_2++ [p68_0]),(p68_3++ [true])))))))
def Z3(p68_0:ByteArray)(p68_1:Aa)(p68_2:List ByteArray)(p68_3:List Bool)(p68_4:Be)(p68_5:Be):Option Cj:=Ze L p68_0 p68_1 p68_2 p68_3 p68_4 p68_5
theorem Bhy(p68_0:ByteArray)(p68_1:Aa)(p68_2:List ByteArray)(p68_3:List Bool)(p68_4:Be)(p68_5:Be):YO (C2 L) (L+24) 5 59 [.mp 5,S p68_0] [(1,(Ad p68_1)),(3,[.mp 5]),(4,[.clo 88 0 [.loc 3 0]]),(5,[.mapO false false (.t9 p68_2) (.t4 p68_3)]),(1014,(Cv p68_4)),(2017,(Cv p68_5))] k=ob (Z3 L p68_0 p68_1 p68_2 p68_3 p68_4 p68_5) (A2h p68_0 p68_1 p68_2 p68_3 p68_4 p68_5 k):=(Cu _ _ _ Xu _ _ _ _ _ _ _).trans (eE (Ze L p68_0 p68_1 p68_2 p68_3 p68_4 p68_5))
def Att(p66_0:Be)(p66_1:Aa)(p66_2:List ByteArray)(p66_3:List Bool)(p66_4:Be)(k:Bu):Cj→Prop:=fun o=>k (I o.1) [(1,(Ad p66_1)),(3,[.mp 5]),(4,[.clo 88 0 [.loc 3 0]]),(5,[.mapO false false (.t9 o.2.1) (.t4 o.2.2)]),(1014,(Cv p66_4)),(2017,(Cv p66_0))]
def Pr [An A Cj](p66_0:Be)(o36:Cj):A:=
 (cn (o36.1 != 0)
 (lf (o36.1,o36.2.1,o36.2.2))
 (bd (Br L p66_0.Length 1 1000) fun r37=>
 (jb (.cn (!r37)
 (.lf true)
 (.bd (Br L p66_0.Step 1 1000) fun r39=>
 (.lf (!r39)))) (fun b38=>
 (cn b38
 (lf (2,o36.2.1,o36.2.2))
 (lf (0,o36.2.1,o36.2.2)))))))
def A5j(p66_0:Be)(p66_1:Aa)(p66_2:List ByteArray)(p66_3:List Bool)(p66_4:Be):Bu:=(B2 Tryz.prog (C2 L) (EI (C2 L) (L+24) 5) 1 (List.drop 4 Bmo.u.l.l.ops) ⟨[(7,S p66_0.Name),(6,.loc 2017 0),(5,.mp 5),(1,.loc 3 0),(2,.loc 2017 0),(3,I 0)],[(1,(Ad p66_1)),(3,[.mp 5]),(4,[.clo 88 0 [.loc 3 0]]),(5,[.mapO false false (.t9 p66_2) (.t4 p66_3)]),(1014,(Cv p66_4)),(2017,(Cv p66_0))],2015⟩ (some 8) (fun st9=>(Bp (EV (C2 L) (L+24) 5 Bmo.u.l.r) (Bp (EV (C2 L) (L+24) 5 Bmo.u.r) (Cx Tryz.prog (RS Tryz.f103) k))) .normal st9))
theorem Brf(p66_0:Be)(p66_1:Aa)(p66_2:List ByteArray)(p66_3:List Bool)(p66_4:Be)(o36:Cj):A2h p66_0.Name p66_1 p66_2 p66_3 p66_4 p66_0 (A5j L k p66_0 p66_1 p66_2 p66_3 p66_4) o36=ob (Pr L p66_0 o36) (Att p66_0 p66_1 p66_2 p66_3 p66_4 k):=eE (Pr L p66_0 o36)
def Aky [An A Cj](p66_0:Be)(p66_1:Aa)(p66_2:List ByteArray)(p66_3:List Bool)(p66_4:Be):A:=(bd (Z3 L p66_0.Name p66_1 p66_2 p66_3 p66_4 p66_0) fun o36=>Pr L p66_0 o36)
def Z2(p66_0:Be)(p66_1:Aa)(p66_2:List ByteArray)(p66_3:List Bool)(p66_4:Be):Option Cj:=Aky L p66_0 p66_1 p66_2 p66_3 p66_4
theorem Bhx(p66_0:Be)(p66_1:Aa)(p66_2:List ByteArray)(p66_3:List Bool)(p66_4:Be):YO (C2 L) (L+24) 6 103 [.agg (Cv p66_0),.loc 3 0] [(1,(Ad p66_1)),(3,[.mp 5]),(4,[.clo 88 0 [.loc 3 0]]),(5,[.mapO false false (.t9 p66_2) (.t4 p66_3)]),(1014,(Cv p66_4))] k=ob (Z2 L p66_0 p66_1 p66_2 p66_3 p66_4) (Att p66_0 p66_1 p66_2 p66_3 p66_4 k):=(Cu _ _ _ Xu _ _ _ _ _ _ _).trans (eE ((ho (Bhy L (A5j L k p66_0 p66_1 p66_2 p66_3 p66_4) p66_0.Name p66_1 p66_2 p66_3 p66_4 p66_0) fun o36=>Brf L k p66_0 p66_1 p66_2 p66_3 p66_4 o36)))
def A1s(p62_0:List Be)(p62_1:Aa)(v:T1):St:=⟨[(0,.any),(1,.any),(2,.clo 103 0 [.loc 3 0]),(6,I v.1),(14,lv (.t178 p62_0)),(15,I (p62_0.length:Int)),(16,I v.2.1)],[(1,(Ad p62_1)),(3,[.mp 5]),(4,[.clo 88 0 [.loc 3 0]]),(5,[.mapO false false (.t9 v.2.2.1) (.t4 v.2.2.2)])],1006⟩
def Ps [An A Hn](L:Nat)(Gq:Int)(Mi:Int)(rec:Int→Int→List ByteArray→List Bool→A)(o40:Cj):A:=
 (cn (o40.1 != 0)
 (lf (0,o40.1,Gq,o40.2.1,o40.2.2))
 (rec Mi (Bo (Gq+1)) o40.2.1 o40.2.2))
def q9 [An A Hn](L:Nat)(p62_0:List Be)(p62_1:Aa)(rec:Int→Int→List ByteArray→List Bool→A)(Mi:Int)(Gq:Int)(K7:List ByteArray)(Gx:List Bool)(nx91:Int→(List ByteArray)→(List Bool)→Int→A):A:=
 (lw Gq p62_0
 (nx91 Gq K7 Gx Mi)
 (lf (1,Mi,Gq,K7,Gx)))
def Aog [An A Hn](p62_0:List Be)(p62_1:Aa)(rec:Int→Int→List ByteArray→List Bool→A)(Mi:Int)(Gq:Int)(K7:List ByteArray)(Gx:List Bool):A:=q9 L p62_0 p62_1 rec Mi Gq K7 Gx (fun Gq K7 Gx Mi=>bd (Z2 L (p62_0.getD (Int.toNat Gq) default) p62_1 K7 Gx (p62_0.getD (Int.toNat Gq) default)) fun o40=>Ps L Gq Mi rec o40)
def Lk(L:Nat)(p62_0:List Be)(p62_1:Aa):Nat→Int→Int→List ByteArray→List Bool→Option Hn
 |0,_,_,_,_=>none
 |n+1,Mi,Gq,K7,Gx=>Aog L p62_0 p62_1 (Lk L p62_0 p62_1 n) Mi Gq K7 Gx
def A9d(p62_0:List Be)(p62_1:Aa):Prop:=LI (EV (C2 L) (L+24) 6 A7p.w.l.u.l.l) [0,1,2,6,14,15,16] [1,3,4,5] (A1s p62_0 p62_1) [.ret,.exit 0] (fun n v=>Lk L p62_0 p62_1 n v.1 v.2.1 v.2.2.1 v.2.2.2) K n
def A5k(p62_0:List Be)(Gq:Int)(Mi:Int)(p62_1:Aa)(K7:List ByteArray)(Gx:List Bool):Bu:=(B2 Tryz.prog (C2 L) (EI (C2 L) (L+24) 6) 1 (List.drop 3 A7p.w.l.u.l.l.w.l.l.u.l.ops) ⟨[(21,.agg (Cv (p62_0.getD (Int.toNat Gq) default))),(20,.clo 103 0 [.loc 3 0]),(2,.clo 103 0 [.loc 3 0]),(6,I Mi),(8,.loc 1014 0),(14,lv (.t178 p62_0)),(15,I (p62_0.length:Int)),(16,I Gq),(17,B (decide (Gq < (p62_0.length:Int)))),(18,.ref (Cv (p62_0.getD (Int.toNat Gq) default))),(19,.agg (Cv (p62_0.getD (Int.toNat Gq) default)))],[(1,(Ad p62_1)),(3,[.mp 5]),(4,[.clo 88 0 [.loc 3 0]]),(5,[.mapO false false (.t9 K7) (.t4 Gx)]),(1014,(Cv (p62_0.getD (Int.toNat Gq) default)))],1006⟩ (some 22) (fun st9=>(Bp (EV (C2 L) (L+24) 6 A7p.w.l.u.l.l.w.l.l.u.r) (Bb 1 (Bp (EV (C2 L) (L+24) 6 A7p.w.l.u.l.l.w.r) (D4 (Ep (EV (C2 L) (L+24) 6 A7p.w.l.u.l.l) [0,1,2,6,14,15,16] [1,3,4,5] n) [0,1,2,6,14,15,16] [1,3,4,5] K)))) .normal st9))
theorem Brg(p62_0:List Be)(Gq:Int)(p62_1:Aa)(K7:List ByteArray)(Gx:List Bool)(Mi:Int)(ih:A9d L n K p62_0 p62_1)(o40:Cj):Att (p62_0.getD (Int.toNat Gq) default) p62_1 K7 Gx (p62_0.getD (Int.toNat Gq) default) (A5k L n K p62_0 Gq Mi p62_1 K7 Gx) o40=ob (Ps L Gq Mi (Lk L p62_0 p62_1 n) o40) (kX [.ret,.exit 0] (A1s p62_0 p62_1) K):=eE (Ps L Gq Mi (fun Mi Gq K7 Gx=>re (ih (Mi,Gq,K7,Gx))) o40)
theorem Bop(p62_0:List Be)(p62_1:Aa):∀n,A9d L n K p62_0 p62_1:=lE (fun _=>rfl) fun n v ih=>eE (q9 L p62_0 p62_1 (fun Mi Gq K7 Gx=>re (ih (Mi,Gq,K7,Gx))) v.1 v.2.1 v.2.2.1 v.2.2.2 (fun Gq K7 Gx Mi=>ho (Bhx L (A5k L n K p62_0 Gq Mi p62_1 K7 Gx) (p62_0.getD (Int.toNat Gq) default) p62_1 K7 Gx (p62_0.getD (Int.toNat Gq) default)) fun o40=>Brg L n K p62_0 Gq p62_1 K7 Gx Mi ih o40))
def Ats(p62_0:List Be)(p62_1:Aa)(p62_2:List ByteArray)(p62_3:List Bool)(k:Bu):Cj→Prop:=fun o=>k (I o.1) [(1,(Ad p62_1)),(3,[.mp 5]),(4,[.clo 88 0 [.loc 3 0]]),(5,[.mapO false false (.t9 o.2.1) (.t4 o.2.2)])]
def Pt [An A Cj](L:Nat)(o41:Nat×T1):A:=
 (sl o41.1 [(lf (o41.2.1,o41.2.2.2.1,o41.2.2.2.2)),
 (lf (0,o41.2.2.2.1,o41.2.2.2.2))])
def A5l:Bg:=(Bb 0 (Bp (EV (C2 L) (L+24) 6 A7p.w.r) (Cx Tryz.prog (RS Tryz.f102) k)))
theorem Brh(p62_0:List Be)(p62_1:Aa)(p62_2:List ByteArray)(p62_3:List Bool)(o41:Nat×T1):kX [.ret,.exit 0] (A1s p62_0 p62_1) (A5l L k) o41=ob (Pt L o41) (Ats p62_0 p62_1 p62_2 p62_3 k):=eE (Pt L o41)
def s7 [An A Cj](L:Nat)(p62_0:List Be)(p62_1:Aa)(p62_2:List ByteArray)(p62_3:List Bool)(nx92:A):A:=
 (cn (decide ((p62_0.length:Int) > 32))
 (lf (6,p62_2,p62_3))
 nx92)
def Akx [An A Cj](p62_0:List Be)(p62_1:Aa)(p62_2:List ByteArray)(p62_3:List Bool):A:=s7 L p62_0 p62_1 p62_2 p62_3 (bd (Lk L p62_0 p62_1 (L+24) 0 0 p62_2 p62_3) fun o41=>Pt L o41)
def Z1(p62_0:List Be)(p62_1:Aa)(p62_2:List ByteArray)(p62_3:List Bool):Option Cj:=Akx L p62_0 p62_1 p62_2 p62_3
theorem Bhw(p62_0:List Be)(p62_1:Aa)(p62_2:List ByteArray)(p62_3:List Bool):YO (C2 L) (L+24) 7 102 [lv (.t178 p62_0),I 32,.clo 103 0 [.loc 3 0]] [(1,(Ad p62_1)),(3,[.mp 5]),(4,[.clo 88 0 [.loc 3 0]]),(5,[.mapO false false (.t9 p62_2) (.t4 p62_3)])] k=ob (Z1 L p62_0 p62_1 p62_2 p62_3) (Ats p62_0 p62_1 p62_2 p62_3 k):=(Cu _ _ _ Xu _ _ _ _ _ _ _).trans (eE (s7 L p62_0 p62_1 p62_2 p62_3 (ho (Bop L (A5l L k) p62_0 p62_1 (L+24) (0,0,p62_2,p62_3)) fun o41=>Brh L k p62_0 p62_1 p62_2 p62_3 o41)))
def A2i(p71_0:ByteArray)(p71_1:Aa)(p71_2:List ByteArray)(p71_3:List Bool)(k:Bu):Cj→Prop:=fun o=>k (I o.1) [(1,(Ad p71_1)),(3,[.mp 5]),(4,[.clo 88 0 [.loc 3 0]]),(5,[.mapO false false (.t9 o.2.1) (.t4 o.2.2)])]
def Zf [An A Cj](p71_0:ByteArray)(p71_1:Aa)(p71_2:List ByteArray)(p71_3:List Bool):A:=
 (bd (Cy L p71_0) fun r43=>
 (cn (r43 != 0)
 (lf (r43,p71_2,p71_3))
 (fq (p71_2.findIdx? fun b=>p71_0 == b) (fun i44=>
 (cn (p71_3.getD i44 default)
 (lf (4,p71_2,p71_3))
 (fq (p71_2.findIdx? fun b=>p71_0 == b) (fun i45=>
 (lf (0,p71_2,(p71_3.set i45 true))))
 (lf (0,(p71_2++ [p71_0]),(p71_3++ [true]))))))
 (fq (p71_2.findIdx? fun b=>p71_0 == b) (fun i46=>
 (lf (0,p71_2,(p71_3.set i46 true))))
 (lf (0,(p71_2++ [p71_0]),(p71_3++ [true])))))))
def Z4(p71_0:ByteArray)(p71_1:Aa)(p71_2:List ByteArray)(p71_3:List Bool):Option Cj:=Zf L p71_0 p71_1 p71_2 p71_3
theorem Bhz(p71_0:ByteArray)(p71_1:Aa)(p71_2:List ByteArray)(p71_3:List Bool):YO (C2 L) (L+24) 5 59 [.mp 5,S p71_0] [(1,(Ad p71_1)),(3,[.mp 5]),(4,[.clo 88 0 [.loc 3 0]]),(5,[.mapO false false (.t9 p71_2) (.t4 p71_3)])] k=ob (Z4 L p71_0 p71_1 p71_2 p71_3) (A2i p71_0 p71_1 p71_2 p71_3 k):=(Cu _ _ _ Xu _ _ _ _ _ _ _).trans (eE (Zf L p71_0 p71_1 p71_2 p71_3))
def A1t(p69_0:List ByteArray)(p69_1:Aa)(v:T1):St:=⟨[(0,.any),(1,.any),(2,.clo 59 1 [.mp 5]),(6,I v.1),(14,lv (.t9 p69_0)),(15,I (p69_0.length:Int)),(16,I v.2.1)],[(1,(Ad p69_1)),(3,[.mp 5]),(4,[.clo 88 0 [.loc 3 0]]),(5,[.mapO false false (.t9 v.2.2.1) (.t4 v.2.2.2)])],1006⟩
def Pu [An A Hn](L:Nat)(Kv:Int)(Vs:Int)(rec:Int→Int→List ByteArray→List Bool→A)(o47:Cj):A:=
 (cn (o47.1 != 0)
 (lf (0,o47.1,Kv,o47.2.1,o47.2.2))
 (rec Vs (Bo (Kv+1)) o47.2.1 o47.2.2))
def s9 [An A Hn](L:Nat)(p69_0:List ByteArray)(p69_1:Aa)(rec:Int→Int→List ByteArray→List Bool→A)(Vs:Int)(Kv:Int)(K8:List ByteArray)(K9:List Bool)(nx96:Int→(List ByteArray)→(List Bool)→Int→A):A:=
 (lw Kv p69_0
 (nx96 Kv K8 K9 Vs)
 (lf (1,Vs,Kv,K8,K9)))
def Aoh [An A Hn](p69_0:List ByteArray)(p69_1:Aa)(rec:Int→Int→List ByteArray→List Bool→A)(Vs:Int)(Kv:Int)(K8:List ByteArray)(K9:List Bool):A:=s9 L p69_0 p69_1 rec Vs Kv K8 K9 (fun Kv K8 K9 Vs=>bd (Z4 L (p69_0.getD (Int.toNat Kv) default) p69_1 K8 K9) fun o47=>Pu L Kv Vs rec o47)
def Ll(L:Nat)(p69_0:List ByteArray)(p69_1:Aa):Nat→Int→Int→List ByteArray→List Bool→Option Hn
 |0,_,_,_,_=>none
 |n+1,Vs,Kv,K8,K9=>Aoh L p69_0 p69_1 (Ll L p69_0 p69_1 n) Vs Kv K8 K9
def A9e(p69_0:List ByteArray)(p69_1:Aa):Prop:=LI (EV (C2 L) (L+24) 5 c89.w.l.u.l.l) [0,1,2,6,14,15,16] [1,3,4,5] (A1t p69_0 p69_1) [.ret,.exit 0] (fun n v=>Ll L p69_0 p69_1 n v.1 v.2.1 v.2.2.1 v.2.2.2) K n
def A5n(p69_0:List ByteArray)(Kv:Int)(Vs:Int)(p69_1:Aa)(K8:List ByteArray)(K9:List Bool):Bu:=(B2 Tryz.prog (C2 L) (EI (C2 L) (L+24) 5) 1 (List.drop 3 c89.w.l.u.l.l.w.l.l.u.l.ops) ⟨[(21,S (p69_0.getD (Int.toNat Kv) default)),(20,.clo 59 1 [.mp 5]),(2,.clo 59 1 [.mp 5]),(6,I Vs),(8,S (p69_0.getD (Int.toNat Kv) default)),(14,lv (.t9 p69_0)),(15,I (p69_0.length:Int)),(16,I Kv),(17,B (decide (Kv < (p69_0.length:Int)))),(18,.ref [S (p69_0.getD (Int.toNat Kv) default)]),(19,S (p69_0.getD (Int.toNat Kv) default))],[(1,(Ad p69_1)),(3,[.mp 5]),(4,[.clo 88 0 [.loc 3 0]]),(5,[.mapO false false (.t9 K8) (.t4 K9)])],1006⟩ (some 22) (fun st9=>(Bp (EV (C2 L) (L+24) 5 c89.w.l.u.l.l.w.l.l.u.r) (Bb 1 (Bp (EV (C2 L) (L+24) 5 c89.w.l.u.l.l.w.r) (D4 (Ep (EV (C2 L) (L+24) 5 c89.w.l.u.l.l) [0,1,2,6,14,15,16] [1,3,4,5] n) [0,1,2,6,14,15,16] [1,3,4,5] K)))) .normal st9))
theorem Brj(p69_0:List ByteArray)(Kv:Int)(p69_1:Aa)(K8:List ByteArray)(K9:List Bool)(Vs:Int)(ih:A9e L n K p69_0 p69_1)(o47:Cj):A2i (p69_0.getD (Int.toNat Kv) default) p69_1 K8 K9 (A5n L n K p69_0 Kv Vs p69_1 K8 K9) o47=ob (Pu L Kv Vs (Ll L p69_0 p69_1 n) o47) (kX [.ret,.exit 0] (A1t p69_0 p69_1) K):=eE (Pu L Kv Vs (fun Vs Kv K8 K9=>re (ih (Vs,Kv,K8,K9))) o47)
theorem Boq(p69_0:List ByteArray)(p69_1:Aa):∀n,A9e L n K p69_0 p69_1:=lE (fun _=>rfl) fun n v ih=>eE (s9 L p69_0 p69_1 (fun Vs Kv K8 K9=>re (ih (Vs,Kv,K8,K9))) v.1 v.2.1 v.2.2.1 v.2.2.2 (fun Kv K8 K9 Vs=>ho (Bhz L (A5n L n K p69_0 Kv Vs p69_1 K8 K9) (p69_0.getD (Int.toNat Kv) default) p69_1 K8 K9) fun o47=>Brj L n K p69_0 Kv p69_1 K8 K9 Vs ih o47))
def w9(p69_0:List ByteArray)(p69_1:Aa)(p69_2:List ByteArray)(p69_3:List Bool)(k:Bu):Cj→Prop:=fun o=>k (I o.1) [(1,(Ad p69_1)),(3,[.mp 5]),(4,[.clo 88 0 [.loc 3 0]]),(5,[.mapO false false (.t9 o.2.1) (.t4 o.2.2)])]
def Pv [An A Cj](L:Nat)(o48:Nat×T1):A:=
 (sl o48.1 [(lf (o48.2.1,o48.2.2.2.1,o48.2.2.2.2)),
 (lf (0,o48.2.2.2.1,o48.2.2.2.2))])
def A5o:Bg:=(Bb 0 (Bp (EV (C2 L) (L+24) 5 c89.w.r) (Cx Tryz.prog (RS Tryz.f89) k)))
theorem Brk(p69_0:List ByteArray)(p69_1:Aa)(p69_2:List ByteArray)(p69_3:List Bool)(o48:Nat×T1):kX [.ret,.exit 0] (A1t p69_0 p69_1) (A5o L k) o48=ob (Pv L o48) (w9 p69_0 p69_1 p69_2 p69_3 k):=eE (Pv L o48)
def t6 [An A Cj](L:Nat)(p69_0:List ByteArray)(p69_1:Aa)(p69_2:List ByteArray)(p69_3:List Bool)(nx97:A):A:=
 (cn (decide ((p69_0.length:Int) > 32))
 (lf (6,p69_2,p69_3))
 nx97)
def Akz [An A Cj](p69_0:List ByteArray)(p69_1:Aa)(p69_2:List ByteArray)(p69_3:List Bool):A:=t6 L p69_0 p69_1 p69_2 p69_3 (bd (Ll L p69_0 p69_1 (L+24) 0 0 p69_2 p69_3) fun o48=>Pv L o48)
def Gi(p69_0:List ByteArray)(p69_1:Aa)(p69_2:List ByteArray)(p69_3:List Bool):Option Cj:=Akz L p69_0 p69_1 p69_2 p69_3
theorem Ajl(p69_0:List ByteArray)(p69_1:Aa)(p69_2:List ByteArray)(p69_3:List Bool):YO (C2 L) (L+24) 6 89 [lv (.t9 p69_0),I 32,.clo 59 1 [.mp 5]] [(1,(Ad p69_1)),(3,[.mp 5]),(4,[.clo 88 0 [.loc 3 0]]),(5,[.mapO false false (.t9 p69_2) (.t4 p69_3)])] k=ob (Gi L p69_0 p69_1 p69_2 p69_3) (w9 p69_0 p69_1 p69_2 p69_3 k):=(Cu _ _ _ Xu _ _ _ _ _ _ _).trans (eE (t6 L p69_0 p69_1 p69_2 p69_3 (ho (Boq L (A5o L k) p69_0 p69_1 (L+24) (0,0,p69_2,p69_3)) fun o48=>Brk L k p69_0 p69_1 p69_2 p69_3 o48)))
def A2j(p78_0:ByteArray)(p78_1:Aa)(p78_2:List ByteArray)(p78_3:List Bool)(p78_4:Aj)(p78_5:Aj)(k:Bu):Cj→Prop:=fun o=>k (I o.1) [(1,(Ad p78_1)),(3,[.mp 5]),(4,[.clo 88 0 [.loc 3 0]]),(5,[.mapO false false (.t9 o.2.1) (.t4 o.2.2)]),(1014,(Ck p78_4)),(2017,(Ck p78_5))]
def Zg [An A Cj](p78_0:ByteArray)(p78_1:Aa)(p78_2:List ByteArray)(p78_3:List Bool)(p78_4:Aj)(p78_5:Aj):A:=
 (bd (Cy L p78_0) fun r54=>
 (cn (r54 != 0)
 (lf (r54,p78_2,p78_3))
 (fq (p78_2.findIdx? fun b=>p78_0 == b) (fun i55=>
 (cn (p78_3.getD i55 default)
 (lf (4,p78_2,p78_3))
 (fq (p78_2.findIdx? fun b=>p78_0 == b) (fun i56=>
 (lf (0,p78_2,(p78_3.set i56 true))))
 (lf (0,(p78_2++ [p78_0]),(p78_3++ [true]))))))
 (fq (p78_2.findIdx? fun b=>p78_0 == b) (fun i57=>
 (lf (0,p78_2,(p78_3.set i57 true))))
 (lf (0,(p78_2++ [p78_0]),(p78_3++ [true])))))))
def Z7(p78_0:ByteArray)(p78_1:Aa)(p78_2:List ByteArray)(p78_3:List Bool)(p78_4:Aj)(p78_5:Aj):Option Cj:=Zg L p78_0 p78_1 p78_2 p78_3 p78_4 p78_5
theorem Bh2(p78_0:ByteArray)(p78_1:Aa)(p78_2:List ByteArray)(p78_3:List Bool)(p78_4:Aj)(p78_5:Aj):YO (C2 L) (L+24) 5 59 [.mp 5,S p78_0] [(1,(Ad p78_1)),(3,[.mp 5]),(4,[.clo 88 0 [.loc 3 0]]),(5,[.mapO false false (.t9 p78_2) (.t4 p78_3)]),(1014,(Ck p78_4)),(2017,(Ck p78_5))] k=ob (Z7 L p78_0 p78_1 p78_2 p78_3 p78_4 p78_5) (A2j p78_0 p78_1 p78_2 p78_3 p78_4 p78_5 k):=(Cu _ _ _ Xu _ _ _ _ _ _ _).trans (eE (Zg L p78_0 p78_1 p78_2 p78_3 p78_4 p78_5))
def Atv(p76_0:Aj)(p76_1:Aa)(p76_2:List ByteArray)(p76_3:List Bool)(p76_4:Aj)(k:Bu):Cj→Prop:=fun o=>k (I o.1) [(1,(Ad p76_1)),(3,[.mp 5]),(4,[.clo 88 0 [.loc 3 0]]),(5,[.mapO false false (.t9 o.2.1) (.t4 o.2.2)]),(1014,(Ck p76_4)),(2017,(Ck p76_0))]
def Nt [An A Cj](p76_0:Aj)(o58:Cj):A:=
 (cn (o58.1 != 0)
 (lf (o58.1,o58.2.1,o58.2.2))
 (bd (Aa4 L p76_0) fun r59=>
 (lf (r59,o58.2.1,o58.2.2))))
def Axv(p76_0:Aj)(p76_1:Aa)(p76_2:List ByteArray)(p76_3:List Bool)(p76_4:Aj):Bu:=(B2 Tryz.prog (C2 L) (EI (C2 L) (L+24) 5) 1 (List.drop 4 Bmp.u.l.l.ops) ⟨[(7,S p76_0.Name),(6,.loc 2017 0),(5,.mp 5),(1,.loc 3 0),(2,.loc 2017 0),(3,I 0)],[(1,(Ad p76_1)),(3,[.mp 5]),(4,[.clo 88 0 [.loc 3 0]]),(5,[.mapO false false (.t9 p76_2) (.t4 p76_3)]),(1014,(Ck p76_4)),(2017,(Ck p76_0))],2015⟩ (some 8) (fun st9=>(Bp (EV (C2 L) (L+24) 5 Bmp.u.l.r) (Bp (EV (C2 L) (L+24) 5 Bmp.u.r) (Cx Tryz.prog (RS Tryz.f111) k))) .normal st9))
theorem Bju(p76_0:Aj)(p76_1:Aa)(p76_2:List ByteArray)(p76_3:List Bool)(p76_4:Aj)(o58:Cj):A2j p76_0.Name p76_1 p76_2 p76_3 p76_4 p76_0 (Axv L k p76_0 p76_1 p76_2 p76_3 p76_4) o58=ob (Nt L p76_0 o58) (Atv p76_0 p76_1 p76_2 p76_3 p76_4 k):=eE (Nt L p76_0 o58)
def Ak1 [An A Cj](p76_0:Aj)(p76_1:Aa)(p76_2:List ByteArray)(p76_3:List Bool)(p76_4:Aj):A:=(bd (Z7 L p76_0.Name p76_1 p76_2 p76_3 p76_4 p76_0) fun o58=>Nt L p76_0 o58)
def Z6(p76_0:Aj)(p76_1:Aa)(p76_2:List ByteArray)(p76_3:List Bool)(p76_4:Aj):Option Cj:=Ak1 L p76_0 p76_1 p76_2 p76_3 p76_4
theorem Bh1(p76_0:Aj)(p76_1:Aa)(p76_2:List ByteArray)(p76_3:List Bool)(p76_4:Aj):YO (C2 L) (L+24) 6 111 [.agg (Ck p76_0),.loc 3 0] [(1,(Ad p76_1)),(3,[.mp 5]),(4,[.clo 88 0 [.loc 3 0]]),(5,[.mapO false false (.t9 p76_2) (.t4 p76_3)]),(1014,(Ck p76_4))] k=ob (Z6 L p76_0 p76_1 p76_2 p76_3 p76_4) (Atv p76_0 p76_1 p76_2 p76_3 p76_4 k):=(Cu _ _ _ Xu _ _ _ _ _ _ _).trans (eE ((ho (Bh2 L (Axv L k p76_0 p76_1 p76_2 p76_3 p76_4) p76_0.Name p76_1 p76_2 p76_3 p76_4 p76_0) fun o58=>Bju L k p76_0 p76_1 p76_2 p76_3 p76_4 o58)))
def A1u(p72_0:List Aj)(p72_1:Aa)(v:T1):St:=⟨[(0,.any),(1,.any),(2,.clo 111 0 [.loc 3 0]),(6,I v.1),(14,lv (.t93 p72_0)),(15,I (p72_0.length:Int)),(16,I v.2.1)],[(1,(Ad p72_1)),(3,[.mp 5]),(4,[.clo 88 0 [.loc 3 0]]),(5,[.mapO false false (.t9 v.2.2.1) (.t4 v.2.2.2)])],1006⟩
def Nu [An A Hn](L:Nat)(Jg:Int)(Vt:Int)(rec:Int→Int→List ByteArray→List Bool→A)(o60:Cj):A:=
 (cn (o60.1 != 0)
 (lf (0,o60.1,Jg,o60.2.1,o60.2.2))
 (rec Vt (Bo (Jg+1)) o60.2.1 o60.2.2))
def Xh [An A Hn](L:Nat)(p72_0:List Aj)(p72_1:Aa)(rec:Int→Int→List ByteArray→List Bool→A)(Vt:Int)(Jg:Int)(La:List ByteArray)(Lb:List Bool)(nx109:Int→(List ByteArray)→(List Bool)→Int→A):A:=
 (lw Jg p72_0
 (nx109 Jg La Lb Vt)
 (lf (1,Vt,Jg,La,Lb)))
def Aoi [An A Hn](p72_0:List Aj)(p72_1:Aa)(rec:Int→Int→List ByteArray→List Bool→A)(Vt:Int)(Jg:Int)(La:List ByteArray)(Lb:List Bool):A:=Xh L p72_0 p72_1 rec Vt Jg La Lb (fun Jg La Lb Vt=>bd (Z6 L (p72_0.getD (Int.toNat Jg) default) p72_1 La Lb (p72_0.getD (Int.toNat Jg) default)) fun o60=>Nu L Jg Vt rec o60)
def Lm(L:Nat)(p72_0:List Aj)(p72_1:Aa):Nat→Int→Int→List ByteArray→List Bool→Option Hn
 |0,_,_,_,_=>none
 |n+1,Vt,Jg,La,Lb=>Aoi L p72_0 p72_1 (Lm L p72_0 p72_1 n) Vt Jg La Lb
def A9f(p72_0:List Aj)(p72_1:Aa):Prop:=LI (EV (C2 L) (L+24) 6 A7q.w.l.u.l.l) [0,1,2,6,14,15,16] [1,3,4,5] (A1u p72_0 p72_1) [.ret,.exit 0] (fun n v=>Lm L p72_0 p72_1 n v.1 v.2.1 v.2.2.1 v.2.2.2) K n
def Axw(p72_0:List Aj)(Jg:Int)(Vt:Int)(p72_1:Aa)(La:List ByteArray)(Lb:List Bool):Bu:=(B2 Tryz.prog (C2 L) (EI (C2 L) (L+24) 6) 1 (List.drop 3 A7q.w.l.u.l.l.w.l.l.u.l.ops) ⟨[(21,.agg (Ck (p72_0.getD (Int.toNat Jg) default))),(20,.clo 111 0 [.loc 3 0]),(2,.clo 111 0 [.loc 3 0]),(6,I Vt),(8,.loc 1014 0),(14,lv (.t93 p72_0)),(15,I (p72_0.length:Int)),(16,I Jg),(17,B (decide (Jg < (p72_0.length:Int)))),(18,.ref (Ck (p72_0.getD (Int.toNat Jg) default))),(19,.agg (Ck (p72_0.getD (Int.toNat Jg) default)))],[(1,(Ad p72_1)),(3,[.mp 5]),(4,[.clo 88 0 [.loc 3 0]]),(5,[.mapO false false (.t9 La) (.t4 Lb)]),(1014,(Ck (p72_0.getD (Int.toNat Jg) default)))],1006⟩ (some 22) (fun st9=>(Bp (EV (C2 L) (L+24) 6 A7q.w.l.u.l.l.w.l.l.u.r) (Bb 1 (Bp (EV (C2 L) (L+24) 6 A7q.w.l.u.l.l.w.r) (D4 (Ep (EV (C2 L) (L+24) 6 A7q.w.l.u.l.l) [0,1,2,6,14,15,16] [1,3,4,5] n) [0,1,2,6,14,15,16] [1,3,4,5] K)))) .normal st9))
theorem Bjv(p72_0:List Aj)(Jg:Int)(p72_1:Aa)(La:List ByteArray)(Lb:List Bool)(Vt:Int)(ih:A9f L n K p72_0 p72_1)(o60:Cj):Atv (p72_0.getD (Int.toNat Jg) default) p72_1 La Lb (p72_0.getD (Int.toNat Jg) default) (Axw L n K p72_0 Jg Vt p72_1 La Lb) o60=ob (Nu L Jg Vt (Lm L p72_0 p72_1 n) o60) (kX [.ret,.exit 0] (A1u p72_0 p72_1) K):=eE (Nu L Jg Vt (fun Vt Jg La Lb=>re (ih (Vt,Jg,La,Lb))) o60)
theorem Bor(p72_0:List Aj)(p72_1:Aa):∀n,A9f L n K p72_0 p72_1:=lE (fun _=>rfl) fun n v ih=>eE (Xh L p72_0 p72_1 (fun Vt Jg La Lb=>re (ih (Vt,Jg,La,Lb))) v.1 v.2.1 v.2.2.1 v.2.2.2 (fun Jg La Lb Vt=>ho (Bh1 L (Axw L n K p72_0 Jg Vt p72_1 La Lb) (p72_0.getD (Int.toNat Jg) default) p72_1 La Lb (p72_0.getD (Int.toNat Jg) default)) fun o60=>Bjv L n K p72_0 Jg p72_1 La Lb Vt ih o60))
def Atu(p72_0:List Aj)(p72_1:Aa)(p72_2:List ByteArray)(p72_3:List Bool)(k:Bu):Cj→Prop:=fun o=>k (I o.1) [(1,(Ad p72_1)),(3,[.mp 5]),(4,[.clo 88 0 [.loc 3 0]]),(5,[.mapO false false (.t9 o.2.1) (.t4 o.2.2)])]
def Nv [An A Cj](L:Nat)(o61:Nat×T1):A:=
 (sl o61.1 [(lf (o61.2.1,o61.2.2.2.1,o61.2.2.2.2)),
 (lf (0,o61.2.2.2.1,o61.2.2.2.2))])
def Axx:Bg:=(Bb 0 (Bp (EV (C2 L) (L+24) 6 A7q.w.r) (Cx Tryz.prog (RS Tryz.f110) k)))
theorem Bjw(p72_0:List Aj)(p72_1:Aa)(p72_2:List ByteArray)(p72_3:List Bool)(o61:Nat×T1):kX [.ret,.exit 0] (A1u p72_0 p72_1) (Axx L k) o61=ob (Nv L o61) (Atu p72_0 p72_1 p72_2 p72_3 k):=eE (Nv L o61)
def Xi [An A Cj](L:Nat)(p72_0:List Aj)(p72_1:Aa)(p72_2:List ByteArray)(p72_3:List Bool)(nx110:A):A:=
 (cn (decide ((p72_0.length:Int) > 16))
 (lf (6,p72_2,p72_3))
 nx110)
def Ak0 [An A Cj](p72_0:List Aj)(p72_1:Aa)(p72_2:List ByteArray)(p72_3:List Bool):A:=Xi L p72_0 p72_1 p72_2 p72_3 (bd (Lm L p72_0 p72_1 (L+24) 0 0 p72_2 p72_3) fun o61=>Nv L o61)
def Z5(p72_0:List Aj)(p72_1:Aa)(p72_2:List ByteArray)(p72_3:List Bool):Option Cj:=Ak0 L p72_0 p72_1 p72_2 p72_3
theorem Bh0(p72_0:List Aj)(p72_1:Aa)(p72_2:List ByteArray)(p72_3:List Bool):YO (C2 L) (L+24) 7 110 [lv (.t93 p72_0),I 16,.clo 111 0 [.loc 3 0]] [(1,(Ad p72_1)),(3,[.mp 5]),(4,[.clo 88 0 [.loc 3 0]]),(5,[.mapO false false (.t9 p72_2) (.t4 p72_3)])] k=ob (Z5 L p72_0 p72_1 p72_2 p72_3) (Atu p72_0 p72_1 p72_2 p72_3 k):=(Cu _ _ _ Xu _ _ _ _ _ _ _).trans (eE (Xi L p72_0 p72_1 p72_2 p72_3 (ho (Bor L (Axx L k) p72_0 p72_1 (L+24) (0,0,p72_2,p72_3)) fun o61=>Bjw L k p72_0 p72_1 p72_2 p72_3 o61)))
def Bea(p79_0:List Bv)(p79_1:Aa)(p79_2:List ByteArray)(p79_3:List Bool)(v:C8):St:=⟨[(0,.any),(1,.any),(2,.clo 115 0 [.loc 1 0]),(6,I v.1),(14,lv (.t150 p79_0)),(15,I (p79_0.length:Int)),(16,I v.2)],[(1,(Ad p79_1)),(3,[.mp 5]),(4,[.clo 88 0 [.loc 3 0]]),(5,[.mapO false false (.t9 p79_2) (.t4 p79_3)])],1006⟩
def Abm [An A Cq](p79_0:List Bv)(p79_1:Aa)(p79_2:List ByteArray)(p79_3:List Bool)(rec:Int→Int→A)(A8t:Int)(Avx:Int):A:=
 (lw Avx p79_0
 (bd (Afu L p79_1 (p79_0.getD (Int.toNat Avx) default)) fun r63=>
 (cn (r63 != 0)
 (lf (0,r63,Avx))
 (rec A8t (Bo (Avx+1)))))
 (lf (1,A8t,Avx)))
def Ry(L:Nat)(p79_0:List Bv)(p79_1:Aa)(p79_2:List ByteArray)(p79_3:List Bool):Nat→Int→Int→Option Cq
 |0,_,_=>none
 |n+1,A8t,Avx=>Abm L p79_0 p79_1 p79_2 p79_3 (Ry L p79_0 p79_1 p79_2 p79_3 n) A8t Avx
theorem Bos(p79_0:List Bv)(p79_1:Aa)(p79_2:List ByteArray)(p79_3:List Bool):LP (EV (C2 L) (L+24) 6 Bty.w.l.u.l.l) [0,1,2,6,14,15,16] [1,3,4,5] (Bea p79_0 p79_1 p79_2 p79_3) [.ret,.exit 0] (fun n v=>Ry L p79_0 p79_1 p79_2 p79_3 n v.1 v.2) K:=lE (fun _=>rfl) fun n v ih=>eE (Abm L p79_0 p79_1 p79_2 p79_3 (fun A8t Avx=>re (ih (A8t,Avx))) v.1 v.2)
def Atw(p79_0:List Bv)(p79_1:Aa)(p79_2:List ByteArray)(p79_3:List Bool)(k:Bu):Int→Prop:=fun o=>k (I o) [(1,(Ad p79_1)),(3,[.mp 5]),(4,[.clo 88 0 [.loc 3 0]]),(5,[.mapO false false (.t9 p79_2) (.t4 p79_3)])]
def Nw [An A Int](L:Nat)(o64:Nat×C8):A:=
 (sl o64.1 [(lf o64.2.1),
 (lf 0)])
def Axz:Bg:=(Bb 0 (Bp (EV (C2 L) (L+24) 6 Bty.w.r) (Cx Tryz.prog (RS Tryz.f114) k)))
theorem Bjy(p79_0:List Bv)(p79_1:Aa)(p79_2:List ByteArray)(p79_3:List Bool)(o64:Nat×C8):kX [.ret,.exit 0] (Bea p79_0 p79_1 p79_2 p79_3) (Axz L k) o64=ob (Nw L o64) (Atw p79_0 p79_1 p79_2 p79_3 k):=eE (Nw L o64)
def Xk [An A Int](L:Nat)(p79_0:List Bv)(p79_1:Aa)(p79_2:List ByteArray)(p79_3:List Bool)(nx113:A):A:=
 (cn (decide ((p79_0.length:Int) > 32))
 (lf 6)
 nx113)
def Ak2 [An A Int](p79_0:List Bv)(p79_1:Aa)(p79_2:List ByteArray)(p79_3:List Bool):A:=Xk L p79_0 p79_1 p79_2 p79_3 (bd (Ry L p79_0 p79_1 p79_2 p79_3 (L+24) 0 0) fun o64=>Nw L o64)
def Z8(p79_0:List Bv)(p79_1:Aa)(p79_2:List ByteArray)(p79_3:List Bool):Option Int:=Ak2 L p79_0 p79_1 p79_2 p79_3
theorem Bh3(p79_0:List Bv)(p79_1:Aa)(p79_2:List ByteArray)(p79_3:List Bool):YO (C2 L) (L+24) 7 114 [lv (.t150 p79_0),I 32,.clo 115 0 [.loc 1 0]] [(1,(Ad p79_1)),(3,[.mp 5]),(4,[.clo 88 0 [.loc 3 0]]),(5,[.mapO false false (.t9 p79_2) (.t4 p79_3)])] k=ob (Z8 L p79_0 p79_1 p79_2 p79_3) (Atw p79_0 p79_1 p79_2 p79_3 k):=(Cu _ _ _ Xu _ _ _ _ _ _ _).trans (eE (Xk L p79_0 p79_1 p79_2 p79_3 (ho (Bos L (Axz L k) p79_0 p79_1 p79_2 p79_3 (L+24) (0,0)) fun o64=>Bjy L k p79_0 p79_1 p79_2 p79_3 o64)))
def N8(p1_0:Aa)(k:Bu):Cj→Prop:=fun o=>k (I o.1) [(1,(Ad p1_0)),(3,[.mp 5]),(4,[.clo 88 0 [.loc 3 0]]),(5,[.mapO false false (.t9 o.2.1) (.t4 o.2.2)])]
def Nx [An A Cj](o62:Cj)(p1_0:Aa)(o65:Int):A:=
 (cn (o65 != 0)
 (lf (o65,o62.2.1,o62.2.2))
 (gq ((0:Int)≤11)
 (gq (11 < ((12:Nat):Int))
 (bd (Aii L p1_0) fun r66=>
 (cn (r66 != 0)
 (lf (r66,o62.2.1,o62.2.2))
 (lf (0,o62.2.1,o62.2.2)))))))
def Ax0(p1_0:Aa)(o62:Cj):Bu:=(B2 Tryz.prog (C2 L) (EI (C2 L) (L+24) 7) 1 (List.drop 4 Btx.u.l.ops) ⟨[(4,.clo 115 0 [.loc 1 0]),(3,lv (.t150 p1_0.Starts)),(2,.loc 1 11),(0,.loc 1 0),(1,I 0)],[(1,(Ad p1_0)),(3,[.mp 5]),(4,[.clo 88 0 [.loc 3 0]]),(5,[.mapO false false (.t9 o62.2.1) (.t4 o62.2.2)])],1006⟩ (some 5) (fun st9=>(Bp (EV (C2 L) (L+24) 7 Btx.u.r) (Cx Tryz.prog (RS Tryz.f113) (B2 Tryz.prog (C2 L) (EI (C2 L) (L+24) 8) 1 (List.drop 2 V0.u.l.u.l.l.w.l.l.u.l.ops) ⟨[(12,.clo 113 0 [.loc 1 0]),(2,I 0),(4,.clo 113 0 [.loc 1 0]),(6,.sl false 170 1 [[.clo 91 0 [.loc 3 0,.loc 1 0]],[.clo 92 0 [.loc 1 0,.loc 3 0]],[.clo 98 0 [.loc 1 0,.loc 3 0]],[.clo 101 0 [.loc 1 0,.loc 3 0]],[.clo 104 0 [.loc 4 0,.loc 1 0]],[.clo 105 0 [.loc 4 0,.loc 1 0]],[.clo 106 0 [.loc 4 0,.loc 1 0]],[.clo 107 0 [.loc 4 0,.loc 1 0]],[.clo 108 0 [.loc 4 0,.loc 1 0]],[.clo 109 0 [.loc 1 0,.loc 3 0]],[.clo 113 0 [.loc 1 0]],[.clo 117 0 [.loc 1 0]]]),(7,I 12),(8,I 10),(9,B true),(10,.ref [.clo 113 0 [.loc 1 0]]),(11,.clo 113 0 [.loc 1 0])],[(1,(Ad p1_0)),(3,[.mp 5]),(4,[.clo 88 0 [.loc 3 0]]),(5,[.mapO false false (.t9 o62.2.1) (.t4 o62.2.2)])],1006⟩ (some 13) (fun st9=>(Bp (EV (C2 L) (L+24) 8 V0.u.l.u.l.l.w.l.l.u.r) (Bb 1 (Bp (EV (C2 L) (L+24) 8 V0.u.l.u.l.l.w.r) (D4 (Ep (EV (C2 L) (L+24) 8 V0.u.l.u.l.l) [0,2,6,7,8] [1,3,4,5] (L+13)) [0,2,6,7,8] [1,3,4,5] (Ud L k))))) .normal st9)))) .normal st9))
theorem Bjz(p1_0:Aa)(o62:Cj)(o65:Int):Atw p1_0.Starts p1_0 o62.2.1 o62.2.2 (Ax0 L k p1_0 o62) o65=ob (Nx L o62 p1_0 o65) (N8 p1_0 k):=eE (Nx L o62 p1_0 o65)
def Xl [An A Cj](L:Nat)(p1_0:Aa)(o62:Cj)(nx114:Cj→A):A:=
 (cn (o62.1 != 0)
 (lf (o62.1,o62.2.1,o62.2.2))
 (gq ((0:Int)≤10)
 (gq (10 < ((12:Nat):Int))
 (nx114 o62))))
def W3 [An A Cj](p1_0:Aa)(o62:Cj):A:=Xl L p1_0 o62 (fun o62=>bd (Z8 L p1_0.Starts p1_0 o62.2.1 o62.2.2) fun o65=>Nx L o62 p1_0 o65)
def Axy(p1_0:Aa)(o53:Cj):Bu:=(B2 Tryz.prog (C2 L) (EI (C2 L) (L+24) 7) 1 (List.drop 4 Btw.u.l.ops) ⟨[(5,.clo 111 0 [.loc 3 0]),(4,lv (.t93 p1_0.Routines)),(3,.loc 1 10),(0,.loc 1 0),(1,.loc 3 0),(2,I 0)],[(1,(Ad p1_0)),(3,[.mp 5]),(4,[.clo 88 0 [.loc 3 0]]),(5,[.mapO false false (.t9 o53.2.1) (.t4 o53.2.2)])],1006⟩ (some 6) (fun st9=>(Bp (EV (C2 L) (L+24) 7 Btw.u.r) (Cx Tryz.prog (RS Tryz.f109) (B2 Tryz.prog (C2 L) (EI (C2 L) (L+24) 8) 1 (List.drop 2 V0.u.l.u.l.l.w.l.l.u.l.ops) ⟨[(12,.clo 109 0 [.loc 1 0,.loc 3 0]),(2,I 0),(4,.clo 109 0 [.loc 1 0,.loc 3 0]),(6,.sl false 170 1 [[.clo 91 0 [.loc 3 0,.loc 1 0]],[.clo 92 0 [.loc 1 0,.loc 3 0]],[.clo 98 0 [.loc 1 0,.loc 3 0]],[.clo 101 0 [.loc 1 0,.loc 3 0]],[.clo 104 0 [.loc 4 0,.loc 1 0]],[.clo 105 0 [.loc 4 0,.loc 1 0]],[.clo 106 0 [.loc 4 0,.loc 1 0]],[.clo 107 0 [.loc 4 0,.loc 1 0]],[.clo 108 0 [.loc 4 0,.loc 1 0]],[.clo 109 0 [.loc 1 0,.loc 3 0]],[.clo 113 0 [.loc 1 0]],[.clo 117 0 [.loc 1 0]]]),(7,I 12),(8,I 9),(9,B true),(10,.ref [.clo 109 0 [.loc 1 0,.loc 3 0]]),(11,.clo 109 0 [.loc 1 0,.loc 3 0])],[(1,(Ad p1_0)),(3,[.mp 5]),(4,[.clo 88 0 [.loc 3 0]]),(5,[.mapO false false (.t9 o53.2.1) (.t4 o53.2.2)])],1006⟩ (some 13) (fun st9=>(Bp (EV (C2 L) (L+24) 8 V0.u.l.u.l.l.w.l.l.u.r) (Bb 1 (Bp (EV (C2 L) (L+24) 8 V0.u.l.u.l.l.w.r) (D4 (Ep (EV (C2 L) (L+24) 8 V0.u.l.u.l.l) [0,2,6,7,8] [1,3,4,5] (L+14)) [0,2,6,7,8] [1,3,4,5] (Ud L k))))) .normal st9)))) .normal st9))
theorem Bjx(p1_0:Aa)(o53:Cj)(o62:Cj):Atu p1_0.Routines p1_0 o53.2.1 o53.2.2 (Axy L k p1_0 o53) o62=ob (W3 L p1_0 o62) (N8 p1_0 k):=eE (Xl L p1_0 o62 (fun o62=>ho (Bh3 L (Ax0 L k p1_0 o62) p1_0.Starts p1_0 o62.2.1 o62.2.2) fun o65=>Bjz L k p1_0 o62 o65))
def Xj [An A Cj](L:Nat)(p1_0:Aa)(o53:Cj)(nx111:Cj→A):A:=
 (cn (o53.1 != 0)
 (lf (o53.1,o53.2.1,o53.2.2))
 (gq ((0:Int)≤9)
 (gq (9 < ((12:Nat):Int))
 (nx111 o53))))
def W2 [An A Cj](p1_0:Aa)(o53:Cj):A:=Xj L p1_0 o53 (fun o53=>bd (Z5 L p1_0.Routines p1_0 o53.2.1 o53.2.2) fun o62=>W3 L p1_0 o62)
def Axu(p1_0:Aa)(o52:Cj):Bu:=(B2 Tryz.prog (C2 L) (EI (C2 L) (L+24) 6) 1 (List.drop 4 c88.u.l.ops) ⟨[(6,.clo 59 1 [.mp 5]),(5,.mp 5),(4,lv (.t9 p1_0.Counts)),(0,lv (.t9 p1_0.Counts)),(1,.loc 3 0),(3,I 0)],[(1,(Ad p1_0)),(3,[.mp 5]),(4,[.clo 88 0 [.loc 3 0]]),(5,[.mapO false false (.t9 o52.2.1) (.t4 o52.2.2)])],1006⟩ (some 7) (fun st9=>(Bp (EV (C2 L) (L+24) 6 c88.u.r) (Cx Tryz.prog (RS Tryz.f88) (B2 Tryz.prog (C2 L) (EI (C2 L) (L+24) 7) 1 (List.drop 4 Btv.u.l.ops) ⟨[(5,lv (.t9 p1_0.Counts)),(4,.loc 1 9),(3,.clo 88 0 [.loc 3 0]),(0,.loc 4 0),(1,.loc 1 0),(2,I 0)],[(1,(Ad p1_0)),(3,[.mp 5]),(4,[.clo 88 0 [.loc 3 0]]),(5,[.mapO false false (.t9 o52.2.1) (.t4 o52.2.2)])],1006⟩ (some 6) (fun st9=>(Bp (EV (C2 L) (L+24) 7 Btv.u.r) (Cx Tryz.prog (RS Tryz.f108) (B2 Tryz.prog (C2 L) (EI (C2 L) (L+24) 8) 1 (List.drop 2 V0.u.l.u.l.l.w.l.l.u.l.ops) ⟨[(12,.clo 108 0 [.loc 4 0,.loc 1 0]),(2,I 0),(4,.clo 108 0 [.loc 4 0,.loc 1 0]),(6,.sl false 170 1 [[.clo 91 0 [.loc 3 0,.loc 1 0]],[.clo 92 0 [.loc 1 0,.loc 3 0]],[.clo 98 0 [.loc 1 0,.loc 3 0]],[.clo 101 0 [.loc 1 0,.loc 3 0]],[.clo 104 0 [.loc 4 0,.loc 1 0]],[.clo 105 0 [.loc 4 0,.loc 1 0]],[.clo 106 0 [.loc 4 0,.loc 1 0]],[.clo 107 0 [.loc 4 0,.loc 1 0]],[.clo 108 0 [.loc 4 0,.loc 1 0]],[.clo 109 0 [.loc 1 0,.loc 3 0]],[.clo 113 0 [.loc 1 0]],[.clo 117 0 [.loc 1 0]]]),(7,I 12),(8,I 8),(9,B true),(10,.ref [.clo 108 0 [.loc 4 0,.loc 1 0]]),(11,.clo 108 0 [.loc 4 0,.loc 1 0])],[(1,(Ad p1_0)),(3,[.mp 5]),(4,[.clo 88 0 [.loc 3 0]]),(5,[.mapO false false (.t9 o52.2.1) (.t4 o52.2.2)])],1006⟩ (some 13) (fun st9=>(Bp (EV (C2 L) (L+24) 8 V0.u.l.u.l.l.w.l.l.u.r) (Bb 1 (Bp (EV (C2 L) (L+24) 8 V0.u.l.u.l.l.w.r) (D4 (Ep (EV (C2 L) (L+24) 8 V0.u.l.u.l.l) [0,2,6,7,8] [1,3,4,5] (L+15)) [0,2,6,7,8] [1,3,4,5] (Ud L k))))) .normal st9)))) .normal st9)))) .normal st9))
theorem Bjt(p1_0:Aa)(o52:Cj)(o53:Cj):w9 p1_0.Counts p1_0 o52.2.1 o52.2.2 (Axu L k p1_0 o52) o53=ob (W2 L p1_0 o53) (N8 p1_0 k):=eE (Xj L p1_0 o53 (fun o53=>ho (Bh0 L (Axy L k p1_0 o53) p1_0.Routines p1_0 o53.2.1 o53.2.2) fun o62=>Bjx L k p1_0 o53 o62))
def Xg [An A Cj](L:Nat)(p1_0:Aa)(o52:Cj)(nx102:Cj→A):A:=
 (cn (o52.1 != 0)
 (lf (o52.1,o52.2.1,o52.2.2))
 (gq ((0:Int)≤8)
 (gq (8 < ((12:Nat):Int))
 (nx102 o52))))
def W1 [An A Cj](p1_0:Aa)(o52:Cj):A:=Xg L p1_0 o52 (fun o52=>bd (Gi L p1_0.Counts p1_0 o52.2.1 o52.2.2) fun o53=>W2 L p1_0 o53)
def Axt(p1_0:Aa)(o51:Cj):Bu:=(B2 Tryz.prog (C2 L) (EI (C2 L) (L+24) 6) 1 (List.drop 4 c88.u.l.ops) ⟨[(6,.clo 59 1 [.mp 5]),(5,.mp 5),(4,lv (.t9 p1_0.Levels)),(0,lv (.t9 p1_0.Levels)),(1,.loc 3 0),(3,I 0)],[(1,(Ad p1_0)),(3,[.mp 5]),(4,[.clo 88 0 [.loc 3 0]]),(5,[.mapO false false (.t9 o51.2.1) (.t4 o51.2.2)])],1006⟩ (some 7) (fun st9=>(Bp (EV (C2 L) (L+24) 6 c88.u.r) (Cx Tryz.prog (RS Tryz.f88) (B2 Tryz.prog (C2 L) (EI (C2 L) (L+24) 7) 1 (List.drop 4 Btu.u.l.ops) ⟨[(5,lv (.t9 p1_0.Levels)),(4,.loc 1 8),(3,.clo 88 0 [.loc 3 0]),(0,.loc 4 0),(1,.loc 1 0),(2,I 0)],[(1,(Ad p1_0)),(3,[.mp 5]),(4,[.clo 88 0 [.loc 3 0]]),(5,[.mapO false false (.t9 o51.2.1) (.t4 o51.2.2)])],1006⟩ (some 6) (fun st9=>(Bp (EV (C2 L) (L+24) 7 Btu.u.r) (Cx Tryz.prog (RS Tryz.f107) (B2 Tryz.prog (C2 L) (EI (C2 L) (L+24) 8) 1 (List.drop 2 V0.u.l.u.l.l.w.l.l.u.l.ops) ⟨[(12,.clo 107 0 [.loc 4 0,.loc 1 0]),(2,I 0),(4,.clo 107 0 [.loc 4 0,.loc 1 0]),(6,.sl false 170 1 [[.clo 91 0 [.loc 3 0,.loc 1 0]],[.clo 92 0 [.loc 1 0,.loc 3 0]],[.clo 98 0 [.loc 1 0,.loc 3 0]],[.clo 101 0 [.loc 1 0,.loc 3 0]],[.clo 104 0 [.loc 4 0,.loc 1 0]],[.clo 105 0 [.loc 4 0,.loc 1 0]],[.clo 106 0 [.loc 4 0,.loc 1 0]],[.clo 107 0 [.loc 4 0,.loc 1 0]],[.clo 108 0 [.loc 4 0,.loc 1 0]],[.clo 109 0 [.loc 1 0,.loc 3 0]],[.clo 113 0 [.loc 1 0]],[.clo 117 0 [.loc 1 0]]]),(7,I 12),(8,I 7),(9,B true),(10,.ref [.clo 107 0 [.loc 4 0,.loc 1 0]]),(11,.clo 107 0 [.loc 4 0,.loc 1 0])],[(1,(Ad p1_0)),(3,[.mp 5]),(4,[.clo 88 0 [.loc 3 0]]),(5,[.mapO false false (.t9 o51.2.1) (.t4 o51.2.2)])],1006⟩ (some 13) (fun st9=>(Bp (EV (C2 L) (L+24) 8 V0.u.l.u.l.l.w.l.l.u.r) (Bb 1 (Bp (EV (C2 L) (L+24) 8 V0.u.l.u.l.l.w.r) (D4 (Ep (EV (C2 L) (L+24) 8 V0.u.l.u.l.l) [0,2,6,7,8] [1,3,4,5] (L+16)) [0,2,6,7,8] [1,3,4,5] (Ud L k))))) .normal st9)))) .normal st9)))) .normal st9))
theorem Bjs(p1_0:Aa)(o51:Cj)(o52:Cj):w9 p1_0.Levels p1_0 o51.2.1 o51.2.2 (Axt L k p1_0 o51) o52=ob (W1 L p1_0 o52) (N8 p1_0 k):=eE (Xg L p1_0 o52 (fun o52=>ho (Ajl L (Axu L k p1_0 o52) p1_0.Counts p1_0 o52.2.1 o52.2.2) fun o53=>Bjt L k p1_0 o52 o53))
def Xf [An A Cj](L:Nat)(p1_0:Aa)(o51:Cj)(nx101:Cj→A):A:=
 (cn (o51.1 != 0)
 (lf (o51.1,o51.2.1,o51.2.2))
 (gq ((0:Int)≤7)
 (gq (7 < ((12:Nat):Int))
 (nx101 o51))))
def W0 [An A Cj](p1_0:Aa)(o51:Cj):A:=Xf L p1_0 o51 (fun o51=>bd (Gi L p1_0.Levels p1_0 o51.2.1 o51.2.2) fun o52=>W1 L p1_0 o52)
def Axs(p1_0:Aa)(o50:Cj):Bu:=(B2 Tryz.prog (C2 L) (EI (C2 L) (L+24) 6) 1 (List.drop 4 c88.u.l.ops) ⟨[(6,.clo 59 1 [.mp 5]),(5,.mp 5),(4,lv (.t9 p1_0.Tallies)),(0,lv (.t9 p1_0.Tallies)),(1,.loc 3 0),(3,I 0)],[(1,(Ad p1_0)),(3,[.mp 5]),(4,[.clo 88 0 [.loc 3 0]]),(5,[.mapO false false (.t9 o50.2.1) (.t4 o50.2.2)])],1006⟩ (some 7) (fun st9=>(Bp (EV (C2 L) (L+24) 6 c88.u.r) (Cx Tryz.prog (RS Tryz.f88) (B2 Tryz.prog (C2 L) (EI (C2 L) (L+24) 7) 1 (List.drop 4 Btt.u.l.ops) ⟨[(5,lv (.t9 p1_0.Tallies)),(4,.loc 1 7),(3,.clo 88 0 [.loc 3 0]),(0,.loc 4 0),(1,.loc 1 0),(2,I 0)],[(1,(Ad p1_0)),(3,[.mp 5]),(4,[.clo 88 0 [.loc 3 0]]),(5,[.mapO false false (.t9 o50.2.1) (.t4 o50.2.2)])],1006⟩ (some 6) (fun st9=>(Bp (EV (C2 L) (L+24) 7 Btt.u.r) (Cx Tryz.prog (RS Tryz.f106) (B2 Tryz.prog (C2 L) (EI (C2 L) (L+24) 8) 1 (List.drop 2 V0.u.l.u.l.l.w.l.l.u.l.ops) ⟨[(12,.clo 106 0 [.loc 4 0,.loc 1 0]),(2,I 0),(4,.clo 106 0 [.loc 4 0,.loc 1 0]),(6,.sl false 170 1 [[.clo 91 0 [.loc 3 0,.loc 1 0]],[.clo 92 0 [.loc 1 0,.loc 3 0]],[.clo 98 0 [.loc 1 0,.loc 3 0]],[.clo 101 0 [.loc 1 0,.loc 3 0]],[.clo 104 0 [.loc 4 0,.loc 1 0]],[.clo 105 0 [.loc 4 0,.loc 1 0]],[.clo 106 0 [.loc 4 0,.loc 1 0]],[.clo 107 0 [.loc 4 0,.loc 1 0]],[.clo 108 0 [.loc 4 0,.loc 1 0]],[.clo 109 0 [.loc 1 0,.loc 3 0]],[.clo 113 0 [.loc 1 0]],[.clo 117 0 [.loc 1 0]]]),(7,I 12),(8,I 6),(9,B true),(10,.ref [.clo 106 0 [.loc 4 0,.loc 1 0]]),(11,.clo 106 0 [.loc 4 0,.loc 1 0])],[(1,(Ad p1_0)),(3,[.mp 5]),(4,[.clo 88 0 [.loc 3 0]]),(5,[.mapO false false (.t9 o50.2.1) (.t4 o50.2.2)])],1006⟩ (some 13) (fun st9=>(Bp (EV (C2 L) (L+24) 8 V0.u.l.u.l.l.w.l.l.u.r) (Bb 1 (Bp (EV (C2 L) (L+24) 8 V0.u.l.u.l.l.w.r) (D4 (Ep (EV (C2 L) (L+24) 8 V0.u.l.u.l.l) [0,2,6,7,8] [1,3,4,5] (L+17)) [0,2,6,7,8] [1,3,4,5] (Ud L k))))) .normal st9)))) .normal st9)))) .normal st9))
theorem Bjr(p1_0:Aa)(o50:Cj)(o51:Cj):w9 p1_0.Tallies p1_0 o50.2.1 o50.2.2 (Axs L k p1_0 o50) o51=ob (W0 L p1_0 o51) (N8 p1_0 k):=eE (Xf L p1_0 o51 (fun o51=>ho (Ajl L (Axt L k p1_0 o51) p1_0.Levels p1_0 o51.2.1 o51.2.2) fun o52=>Bjs L k p1_0 o51 o52))
def Xe [An A Cj](L:Nat)(p1_0:Aa)(o50:Cj)(nx100:Cj→A):A:=
 (cn (o50.1 != 0)
 (lf (o50.1,o50.2.1,o50.2.2))
 (gq ((0:Int)≤6)
 (gq (6 < ((12:Nat):Int))
 (nx100 o50))))
def k4 [An A Cj](p1_0:Aa)(o50:Cj):A:=Xe L p1_0 o50 (fun o50=>bd (Gi L p1_0.Tallies p1_0 o50.2.1 o50.2.2) fun o51=>W0 L p1_0 o51)
def A5q(p1_0:Aa)(o49:Cj):Bu:=(B2 Tryz.prog (C2 L) (EI (C2 L) (L+24) 6) 1 (List.drop 4 c88.u.l.ops) ⟨[(6,.clo 59 1 [.mp 5]),(5,.mp 5),(4,lv (.t9 p1_0.Streams)),(0,lv (.t9 p1_0.Streams)),(1,.loc 3 0),(3,I 0)],[(1,(Ad p1_0)),(3,[.mp 5]),(4,[.clo 88 0 [.loc 3 0]]),(5,[.mapO false false (.t9 o49.2.1) (.t4 o49.2.2)])],1006⟩ (some 7) (fun st9=>(Bp (EV (C2 L) (L+24) 6 c88.u.r) (Cx Tryz.prog (RS Tryz.f88) (B2 Tryz.prog (C2 L) (EI (C2 L) (L+24) 7) 1 (List.drop 4 Bts.u.l.ops) ⟨[(5,lv (.t9 p1_0.Streams)),(4,.loc 1 6),(3,.clo 88 0 [.loc 3 0]),(0,.loc 4 0),(1,.loc 1 0),(2,I 0)],[(1,(Ad p1_0)),(3,[.mp 5]),(4,[.clo 88 0 [.loc 3 0]]),(5,[.mapO false false (.t9 o49.2.1) (.t4 o49.2.2)])],1006⟩ (some 6) (fun st9=>(Bp (EV (C2 L) (L+24) 7 Bts.u.r) (Cx Tryz.prog (RS Tryz.f105) (B2 Tryz.prog (C2 L) (EI (C2 L) (L+24) 8) 1 (List.drop 2 V0.u.l.u.l.l.w.l.l.u.l.ops) ⟨[(12,.clo 105 0 [.loc 4 0,.loc 1 0]),(2,I 0),(4,.clo 105 0 [.loc 4 0,.loc 1 0]),(6,.sl false 170 1 [[.clo 91 0 [.loc 3 0,.loc 1 0]],[.clo 92 0 [.loc 1 0,.loc 3 0]],[.clo 98 0 [.loc 1 0,.loc 3 0]],[.clo 101 0 [.loc 1 0,.loc 3 0]],[.clo 104 0 [.loc 4 0,.loc 1 0]],[.clo 105 0 [.loc 4 0,.loc 1 0]],[.clo 106 0 [.loc 4 0,.loc 1 0]],[.clo 107 0 [.loc 4 0,.loc 1 0]],[.clo 108 0 [.loc 4 0,.loc 1 0]],[.clo 109 0 [.loc 1 0,.loc 3 0]],[.clo 113 0 [.loc 1 0]],[.clo 117 0 [.loc 1 0]]]),(7,I 12),(8,I 5),(9,B true),(10,.ref [.clo 105 0 [.loc 4 0,.loc 1 0]]),(11,.clo 105 0 [.loc 4 0,.loc 1 0])],[(1,(Ad p1_0)),(3,[.mp 5]),(4,[.clo 88 0 [.loc 3 0]]),(5,[.mapO false false (.t9 o49.2.1) (.t4 o49.2.2)])],1006⟩ (some 13) (fun st9=>(Bp (EV (C2 L) (L+24) 8 V0.u.l.u.l.l.w.l.l.u.r) (Bb 1 (Bp (EV (C2 L) (L+24) 8 V0.u.l.u.l.l.w.r) (D4 (Ep (EV (C2 L) (L+24) 8 V0.u.l.u.l.l) [0,2,6,7,8] [1,3,4,5] (L+18)) [0,2,6,7,8] [1,3,4,5] (Ud L k))))) .normal st9)))) .normal st9)))) .normal st9))
theorem Brm(p1_0:Aa)(o49:Cj)(o50:Cj):w9 p1_0.Streams p1_0 o49.2.1 o49.2.2 (A5q L k p1_0 o49) o50=ob (k4 L p1_0 o50) (N8 p1_0 k):=eE (Xe L p1_0 o50 (fun o50=>ho (Ajl L (Axs L k p1_0 o50) p1_0.Tallies p1_0 o50.2.1 o50.2.2) fun o51=>Bjr L k p1_0 o50 o51))
def t8 [An A Cj](L:Nat)(p1_0:Aa)(o49:Cj)(nx99:Cj→A):A:=
 (cn (o49.1 != 0)
 (lf (o49.1,o49.2.1,o49.2.2))
 (gq ((0:Int)≤5)
 (gq (5 < ((12:Nat):Int))
 (nx99 o49))))
def j9 [An A Cj](p1_0:Aa)(o49:Cj):A:=t8 L p1_0 o49 (fun o49=>bd (Gi L p1_0.Streams p1_0 o49.2.1 o49.2.2) fun o50=>k4 L p1_0 o50)
def A5p(p1_0:Aa)(o42:Cj):Bu:=(B2 Tryz.prog (C2 L) (EI (C2 L) (L+24) 6) 1 (List.drop 4 c88.u.l.ops) ⟨[(6,.clo 59 1 [.mp 5]),(5,.mp 5),(4,lv (.t9 p1_0.Queues)),(0,lv (.t9 p1_0.Queues)),(1,.loc 3 0),(3,I 0)],[(1,(Ad p1_0)),(3,[.mp 5]),(4,[.clo 88 0 [.loc 3 0]]),(5,[.mapO false false (.t9 o42.2.1) (.t4 o42.2.2)])],1006⟩ (some 7) (fun st9=>(Bp (EV (C2 L) (L+24) 6 c88.u.r) (Cx Tryz.prog (RS Tryz.f88) (B2 Tryz.prog (C2 L) (EI (C2 L) (L+24) 7) 1 (List.drop 4 Btr.u.l.ops) ⟨[(5,lv (.t9 p1_0.Queues)),(4,.loc 1 5),(3,.clo 88 0 [.loc 3 0]),(0,.loc 4 0),(1,.loc 1 0),(2,I 0)],[(1,(Ad p1_0)),(3,[.mp 5]),(4,[.clo 88 0 [.loc 3 0]]),(5,[.mapO false false (.t9 o42.2.1) (.t4 o42.2.2)])],1006⟩ (some 6) (fun st9=>(Bp (EV (C2 L) (L+24) 7 Btr.u.r) (Cx Tryz.prog (RS Tryz.f104) (B2 Tryz.prog (C2 L) (EI (C2 L) (L+24) 8) 1 (List.drop 2 V0.u.l.u.l.l.w.l.l.u.l.ops) ⟨[(12,.clo 104 0 [.loc 4 0,.loc 1 0]),(2,I 0),(4,.clo 104 0 [.loc 4 0,.loc 1 0]),(6,.sl false 170 1 [[.clo 91 0 [.loc 3 0,.loc 1 0]],[.clo 92 0 [.loc 1 0,.loc 3 0]],[.clo 98 0 [.loc 1 0,.loc 3 0]],[.clo 101 0 [.loc 1 0,.loc 3 0]],[.clo 104 0 [.loc 4 0,.loc 1 0]],[.clo 105 0 [.loc 4 0,.loc 1 0]],[.clo 106 0 [.loc 4 0,.loc 1 0]],[.clo 107 0 [.loc 4 0,.loc 1 0]],[.clo 108 0 [.loc 4 0,.loc 1 0]],[.clo 109 0 [.loc 1 0,.loc 3 0]],[.clo 113 0 [.loc 1 0]],[.clo 117 0 [.loc 1 0]]]),(7,I 12),(8,I 4),(9,B true),(10,.ref [.clo 104 0 [.loc 4 0,.loc 1 0]]),(11,.clo 104 0 [.loc 4 0,.loc 1 0])],[(1,(Ad p1_0)),(3,[.mp 5]),(4,[.clo 88 0 [.loc 3 0]]),(5,[.mapO false false (.t9 o42.2.1) (.t4 o42.2.2)])],1006⟩ (some 13) (fun st9=>(Bp (EV (C2 L) (L+24) 8 V0.u.l.u.l.l.w.l.l.u.r) (Bb 1 (Bp (EV (C2 L) (L+24) 8 V0.u.l.u.l.l.w.r) (D4 (Ep (EV (C2 L) (L+24) 8 V0.u.l.u.l.l) [0,2,6,7,8] [1,3,4,5] (L+19)) [0,2,6,7,8] [1,3,4,5] (Ud L k))))) .normal st9)))) .normal st9)))) .normal st9))
theorem Brl(p1_0:Aa)(o42:Cj)(o49:Cj):w9 p1_0.Queues p1_0 o42.2.1 o42.2.2 (A5p L k p1_0 o42) o49=ob (j9 L p1_0 o49) (N8 p1_0 k):=eE (t8 L p1_0 o49 (fun o49=>ho (Ajl L (A5q L k p1_0 o49) p1_0.Streams p1_0 o49.2.1 o49.2.2) fun o50=>Brm L k p1_0 o49 o50))
def t7 [An A Cj](L:Nat)(p1_0:Aa)(o42:Cj)(nx98:Cj→A):A:=
 (cn (o42.1 != 0)
 (lf (o42.1,o42.2.1,o42.2.2))
 (gq ((0:Int)≤4)
 (gq (4 < ((12:Nat):Int))
 (nx98 o42))))
def j8 [An A Cj](p1_0:Aa)(o42:Cj):A:=t7 L p1_0 o42 (fun o42=>bd (Gi L p1_0.Queues p1_0 o42.2.1 o42.2.2) fun o49=>j9 L p1_0 o49)
def A5m(p1_0:Aa)(o31:Cj):Bu:=(B2 Tryz.prog (C2 L) (EI (C2 L) (L+24) 7) 1 (List.drop 4 Btq.u.l.ops) ⟨[(5,.clo 103 0 [.loc 3 0]),(4,lv (.t178 p1_0.Belts)),(3,.loc 1 4),(0,.loc 1 0),(1,.loc 3 0),(2,I 0)],[(1,(Ad p1_0)),(3,[.mp 5]),(4,[.clo 88 0 [.loc 3 0]]),(5,[.mapO false false (.t9 o31.2.1) (.t4 o31.2.2)])],1006⟩ (some 6) (fun st9=>(Bp (EV (C2 L) (L+24) 7 Btq.u.r) (Cx Tryz.prog (RS Tryz.f101) (B2 Tryz.prog (C2 L) (EI (C2 L) (L+24) 8) 1 (List.drop 2 V0.u.l.u.l.l.w.l.l.u.l.ops) ⟨[(12,.clo 101 0 [.loc 1 0,.loc 3 0]),(2,I 0),(4,.clo 101 0 [.loc 1 0,.loc 3 0]),(6,.sl false 170 1 [[.clo 91 0 [.loc 3 0,.loc 1 0]],[.clo 92 0 [.loc 1 0,.loc 3 0]],[.clo 98 0 [.loc 1 0,.loc 3 0]],[.clo 101 0 [.loc 1 0,.loc 3 0]],[.clo 104 0 [.loc 4 0,.loc 1 0]],[.clo 105 0 [.loc 4 0,.loc 1 0]],[.clo 106 0 [.loc 4 0,.loc 1 0]],[.clo 107 0 [.loc 4 0,.loc 1 0]],[.clo 108 0 [.loc 4 0,.loc 1 0]],[.clo 109 0 [.loc 1 0,.loc 3 0]],[.clo 113 0 [.loc 1 0]],[.clo 117 0 [.loc 1 0]]]),(7,I 12),(8,I 3),(9,B true),(10,.ref [.clo 101 0 [.loc 1 0,.loc 3 0]]),(11,.clo 101 0 [.loc 1 0,.loc 3 0])],[(1,(Ad p1_0)),(3,[.mp 5]),(4,[.clo 88 0 [.loc 3 0]]),(5,[.mapO false false (.t9 o31.2.1) (.t4 o31.2.2)])],1006⟩ (some 13) (fun st9=>(Bp (EV (C2 L) (L+24) 8 V0.u.l.u.l.l.w.l.l.u.r) (Bb 1 (Bp (EV (C2 L) (L+24) 8 V0.u.l.u.l.l.w.r) (D4 (Ep (EV (C2 L) (L+24) 8 V0.u.l.u.l.l) [0,2,6,7,8] [1,3,4,5] (L+20)) [0,2,6,7,8] [1,3,4,5] (Ud L k))))) .normal st9)))) .normal st9))
theorem Bri(p1_0:Aa)(o31:Cj)(o42:Cj):Ats p1_0.Belts p1_0 o31.2.1 o31.2.2 (A5m L k p1_0 o31) o42=ob (j8 L p1_0 o42) (N8 p1_0 k):=eE (t7 L p1_0 o42 (fun o42=>ho (Ajl L (A5p L k p1_0 o42) p1_0.Queues p1_0 o42.2.1 o42.2.2) fun o49=>Brl L k p1_0 o42 o49))
def s8 [An A Cj](L:Nat)(p1_0:Aa)(o31:Cj)(nx93:Cj→A):A:=
 (cn (o31.1 != 0)
 (lf (o31.1,o31.2.1,o31.2.2))
 (gq ((0:Int)≤3)
 (gq (3 < ((12:Nat):Int))
 (nx93 o31))))
def j7 [An A Cj](p1_0:Aa)(o31:Cj):A:=s8 L p1_0 o31 (fun o31=>bd (Z1 L p1_0.Belts p1_0 o31.2.1 o31.2.2) fun o42=>j8 L p1_0 o42)
def A5i(p1_0:Aa)(o21:Cj):Bu:=(B2 Tryz.prog (C2 L) (EI (C2 L) (L+24) 7) 1 (List.drop 4 c98.u.l.ops) ⟨[(5,.clo 100 0 [.loc 3 0]),(4,lv (.t89 p1_0.Stores)),(3,.loc 1 3),(0,.loc 1 0),(1,.loc 3 0),(2,I 0)],[(1,(Ad p1_0)),(3,[.mp 5]),(4,[.clo 88 0 [.loc 3 0]]),(5,[.mapO false false (.t9 o21.2.1) (.t4 o21.2.2)])],1006⟩ (some 6) (fun st9=>(Bp (EV (C2 L) (L+24) 7 c98.u.r) (Cx Tryz.prog (RS Tryz.f98) (B2 Tryz.prog (C2 L) (EI (C2 L) (L+24) 8) 1 (List.drop 2 V0.u.l.u.l.l.w.l.l.u.l.ops) ⟨[(12,.clo 98 0 [.loc 1 0,.loc 3 0]),(2,I 0),(4,.clo 98 0 [.loc 1 0,.loc 3 0]),(6,.sl false 170 1 [[.clo 91 0 [.loc 3 0,.loc 1 0]],[.clo 92 0 [.loc 1 0,.loc 3 0]],[.clo 98 0 [.loc 1 0,.loc 3 0]],[.clo 101 0 [.loc 1 0,.loc 3 0]],[.clo 104 0 [.loc 4 0,.loc 1 0]],[.clo 105 0 [.loc 4 0,.loc 1 0]],[.clo 106 0 [.loc 4 0,.loc 1 0]],[.clo 107 0 [.loc 4 0,.loc 1 0]],[.clo 108 0 [.loc 4 0,.loc 1 0]],[.clo 109 0 [.loc 1 0,.loc 3 0]],[.clo 113 0 [.loc 1 0]],[.clo 117 0 [.loc 1 0]]]),(7,I 12),(8,I 2),(9,B true),(10,.ref [.clo 98 0 [.loc 1 0,.loc 3 0]]),(11,.clo 98 0 [.loc 1 0,.loc 3 0])],[(1,(Ad p1_0)),(3,[.mp 5]),(4,[.clo 88 0 [.loc 3 0]]),(5,[.mapO false false (.t9 o21.2.1) (.t4 o21.2.2)])],1006⟩ (some 13) (fun st9=>(Bp (EV (C2 L) (L+24) 8 V0.u.l.u.l.l.w.l.l.u.r) (Bb 1 (Bp (EV (C2 L) (L+24) 8 V0.u.l.u.l.l.w.r) (D4 (Ep (EV (C2 L) (L+24) 8 V0.u.l.u.l.l) [0,2,6,7,8] [1,3,4,5] (L+21)) [0,2,6,7,8] [1,3,4,5] (Ud L k))))) .normal st9)))) .normal st9))
theorem Bre(p1_0:Aa)(o21:Cj)(o31:Cj):Atq p1_0.Stores p1_0 o21.2.1 o21.2.2 (A5i L k p1_0 o21) o31=ob (j7 L p1_0 o31) (N8 p1_0 k):=eE (s8 L p1_0 o31 (fun o31=>ho (Bhw L (A5m L k p1_0 o31) p1_0.Belts p1_0 o31.2.1 o31.2.2) fun o42=>Bri L k p1_0 o31 o42))
def q8 [An A Cj](L:Nat)(p1_0:Aa)(o21:Cj)(nx84:Cj→A):A:=
 (cn (o21.1 != 0)
 (lf (o21.1,o21.2.1,o21.2.2))
 (gq ((0:Int)≤2)
 (gq (2 < ((12:Nat):Int))
 (nx84 o21))))
def j6 [An A Cj](p1_0:Aa)(o21:Cj):A:=q8 L p1_0 o21 (fun o21=>bd (Zy L p1_0.Stores p1_0 o21.2.1 o21.2.2) fun o31=>j7 L p1_0 o31)
def A5e(p1_0:Aa)(o10:Cj):Bu:=(B2 Tryz.prog (C2 L) (EI (C2 L) (L+24) 7) 1 (List.drop 4 c92.u.l.ops) ⟨[(5,.clo 94 0 [.loc 3 0,.loc 1 0]),(4,lv (.t86 p1_0.Resources)),(3,.loc 1 2),(0,.loc 1 0),(1,.loc 3 0),(2,I 0)],[(1,(Ad p1_0)),(3,[.mp 5]),(4,[.clo 88 0 [.loc 3 0]]),(5,[.mapO false false (.t9 o10.2.1) (.t4 o10.2.2)])],1006⟩ (some 6) (fun st9=>(Bp (EV (C2 L) (L+24) 7 c92.u.r) (Cx Tryz.prog (RS Tryz.f92) (B2 Tryz.prog (C2 L) (EI (C2 L) (L+24) 8) 1 (List.drop 2 V0.u.l.u.l.l.w.l.l.u.l.ops) ⟨[(12,.clo 92 0 [.loc 1 0,.loc 3 0]),(2,I 0),(4,.clo 92 0 [.loc 1 0,.loc 3 0]),(6,.sl false 170 1 [[.clo 91 0 [.loc 3 0,.loc 1 0]],[.clo 92 0 [.loc 1 0,.loc 3 0]],[.clo 98 0 [.loc 1 0,.loc 3 0]],[.clo 101 0 [.loc 1 0,.loc 3 0]],[.clo 104 0 [.loc 4 0,.loc 1 0]],[.clo 105 0 [.loc 4 0,.loc 1 0]],[.clo 106 0 [.loc 4 0,.loc 1 0]],[.clo 107 0 [.loc 4 0,.loc 1 0]],[.clo 108 0 [.loc 4 0,.loc 1 0]],[.clo 109 0 [.loc 1 0,.loc 3 0]],[.clo 113 0 [.loc 1 0]],[.clo 117 0 [.loc 1 0]]]),(7,I 12),(8,I 1),(9,B true),(10,.ref [.clo 92 0 [.loc 1 0,.loc 3 0]]),(11,.clo 92 0 [.loc 1 0,.loc 3 0])],[(1,(Ad p1_0)),(3,[.mp 5]),(4,[.clo 88 0 [.loc 3 0]]),(5,[.mapO false false (.t9 o10.2.1) (.t4 o10.2.2)])],1006⟩ (some 13) (fun st9=>(Bp (EV (C2 L) (L+24) 8 V0.u.l.u.l.l.w.l.l.u.r) (Bb 1 (Bp (EV (C2 L) (L+24) 8 V0.u.l.u.l.l.w.r) (D4 (Ep (EV (C2 L) (L+24) 8 V0.u.l.u.l.l) [0,2,6,7,8] [1,3,4,5] (L+22)) [0,2,6,7,8] [1,3,4,5] (Ud L k))))) .normal st9)))) .normal st9))
theorem Bra(p1_0:Aa)(o10:Cj)(o21:Cj):Ato p1_0.Resources p1_0 o10.2.1 o10.2.2 (A5e L k p1_0 o10) o21=ob (j6 L p1_0 o21) (N8 p1_0 k):=eE (q8 L p1_0 o21 (fun o21=>ho (Bht L (A5i L k p1_0 o21) p1_0.Stores p1_0 o21.2.1 o21.2.2) fun o31=>Bre L k p1_0 o21 o31))
def p9 [An A Cj](L:Nat)(p1_0:Aa)(o10:Cj)(nx75:Cj→A):A:=
 (cn (o10.1 != 0)
 (lf (o10.1,o10.2.1,o10.2.2))
 (gq ((0:Int)≤1)
 (gq (1 < ((12:Nat):Int))
 (nx75 o10))))
def j5 [An A Cj](p1_0:Aa)(o10:Cj):A:=p9 L p1_0 o10 (fun o10=>bd (Zv L p1_0.Resources p1_0 o10.2.1 o10.2.2) fun o21=>j6 L p1_0 o21)
def A5a(p1_0:Aa):Bu:=(B2 Tryz.prog (C2 L) (EI (C2 L) (L+24) 6) 1 (List.drop 4 c56.u.l.ops) ⟨[(7,.clo 87 1 [.mp 5]),(6,.mp 5),(5,lv (.t123 p1_0.Vars)),(0,.mp 5),(1,lv (.t123 p1_0.Vars)),(4,I 0)],[(1,(Ad p1_0)),(3,[.mp 5]),(4,[.clo 88 0 [.loc 3 0]]),(5,[.mapO false false (.t9 []) (.t4 [])])],1006⟩ (some 8) (fun st9=>(Bp (EV (C2 L) (L+24) 6 c56.u.r) (Cx Tryz.prog (RS Tryz.f56) (B2 Tryz.prog (C2 L) (EI (C2 L) (L+24) 7) 1 (List.drop 4 c91.u.l.ops) ⟨[(5,lv (.t123 p1_0.Vars)),(4,.loc 1 1),(3,.mp 5),(0,.loc 3 0),(1,.loc 1 0),(2,I 0)],[(1,(Ad p1_0)),(3,[.mp 5]),(4,[.clo 88 0 [.loc 3 0]]),(5,[.mapO false false (.t9 []) (.t4 [])])],1006⟩ (some 6) (fun st9=>(Bp (EV (C2 L) (L+24) 7 c91.u.r) (Cx Tryz.prog (RS Tryz.f91) (B2 Tryz.prog (C2 L) (EI (C2 L) (L+24) 8) 1 (List.drop 2 V0.u.l.u.l.l.w.l.l.u.l.ops) ⟨[(12,.clo 91 0 [.loc 3 0,.loc 1 0]),(2,I 0),(4,.clo 91 0 [.loc 3 0,.loc 1 0]),(6,.sl false 170 1 [[.clo 91 0 [.loc 3 0,.loc 1 0]],[.clo 92 0 [.loc 1 0,.loc 3 0]],[.clo 98 0 [.loc 1 0,.loc 3 0]],[.clo 101 0 [.loc 1 0,.loc 3 0]],[.clo 104 0 [.loc 4 0,.loc 1 0]],[.clo 105 0 [.loc 4 0,.loc 1 0]],[.clo 106 0 [.loc 4 0,.loc 1 0]],[.clo 107 0 [.loc 4 0,.loc 1 0]],[.clo 108 0 [.loc 4 0,.loc 1 0]],[.clo 109 0 [.loc 1 0,.loc 3 0]],[.clo 113 0 [.loc 1 0]],[.clo 117 0 [.loc 1 0]]]),(7,I 12),(8,I 0),(9,B true),(10,.ref [.clo 91 0 [.loc 3 0,.loc 1 0]]),(11,.clo 91 0 [.loc 3 0,.loc 1 0])],[(1,(Ad p1_0)),(3,[.mp 5]),(4,[.clo 88 0 [.loc 3 0]]),(5,[.mapO false false (.t9 []) (.t4 [])])],1006⟩ (some 13) (fun st9=>(Bp (EV (C2 L) (L+24) 8 V0.u.l.u.l.l.w.l.l.u.r) (Bb 1 (Bp (EV (C2 L) (L+24) 8 V0.u.l.u.l.l.w.r) (D4 (Ep (EV (C2 L) (L+24) 8 V0.u.l.u.l.l) [0,2,6,7,8] [1,3,4,5] (L+23)) [0,2,6,7,8] [1,3,4,5] (Ud L k))))) .normal st9)))) .normal st9)))) .normal st9))
theorem Bq6(p1_0:Aa)(o10:Cj):Atm p1_0.Vars p1_0 (A5a L k p1_0) o10=ob (j5 L p1_0 o10) (N8 p1_0 k):=eE (p9 L p1_0 o10 (fun o10=>ho (Bhq L (A5e L k p1_0 o10) p1_0.Resources p1_0 o10.2.1 o10.2.2) fun o21=>Bra L k p1_0 o10 o21))
def n8 [An A Cj](L:Nat)(p1_0:Aa)(nx66:A):A:=
 (gq ((0:Int)≤0)
 (gq (0 < ((12:Nat):Int))
 nx66))
def An9 [An A Cj](p1_0:Aa):A:=n8 L p1_0 (bd (Zs L p1_0.Vars p1_0) fun o10=>j5 L p1_0 o10)
def Abe(p1_0:Aa):Option Cj:=An9 L p1_0
theorem Bnb(p1_0:Aa):YO (C2 L) (L+24) 9 90 [.sl false 170 1 [[.clo 91 0 [.loc 3 0,.loc 1 0]],[.clo 92 0 [.loc 1 0,.loc 3 0]],[.clo 98 0 [.loc 1 0,.loc 3 0]],[.clo 101 0 [.loc 1 0,.loc 3 0]],[.clo 104 0 [.loc 4 0,.loc 1 0]],[.clo 105 0 [.loc 4 0,.loc 1 0]],[.clo 106 0 [.loc 4 0,.loc 1 0]],[.clo 107 0 [.loc 4 0,.loc 1 0]],[.clo 108 0 [.loc 4 0,.loc 1 0]],[.clo 109 0 [.loc 1 0,.loc 3 0]],[.clo 113 0 [.loc 1 0]],[.clo 117 0 [.loc 1 0]]]] [(1,(Ad p1_0)),(3,[.mp 5]),(4,[.clo 88 0 [.loc 3 0]]),(5,[.mapO false false (.t9 []) (.t4 [])])] k=ob (Abe L p1_0) (N8 p1_0 k):=(Cu _ _ _ Xu _ _ _ _ _ _ _).trans (eE (n8 L p1_0 (ho (Bhn L (A5a L k p1_0) p1_0.Vars p1_0) fun o10=>Bq6 L k p1_0 o10)))
def Ny [An A Int](L:Nat)(o67:Cj):A:=
 (lf o67.1)
def Ax1(a0:Aa):Bu:=(B2 Tryz.prog (C2 L) (EI (C2 L) (L+24) 9) 1 (List.drop 14 c60.w.u.l.ops) ⟨[(19,.sl true 170 1 [[.clo 91 0 [.loc 3 0,.loc 1 0]],[.clo 92 0 [.loc 1 0,.loc 3 0]],[.clo 98 0 [.loc 1 0,.loc 3 0]],[.clo 101 0 [.loc 1 0,.loc 3 0]],[.clo 104 0 [.loc 4 0,.loc 1 0]],[.clo 105 0 [.loc 4 0,.loc 1 0]],[.clo 106 0 [.loc 4 0,.loc 1 0]],[.clo 107 0 [.loc 4 0,.loc 1 0]],[.clo 108 0 [.loc 4 0,.loc 1 0]],[.clo 109 0 [.loc 1 0,.loc 3 0]],[.clo 113 0 [.loc 1 0]],[.clo 117 0 [.loc 1 0]]]),(18,.clo 117 0 [.loc 1 0]),(17,.clo 113 0 [.loc 1 0]),(16,.clo 109 0 [.loc 1 0,.loc 3 0]),(15,.clo 108 0 [.loc 4 0,.loc 1 0]),(14,.clo 107 0 [.loc 4 0,.loc 1 0]),(13,.clo 106 0 [.loc 4 0,.loc 1 0]),(12,.clo 105 0 [.loc 4 0,.loc 1 0]),(11,.clo 104 0 [.loc 4 0,.loc 1 0]),(10,.clo 101 0 [.loc 1 0,.loc 3 0]),(9,.clo 98 0 [.loc 1 0,.loc 3 0]),(8,.clo 92 0 [.loc 1 0,.loc 3 0]),(7,.clo 91 0 [.loc 3 0,.loc 1 0]),(1,.loc 1 0),(2,I 0),(3,.loc 3 0),(4,.loc 4 0)],[(1,(Ad a0)),(3,[.mp 5]),(4,[.clo 88 0 [.loc 3 0]]),(5,[.mapO false false (.t9 []) (.t4 [])])],0⟩ (some 20) (fun st9=>(Bp (EV (C2 L) (L+24) 9 c60.w.u.r) (Ct Tryz.prog (RS Tryz.f60) kk)) .normal st9))
theorem Bj0(a0:Aa)(o67:Cj):N8 a0 (Ax1 L kk a0) o67=ob (Ny L o67) (kQ I kk):=eE (Ny L o67)
def At5 [An A Int](a0:Aa):A:=(bd (Abe L a0) fun o67=>Ny L o67)
def Aij(a0:Aa):Option Int:=At5 L a0
def X60:Di:=E1 I 60 Cs (Aij L) fun a0 r h=>hF Tryz.func60 (C:=C2 L) (oS _) (L+24) (fun kk=>eE ((ho (Bnb L (Ax1 L kk a0) a0) fun o67=>Bj0 L kk a0 o67))) h
end
end Go.Proofs.YthjhkpgonleelaaGreatDoor.Ev
