import Derived.Test.YtfencmicmnhglaaGreatG3
import Derived.Test.YtfencmicmnhglaaGreatG4
import Derived.Test.YtfencmicmnhglaaGreatG5
namespace Go.Proofs.YtfencmicmnhglaaGreat.Ev
open Go An
set_option maxRecDepth 100000
set_option maxHeartbeats 4000000
set_option linter.unusedVariables false
set_option linter.unusedSimpArgs false
set_option linter.unnecessarySimpa false
noncomputable section
variable {A:Type} (L n:Nat) (kk:Il) (K:Br) (k:Bn)
def c61:=CC Tryz.f61
def c82:=CC Tryz.f82
def c83:=CC Tryz.f83
def c84:=CC Tryz.f84
def c85:=CC Tryz.f85
def c86:=CC Tryz.f86
def c87:=CC Tryz.f87
def c88:=CC Tryz.f88
def c89:=CC Tryz.f89
def c90:=CC Tryz.f90
def c94:=CC Tryz.f94
def c95:=CC Tryz.f95
def c96:=CC Tryz.f96
def c97:=CC Tryz.f97
def c98:=CC Tryz.f98
def c99:=CC Tryz.f99
def Bxu:=CC Tryz.f100
def Bxv:=CC Tryz.f101
def Bxw:=CC Tryz.f102
def Bxx:=CC Tryz.f103
def Bxy:=CC Tryz.f104
def Bxz:=CC Tryz.f105
def Bby:=CC Tryz.f106
def Bq2:=CC Tryz.f107
def Bx0:=CC Tryz.f109
def Bx1:=CC Tryz.f110
def c65:=CC Tryz.f65
def Ds:Bq:=oL [X60 L,X91 L,X92 L,X93 L,Bwe L,Bwf L,Bwg L,Biy L,Biz L]
def Aci:Br:=(Ba 0 (Bg (EV (Ds L) (L+24) 8 c86.u.r) (Dq Tryz.prog (RS Tryz.f86) k)))
def A6g(p47_0:ByteArray)(p47_1:Aa)(p47_2:List ByteArray)(p47_3:List Bool)(p47_4:Ah)(p47_5:Ah)(k:Bn):Cp→Prop:=fun o=>k (I o.1) [(1,Ae p47_1),(3,[.mp 5]),(4,[.clo 84 0 [.loc 3 0]]),(5,[.mapO false false (.t9 o.2.1) (.t4 o.2.2)]),(14,Bz p47_4),(18,Bz p47_5)]
def Aep [An A Cp](p47_0:ByteArray)(p47_1:Aa)(p47_2:List ByteArray)(p47_3:List Bool)(p47_4:Ah)(p47_5:Ah):A:=
 (bd (C6 L p47_0) fun r1=>
 (cn (r1 != 0)
 (lf (r1,p47_2,p47_3))
 (fq (p47_2.findIdx? fun b=>p47_0 == b) (fun i2=>
 (cn (p47_3.getD i2 default)
 (lf (4,p47_2,p47_3))
 (fq (p47_2.findIdx? fun b=>p47_0 == b) (fun i3=>
 (lf (0,p47_2,(p47_3.set i3 true))))
 (lf (0,(p47_2++ [p47_0]),(p47_3++ [true]))))))
 (fq (p47_2.findIdx? fun b=>p47_0 == b) (fun i4=>
 (lf (0,p47_2,(p47_3.set i4 true))))
 (lf (0,(p47_2++ [p47_0]),(p47_3++ [true])))))))
def f9(p47_0:ByteArray)(p47_1:Aa)(p47_2:List ByteArray)(p47_3:List Bool)(p47_4:Ah)(p47_5:Ah):Option Cp:=Aep L p47_0 p47_1 p47_2 p47_3 p47_4 p47_5
theorem Bkv(p47_0:ByteArray)(p47_1:Aa)(p47_2:List ByteArray)(p47_3:List Bool)(p47_4:Ah)(p47_5:Ah):YO (Ds L) (L+24) 4 64 [.mp 5,S p47_0] [(1,Ae p47_1),(3,[.mp 5]),(4,[.clo 84 0 [.loc 3 0]]),(5,[.mapO false false (.t9 p47_2) (.t4 p47_3)]),(14,Bz p47_4),(18,Bz p47_5)] k=ob (f9 L p47_0 p47_1 p47_2 p47_3 p47_4 p47_5) (A6g p47_0 p47_1 p47_2 p47_3 p47_4 p47_5 k):=(Cr _ _ _ jn4 _ _ _ _ _ _ _).trans (eE (Aep L p47_0 p47_1 p47_2 p47_3 p47_4 p47_5))
def Aym(p45_0:Ah)(p45_1:Aa)(p45_2:List ByteArray)(p45_3:List Bool)(p45_4:Ah)(k:Bn):Cp→Prop:=fun o=>k (I o.1) [(1,Ae p45_1),(3,[.mp 5]),(4,[.clo 84 0 [.loc 3 0]]),(5,[.mapO false false (.t9 o.2.1) (.t4 o.2.2)]),(14,Bz p45_4),(18,Bz p45_0)]
def Vb [An A Cp](p45_0:Ah)(o5:Cp):A:=
 (cn (o5.1 != 0)
 (lf (o5.1,o5.2.1,o5.2.2))
 (bd (Kj L p45_0.Type_) fun r6=>
 (cn (!r6)
 (lf (1,o5.2.1,o5.2.2))
 (bd (Rm L p45_0.Type_ p45_0.N) fun r7=>
 (cn (!r7)
 (lf (2,o5.2.1,o5.2.2))
 (lf (0,o5.2.1,o5.2.2)))))))
def A9a(p45_0:Ah)(p45_1:Aa)(p45_2:List ByteArray)(p45_3:List Bool)(p45_4:Ah):Bn:=(Bu Tryz.prog (Ds L) (EI (Ds L) (L+24) 4) 1 (List.drop 4 c83.u.l.l.ops) ⟨[(8,S p45_0.Name),(7,.loc 18 0),(6,.mp 5),(0,.mp 5),(3,.loc 18 0),(4,I 0)],[(1,Ae p45_1),(3,[.mp 5]),(4,[.clo 84 0 [.loc 3 0]]),(5,[.mapO false false (.t9 p45_2) (.t4 p45_3)]),(14,Bz p45_4),(18,Bz p45_0)],15⟩ (some 9) (fun st9=>(Bg (EV (Ds L) (L+24) 4 c83.u.l.r) (Bg (EV (Ds L) (L+24) 4 c83.u.r) (Dq Tryz.prog (RS Tryz.f83) k))) .normal st9))
theorem Buq(p45_0:Ah)(p45_1:Aa)(p45_2:List ByteArray)(p45_3:List Bool)(p45_4:Ah)(o5:Cp):A6g p45_0.Name p45_1 p45_2 p45_3 p45_4 p45_0 (A9a L k p45_0 p45_1 p45_2 p45_3 p45_4) o5=ob (Vb L p45_0 o5) (Aym p45_0 p45_1 p45_2 p45_3 p45_4 k):=eE (Vb L p45_0 o5)
def Aeo [An A Cp](p45_0:Ah)(p45_1:Aa)(p45_2:List ByteArray)(p45_3:List Bool)(p45_4:Ah):A:=(bd (f9 L p45_0.Name p45_1 p45_2 p45_3 p45_4 p45_0) fun o5=>Vb L p45_0 o5)
def Mu(p45_0:Ah)(p45_1:Aa)(p45_2:List ByteArray)(p45_3:List Bool)(p45_4:Ah):Option Cp:=Aeo L p45_0 p45_1 p45_2 p45_3 p45_4
theorem Bku(p45_0:Ah)(p45_1:Aa)(p45_2:List ByteArray)(p45_3:List Bool)(p45_4:Ah):YO (Ds L) (L+24) 5 83 [.mp 5,.agg (Bz p45_0)] [(1,Ae p45_1),(3,[.mp 5]),(4,[.clo 84 0 [.loc 3 0]]),(5,[.mapO false false (.t9 p45_2) (.t4 p45_3)]),(14,Bz p45_4)] k=ob (Mu L p45_0 p45_1 p45_2 p45_3 p45_4) (Aym p45_0 p45_1 p45_2 p45_3 p45_4 k):=(Cr _ _ _ jn4 _ _ _ _ _ _ _).trans (eE ((ho (Bkv L (A9a L k p45_0 p45_1 p45_2 p45_3 p45_4) p45_0.Name p45_1 p45_2 p45_3 p45_4 p45_0) fun o5=>Buq L k p45_0 p45_1 p45_2 p45_3 p45_4 o5)))
def A5o(p41_0:List Ah)(p41_1:Aa)(v:Tu3):St:=⟨[(0,.any),(1,.any),(2,.clo 83 1 [.mp 5]),(6,I v.1),(14,lv (.t77 p41_0)),(15,I (p41_0.length:Int)),(16,I v.2.1)],[(1,Ae p41_1),(3,[.mp 5]),(4,[.clo 84 0 [.loc 3 0]]),(5,[.mapO false false (.t9 v.2.2.1) (.t4 v.2.2.2)])],6⟩
def Qx [An A Tu9](L:Nat)(Al:Int)(Au:Int)(rec:Int→Int→List ByteArray→List Bool→A)(o8:Cp):A:=
 (cn (o8.1 != 0)
 (lf (0,o8.1,Al,o8.2.1,o8.2.2))
 (rec Au (Dp (Al+1)) o8.2.1 o8.2.2))
def Vp [An A Tu9](L:Nat)(p41_0:List Ah)(p41_1:Aa)(rec:Int→Int→List ByteArray→List Bool→A)(Au:Int)(Al:Int)(Dg:List ByteArray)(Dj:List Bool)(nx64:Int→(List ByteArray)→(List Bool)→Int→A):A:=
 (lw Al p41_0
 (nx64 Al Dg Dj Au)
 (lf (1,Au,Al,Dg,Dj)))
def Aav [An A Tu9](p41_0:List Ah)(p41_1:Aa)(rec:Int→Int→List ByteArray→List Bool→A)(Au:Int)(Al:Int)(Dg:List ByteArray)(Dj:List Bool):A:=Vp L p41_0 p41_1 rec Au Al Dg Dj (fun Al Dg Dj Au=>bd (Mu L (p41_0.getD (Int.toNat Al) default) p41_1 Dg Dj (p41_0.getD (Int.toNat Al) default)) fun o8=>Qx L Al Au rec o8)
def I9(L:Nat)(p41_0:List Ah)(p41_1:Aa):Nat→Int→Int→List ByteArray→List Bool→Option Tu9
 |0,_,_,_,_=>none
 |n+1,Au,Al,Dg,Dj=>Aav L p41_0 p41_1 (I9 L p41_0 p41_1 n) Au Al Dg Dj
def Bdd(p41_0:List Ah)(p41_1:Aa):Prop:=LI (EV (Ds L) (L+24) 5 c82.w.l.u.l.l) [0,1,2,6,14,15,16] [1,3,4,5] (A5o p41_0 p41_1) [.ret,.exit 0] (fun n v=>I9 L p41_0 p41_1 n v.1 v.2.1 v.2.2.1 v.2.2.2) K n
def A9b(p41_0:List Ah)(Al:Int)(Au:Int)(p41_1:Aa)(Dg:List ByteArray)(Dj:List Bool):Bn:=(Bu Tryz.prog (Ds L) (EI (Ds L) (L+24) 5) 1 (List.drop 3 c82.w.l.u.l.l.w.l.l.u.l.ops) ⟨[(21,.agg (Bz (p41_0.getD (Int.toNat Al) default))),(20,.clo 83 1 [.mp 5]),(2,.clo 83 1 [.mp 5]),(6,I Au),(8,.loc 14 0),(14,lv (.t77 p41_0)),(15,I (p41_0.length:Int)),(16,I Al),(17,B (decide (Al < (p41_0.length:Int)))),(18,.ref (Bz (p41_0.getD (Int.toNat Al) default))),(19,.agg (Bz (p41_0.getD (Int.toNat Al) default)))],[(1,Ae p41_1),(3,[.mp 5]),(4,[.clo 84 0 [.loc 3 0]]),(5,[.mapO false false (.t9 Dg) (.t4 Dj)]),(14,(Bz (p41_0.getD (Int.toNat Al) default)))],6⟩ (some 22) (fun st9=>(Bg (EV (Ds L) (L+24) 5 c82.w.l.u.l.l.w.l.l.u.r) (Ba 1 (Bg (EV (Ds L) (L+24) 5 c82.w.l.u.l.l.w.r) (Ii (Kw (EV (Ds L) (L+24) 5 c82.w.l.u.l.l) [0,1,2,6,14,15,16] [1,3,4,5] n) [0,1,2,6,14,15,16] [1,3,4,5] K)))) .normal st9))
theorem Bur(p41_0:List Ah)(Al:Int)(p41_1:Aa)(Dg:List ByteArray)(Dj:List Bool)(Au:Int)(ih:Bdd L n K p41_0 p41_1)(o8:Cp):Aym (p41_0.getD (Int.toNat Al) default) p41_1 Dg Dj (p41_0.getD (Int.toNat Al) default) (A9b L n K p41_0 Al Au p41_1 Dg Dj) o8=ob (Qx L Al Au (I9 L p41_0 p41_1 n) o8) (kX [.ret,.exit 0] (A5o p41_0 p41_1) K):=eE (Qx L Al Au (fun Au Al Dg Dj=>re (ih (Au,Al,Dg,Dj))) o8)
theorem Bsp(p41_0:List Ah)(p41_1:Aa):∀n,Bdd L n K p41_0 p41_1:=lE (fun _=>rfl) fun n v ih=>eE (Vp L p41_0 p41_1 (fun Au Al Dg Dj=>re (ih (Au,Al,Dg,Dj))) v.1 v.2.1 v.2.2.1 v.2.2.2 (fun Al Dg Dj Au=>ho (Bku L (A9b L n K p41_0 Al Au p41_1 Dg Dj) (p41_0.getD (Int.toNat Al) default) p41_1 Dg Dj (p41_0.getD (Int.toNat Al) default)) fun o8=>Bur L n K p41_0 Al p41_1 Dg Dj Au ih o8))
def Ayl(p41_0:List Ah)(p41_1:Aa)(k:Bn):Cp→Prop:=fun o=>k (I o.1) [(1,Ae p41_1),(3,[.mp 5]),(4,[.clo 84 0 [.loc 3 0]]),(5,[.mapO false false (.t9 o.2.1) (.t4 o.2.2)])]
def l9 [An A Cp](L:Nat)(o9:Nat×Tu3):A:=
 (sl o9.1 [(lf (o9.2.1,o9.2.2.2.1,o9.2.2.2.2)),
 (lf (0,o9.2.2.2.1,o9.2.2.2.2))])
def A9c:Br:=(Ba 0 (Bg (EV (Ds L) (L+24) 5 c82.w.r) (Dq Tryz.prog (RS Tryz.f82) k)))
theorem Bus(p41_0:List Ah)(p41_1:Aa)(o9:Nat×Tu3):kX [.ret,.exit 0] (A5o p41_0 p41_1) (A9c L k) o9=ob (l9 L o9) (Ayl p41_0 p41_1 k):=eE (l9 L o9)
def Aff [An A Cp](L:Nat)(p41_0:List Ah)(p41_1:Aa)(nx65:A):A:=
 (cn (decide ((p41_0.length:Int) > 32))
 (lf (6,[],[]))
 nx65)
def Aou [An A Cp](p41_0:List Ah)(p41_1:Aa):A:=Aff L p41_0 p41_1 (bd (I9 L p41_0 p41_1 (L+24) 0 0 [] []) fun o9=>l9 L o9)
def f7(p41_0:List Ah)(p41_1:Aa):Option Cp:=Aou L p41_0 p41_1
theorem Bkt(p41_0:List Ah)(p41_1:Aa):YO (Ds L) (L+24) 6 82 [lv (.t77 p41_0),I 32,.clo 83 1 [.mp 5]] [(1,Ae p41_1),(3,[.mp 5]),(4,[.clo 84 0 [.loc 3 0]]),(5,[.mapO false false (.t9 []) (.t4 [])])] k=ob (f7 L p41_0 p41_1) (Ayl p41_0 p41_1 k):=(Cr _ _ _ jn4 _ _ _ _ _ _ _).trans (eE (Aff L p41_0 p41_1 (ho (Bsp L (A9c L k) p41_0 p41_1 (L+24) (0,0,[],[])) fun o9=>Bus L k p41_0 p41_1 o9)))
def A6h(p54_0:ByteArray)(p54_1:Aa)(p54_2:List ByteArray)(p54_3:List Bool)(p54_4:Ai)(p54_5:Ai)(k:Bn):Cp→Prop:=fun o=>k (I o.1) [(1,Ae p54_1),(3,[.mp 5]),(4,[.clo 84 0 [.loc 3 0]]),(5,[.mapO false false (.t9 o.2.1) (.t4 o.2.2)]),(14,Bl p54_4),(18,Bl p54_5)]
def Aer [An A Cp](p54_0:ByteArray)(p54_1:Aa)(p54_2:List ByteArray)(p54_3:List Bool)(p54_4:Ai)(p54_5:Ai):A:=
 (bd (C6 L p54_0) fun r11=>
 (cn (r11 != 0)
 (lf (r11,p54_2,p54_3))
 (fq (p54_2.findIdx? fun b=>p54_0 == b) (fun i12=>
 (cn (p54_3.getD i12 default)
 (lf (4,p54_2,p54_3))
 (fq (p54_2.findIdx? fun b=>p54_0 == b) (fun i13=>
 (lf (0,p54_2,(p54_3.set i13 true))))
 (lf (0,(p54_2++ [p54_0]),(p54_3++ [true]))))))
 (fq (p54_2.findIdx? fun b=>p54_0 == b) (fun i14=>
 (lf (0,p54_2,(p54_3.set i14 true))))
 (lf (0,(p54_2++ [p54_0]),(p54_3++ [true])))))))
def i9(p54_0:ByteArray)(p54_1:Aa)(p54_2:List ByteArray)(p54_3:List Bool)(p54_4:Ai)(p54_5:Ai):Option Cp:=Aer L p54_0 p54_1 p54_2 p54_3 p54_4 p54_5
theorem Bky(p54_0:ByteArray)(p54_1:Aa)(p54_2:List ByteArray)(p54_3:List Bool)(p54_4:Ai)(p54_5:Ai):YO (Ds L) (L+24) 5 64 [.mp 5,S p54_0] [(1,Ae p54_1),(3,[.mp 5]),(4,[.clo 84 0 [.loc 3 0]]),(5,[.mapO false false (.t9 p54_2) (.t4 p54_3)]),(14,Bl p54_4),(18,Bl p54_5)] k=ob (i9 L p54_0 p54_1 p54_2 p54_3 p54_4 p54_5) (A6h p54_0 p54_1 p54_2 p54_3 p54_4 p54_5 k):=(Cr _ _ _ jn4 _ _ _ _ _ _ _).trans (eE (Aer L p54_0 p54_1 p54_2 p54_3 p54_4 p54_5))
def Ayo(p52_0:Ai)(p52_1:Aa)(p52_2:List ByteArray)(p52_3:List Bool)(p52_4:Ai)(k:Bn):Cp→Prop:=fun o=>k (I o.1) [(1,Ae p52_1),(3,[.mp 5]),(4,[.clo 84 0 [.loc 3 0]]),(5,[.mapO false false (.t9 o.2.1) (.t4 o.2.2)]),(14,Bl p52_4),(18,Bl p52_0)]
def Vc [An A Cp](p52_0:Ai)(p52_1:Aa)(o15:Cp):A:=
 (cn (o15.1 != 0)
 (lf (o15.1,o15.2.1,o15.2.2))
 (bd (Bb L p52_0.Units 0 1000) fun r16=>
 (cn (!r16)
 (lf (2,o15.2.1,o15.2.2))
 (bd (Uf L p52_0) fun r17=>
 (cn (r17 != 0)
 (lf (r17,o15.2.1,o15.2.2))
 (bd (Ue L p52_1 p52_0.Fault) fun r18=>
 (lf (r18,o15.2.1,o15.2.2))))))))
def A9e(p52_0:Ai)(p52_1:Aa)(p52_2:List ByteArray)(p52_3:List Bool)(p52_4:Ai):Bn:=(Bu Tryz.prog (Ds L) (EI (Ds L) (L+24) 5) 1 (List.drop 4 c90.u.l.l.ops) ⟨[(9,S p52_0.Name),(8,.loc 18 0),(7,.mp 5),(1,.loc 3 0),(2,.loc 1 0),(3,.loc 18 0),(4,I 0)],[(1,Ae p52_1),(3,[.mp 5]),(4,[.clo 84 0 [.loc 3 0]]),(5,[.mapO false false (.t9 p52_2) (.t4 p52_3)]),(14,Bl p52_4),(18,Bl p52_0)],15⟩ (some 10) (fun st9=>(Bg (EV (Ds L) (L+24) 5 c90.u.l.r) (Bg (EV (Ds L) (L+24) 5 c90.u.r) (Dq Tryz.prog (RS Tryz.f90) k))) .normal st9))
theorem Buu(p52_0:Ai)(p52_1:Aa)(p52_2:List ByteArray)(p52_3:List Bool)(p52_4:Ai)(o15:Cp):A6h p52_0.Name p52_1 p52_2 p52_3 p52_4 p52_0 (A9e L k p52_0 p52_1 p52_2 p52_3 p52_4) o15=ob (Vc L p52_0 p52_1 o15) (Ayo p52_0 p52_1 p52_2 p52_3 p52_4 k):=eE (Vc L p52_0 p52_1 o15)
def Aeq [An A Cp](p52_0:Ai)(p52_1:Aa)(p52_2:List ByteArray)(p52_3:List Bool)(p52_4:Ai):A:=(bd (i9 L p52_0.Name p52_1 p52_2 p52_3 p52_4 p52_0) fun o15=>Vc L p52_0 p52_1 o15)
def Mv(p52_0:Ai)(p52_1:Aa)(p52_2:List ByteArray)(p52_3:List Bool)(p52_4:Ai):Option Cp:=Aeq L p52_0 p52_1 p52_2 p52_3 p52_4
theorem Bkx(p52_0:Ai)(p52_1:Aa)(p52_2:List ByteArray)(p52_3:List Bool)(p52_4:Ai):YO (Ds L) (L+24) 6 90 [.agg (Bl p52_0),.loc 3 0,.loc 1 0] [(1,Ae p52_1),(3,[.mp 5]),(4,[.clo 84 0 [.loc 3 0]]),(5,[.mapO false false (.t9 p52_2) (.t4 p52_3)]),(14,Bl p52_4)] k=ob (Mv L p52_0 p52_1 p52_2 p52_3 p52_4) (Ayo p52_0 p52_1 p52_2 p52_3 p52_4 k):=(Cr _ _ _ jn4 _ _ _ _ _ _ _).trans (eE ((ho (Bky L (A9e L k p52_0 p52_1 p52_2 p52_3 p52_4) p52_0.Name p52_1 p52_2 p52_3 p52_4 p52_0) fun o15=>Buu L k p52_0 p52_1 p52_2 p52_3 p52_4 o15)))
def A5p(p48_0:List Ai)(p48_1:Aa)(v:Tu3):St:=⟨[(0,.any),(1,.any),(2,.clo 90 0 [.loc 3 0,.loc 1 0]),(6,I v.1),(14,lv (.t145 p48_0)),(15,I (p48_0.length:Int)),(16,I v.2.1)],[(1,Ae p48_1),(3,[.mp 5]),(4,[.clo 84 0 [.loc 3 0]]),(5,[.mapO false false (.t9 v.2.2.1) (.t4 v.2.2.2)])],6⟩
def Qy [An A Tu9](L:Nat)(B7:Int)(Cv:Int)(rec:Int→Int→List ByteArray→List Bool→A)(o19:Cp):A:=
 (cn (o19.1 != 0)
 (lf (0,o19.1,B7,o19.2.1,o19.2.2))
 (rec Cv (Dp (B7+1)) o19.2.1 o19.2.2))
def Vq [An A Tu9](L:Nat)(p48_0:List Ai)(p48_1:Aa)(rec:Int→Int→List ByteArray→List Bool→A)(Cv:Int)(B7:Int)(L4:List ByteArray)(L5:List Bool)(nx73:Int→(List ByteArray)→(List Bool)→Int→A):A:=
 (lw B7 p48_0
 (nx73 B7 L4 L5 Cv)
 (lf (1,Cv,B7,L4,L5)))
def Aaw [An A Tu9](p48_0:List Ai)(p48_1:Aa)(rec:Int→Int→List ByteArray→List Bool→A)(Cv:Int)(B7:Int)(L4:List ByteArray)(L5:List Bool):A:=Vq L p48_0 p48_1 rec Cv B7 L4 L5 (fun B7 L4 L5 Cv=>bd (Mv L (p48_0.getD (Int.toNat B7) default) p48_1 L4 L5 (p48_0.getD (Int.toNat B7) default)) fun o19=>Qy L B7 Cv rec o19)
def Ja(L:Nat)(p48_0:List Ai)(p48_1:Aa):Nat→Int→Int→List ByteArray→List Bool→Option Tu9
 |0,_,_,_,_=>none
 |n+1,Cv,B7,L4,L5=>Aaw L p48_0 p48_1 (Ja L p48_0 p48_1 n) Cv B7 L4 L5
def Bde(p48_0:List Ai)(p48_1:Aa):Prop:=LI (EV (Ds L) (L+24) 6 c89.w.l.u.l.l) [0,1,2,6,14,15,16] [1,3,4,5] (A5p p48_0 p48_1) [.ret,.exit 0] (fun n v=>Ja L p48_0 p48_1 n v.1 v.2.1 v.2.2.1 v.2.2.2) K n
def A9f(p48_0:List Ai)(B7:Int)(Cv:Int)(p48_1:Aa)(L4:List ByteArray)(L5:List Bool):Bn:=(Bu Tryz.prog (Ds L) (EI (Ds L) (L+24) 6) 1 (List.drop 3 c89.w.l.u.l.l.w.l.l.u.l.ops) ⟨[(21,.agg (Bl (p48_0.getD (Int.toNat B7) default))),(20,.clo 90 0 [.loc 3 0,.loc 1 0]),(2,.clo 90 0 [.loc 3 0,.loc 1 0]),(6,I Cv),(8,.loc 14 0),(14,lv (.t145 p48_0)),(15,I (p48_0.length:Int)),(16,I B7),(17,B (decide (B7 < (p48_0.length:Int)))),(18,.ref (Bl (p48_0.getD (Int.toNat B7) default))),(19,.agg (Bl (p48_0.getD (Int.toNat B7) default)))],[(1,Ae p48_1),(3,[.mp 5]),(4,[.clo 84 0 [.loc 3 0]]),(5,[.mapO false false (.t9 L4) (.t4 L5)]),(14,(Bl (p48_0.getD (Int.toNat B7) default)))],6⟩ (some 22) (fun st9=>(Bg (EV (Ds L) (L+24) 6 c89.w.l.u.l.l.w.l.l.u.r) (Ba 1 (Bg (EV (Ds L) (L+24) 6 c89.w.l.u.l.l.w.r) (Ii (Kw (EV (Ds L) (L+24) 6 c89.w.l.u.l.l) [0,1,2,6,14,15,16] [1,3,4,5] n) [0,1,2,6,14,15,16] [1,3,4,5] K)))) .normal st9))
theorem Buv(p48_0:List Ai)(B7:Int)(p48_1:Aa)(L4:List ByteArray)(L5:List Bool)(Cv:Int)(ih:Bde L n K p48_0 p48_1)(o19:Cp):Ayo (p48_0.getD (Int.toNat B7) default) p48_1 L4 L5 (p48_0.getD (Int.toNat B7) default) (A9f L n K p48_0 B7 Cv p48_1 L4 L5) o19=ob (Qy L B7 Cv (Ja L p48_0 p48_1 n) o19) (kX [.ret,.exit 0] (A5p p48_0 p48_1) K):=eE (Qy L B7 Cv (fun Cv B7 L4 L5=>re (ih (Cv,B7,L4,L5))) o19)
theorem Bsq(p48_0:List Ai)(p48_1:Aa):∀n,Bde L n K p48_0 p48_1:=lE (fun _=>rfl) fun n v ih=>eE (Vq L p48_0 p48_1 (fun Cv B7 L4 L5=>re (ih (Cv,B7,L4,L5))) v.1 v.2.1 v.2.2.1 v.2.2.2 (fun B7 L4 L5 Cv=>ho (Bkx L (A9f L n K p48_0 B7 Cv p48_1 L4 L5) (p48_0.getD (Int.toNat B7) default) p48_1 L4 L5 (p48_0.getD (Int.toNat B7) default)) fun o19=>Buv L n K p48_0 B7 p48_1 L4 L5 Cv ih o19))
def Ayn(p48_0:List Ai)(p48_1:Aa)(p48_2:List ByteArray)(p48_3:List Bool)(k:Bn):Cp→Prop:=fun o=>k (I o.1) [(1,Ae p48_1),(3,[.mp 5]),(4,[.clo 84 0 [.loc 3 0]]),(5,[.mapO false false (.t9 o.2.1) (.t4 o.2.2)])]
def m3 [An A Cp](L:Nat)(o20:Nat×Tu3):A:=
 (sl o20.1 [(lf (o20.2.1,o20.2.2.2.1,o20.2.2.2.2)),
 (lf (0,o20.2.2.2.1,o20.2.2.2.2))])
def A9g:Br:=(Ba 0 (Bg (EV (Ds L) (L+24) 6 c89.w.r) (Dq Tryz.prog (RS Tryz.f89) k)))
theorem Buw(p48_0:List Ai)(p48_1:Aa)(p48_2:List ByteArray)(p48_3:List Bool)(o20:Nat×Tu3):kX [.ret,.exit 0] (A5p p48_0 p48_1) (A9g L k) o20=ob (m3 L o20) (Ayn p48_0 p48_1 p48_2 p48_3 k):=eE (m3 L o20)
def Afg [An A Cp](L:Nat)(p48_0:List Ai)(p48_1:Aa)(p48_2:List ByteArray)(p48_3:List Bool)(nx74:A):A:=
 (cn (decide ((p48_0.length:Int) > 32))
 (lf (6,p48_2,p48_3))
 nx74)
def Aov [An A Cp](p48_0:List Ai)(p48_1:Aa)(p48_2:List ByteArray)(p48_3:List Bool):A:=Afg L p48_0 p48_1 p48_2 p48_3 (bd (Ja L p48_0 p48_1 (L+24) 0 0 p48_2 p48_3) fun o20=>m3 L o20)
def i8(p48_0:List Ai)(p48_1:Aa)(p48_2:List ByteArray)(p48_3:List Bool):Option Cp:=Aov L p48_0 p48_1 p48_2 p48_3
theorem Bkw(p48_0:List Ai)(p48_1:Aa)(p48_2:List ByteArray)(p48_3:List Bool):YO (Ds L) (L+24) 7 89 [lv (.t145 p48_0),I 32,.clo 90 0 [.loc 3 0,.loc 1 0]] [(1,Ae p48_1),(3,[.mp 5]),(4,[.clo 84 0 [.loc 3 0]]),(5,[.mapO false false (.t9 p48_2) (.t4 p48_3)])] k=ob (i8 L p48_0 p48_1 p48_2 p48_3) (Ayn p48_0 p48_1 p48_2 p48_3 k):=(Cr _ _ _ jn4 _ _ _ _ _ _ _).trans (eE (Afg L p48_0 p48_1 p48_2 p48_3 (ho (Bsq L (A9g L k) p48_0 p48_1 (L+24) (0,0,p48_2,p48_3)) fun o20=>Buw L k p48_0 p48_1 p48_2 p48_3 o20)))
def A6i(p61_0:ByteArray)(p61_1:Aa)(p61_2:List ByteArray)(p61_3:List Bool)(p61_4:Am)(p61_5:Am)(k:Bn):Cp→Prop:=fun o=>k (I o.1) [(1,Ae p61_1),(3,[.mp 5]),(4,[.clo 84 0 [.loc 3 0]]),(5,[.mapO false false (.t9 o.2.1) (.t4 o.2.2)]),(14,Co p61_4),(17,Co p61_5)]
def Aet [An A Cp](p61_0:ByteArray)(p61_1:Aa)(p61_2:List ByteArray)(p61_3:List Bool)(p61_4:Am)(p61_5:Am):A:=
 (bd (C6 L p61_0) fun r22=>
 (cn (r22 != 0)
 (lf (r22,p61_2,p61_3))
 (fq (p61_2.findIdx? fun b=>p61_0 == b) (fun i23=>
 (cn (p61_3.getD i23 default)
 (lf (4,p61_2,p61_3))
 (fq (p61_2.findIdx? fun b=>p61_0 == b) (fun i24=>
 (lf (0,p61_2,(p61_3.set i24 true))))
 (lf (0,(p61_2++ [p61_0]),(p61_3++ [true]))))))
 (fq (p61_2.findIdx? fun b=>p61_0 == b) (fun i25=>
 (lf (0,p61_2,(p61_3.set i25 true))))
 (lf (0,(p61_2++ [p61_0]),(p61_3++ [true])))))))
def j4(p61_0:ByteArray)(p61_1:Aa)(p61_2:List ByteArray)(p61_3:List Bool)(p61_4:Am)(p61_5:Am):Option Cp:=Aet L p61_0 p61_1 p61_2 p61_3 p61_4 p61_5
theorem Bk1(p61_0:ByteArray)(p61_1:Aa)(p61_2:List ByteArray)(p61_3:List Bool)(p61_4:Am)(p61_5:Am):YO (Ds L) (L+24) 5 64 [.mp 5,S p61_0] [(1,Ae p61_1),(3,[.mp 5]),(4,[.clo 84 0 [.loc 3 0]]),(5,[.mapO false false (.t9 p61_2) (.t4 p61_3)]),(14,Co p61_4),(17,Co p61_5)] k=ob (j4 L p61_0 p61_1 p61_2 p61_3 p61_4 p61_5) (A6i p61_0 p61_1 p61_2 p61_3 p61_4 p61_5 k):=(Cr _ _ _ jn4 _ _ _ _ _ _ _).trans (eE (Aet L p61_0 p61_1 p61_2 p61_3 p61_4 p61_5))
def Ayq(p59_0:Am)(p59_1:Aa)(p59_2:List ByteArray)(p59_3:List Bool)(p59_4:Am)(k:Bn):Cp→Prop:=fun o=>k (I o.1) [(1,Ae p59_1),(3,[.mp 5]),(4,[.clo 84 0 [.loc 3 0]]),(5,[.mapO false false (.t9 o.2.1) (.t4 o.2.2)]),(14,Co p59_4),(17,Co p59_0)]
def Vd [An A Cp](p59_0:Am)(o26:Cp):A:=
 (cn (o26.1 != 0)
 (lf (o26.1,o26.2.1,o26.2.2))
 (bd (Bb L p59_0.Room 1 1000) fun r27=>
 (cn (!r27)
 (lf (2,o26.2.1,o26.2.2))
 (jp (.cn (decide (p59_0.Policy < 1))
 (.lf true)
 (.lf (decide (p59_0.Policy > 3)))) (fun b28=>
 (cn b28
 (lf (1,o26.2.1,o26.2.2))
 (lf (0,o26.2.1,o26.2.2))))))))
def A9i(p59_0:Am)(p59_1:Aa)(p59_2:List ByteArray)(p59_3:List Bool)(p59_4:Am):Bn:=(Bu Tryz.prog (Ds L) (EI (Ds L) (L+24) 5) 1 (List.drop 4 c96.u.l.l.ops) ⟨[(7,S p59_0.Name),(6,.loc 17 0),(5,.mp 5),(1,.loc 3 0),(2,.loc 17 0),(3,I 0)],[(1,Ae p59_1),(3,[.mp 5]),(4,[.clo 84 0 [.loc 3 0]]),(5,[.mapO false false (.t9 p59_2) (.t4 p59_3)]),(14,Co p59_4),(17,Co p59_0)],15⟩ (some 8) (fun st9=>(Bg (EV (Ds L) (L+24) 5 c96.u.l.r) (Bg (EV (Ds L) (L+24) 5 c96.u.r) (Dq Tryz.prog (RS Tryz.f96) k))) .normal st9))
theorem Buy(p59_0:Am)(p59_1:Aa)(p59_2:List ByteArray)(p59_3:List Bool)(p59_4:Am)(o26:Cp):A6i p59_0.Name p59_1 p59_2 p59_3 p59_4 p59_0 (A9i L k p59_0 p59_1 p59_2 p59_3 p59_4) o26=ob (Vd L p59_0 o26) (Ayq p59_0 p59_1 p59_2 p59_3 p59_4 k):=eE (Vd L p59_0 o26)
def Aes [An A Cp](p59_0:Am)(p59_1:Aa)(p59_2:List ByteArray)(p59_3:List Bool)(p59_4:Am):A:=(bd (j4 L p59_0.Name p59_1 p59_2 p59_3 p59_4 p59_0) fun o26=>Vd L p59_0 o26)
def Mw(p59_0:Am)(p59_1:Aa)(p59_2:List ByteArray)(p59_3:List Bool)(p59_4:Am):Option Cp:=Aes L p59_0 p59_1 p59_2 p59_3 p59_4
theorem Bk0(p59_0:Am)(p59_1:Aa)(p59_2:List ByteArray)(p59_3:List Bool)(p59_4:Am):YO (Ds L) (L+24) 6 96 [.agg (Co p59_0),.loc 3 0] [(1,Ae p59_1),(3,[.mp 5]),(4,[.clo 84 0 [.loc 3 0]]),(5,[.mapO false false (.t9 p59_2) (.t4 p59_3)]),(14,Co p59_4)] k=ob (Mw L p59_0 p59_1 p59_2 p59_3 p59_4) (Ayq p59_0 p59_1 p59_2 p59_3 p59_4 k):=(Cr _ _ _ jn4 _ _ _ _ _ _ _).trans (eE ((ho (Bk1 L (A9i L k p59_0 p59_1 p59_2 p59_3 p59_4) p59_0.Name p59_1 p59_2 p59_3 p59_4 p59_0) fun o26=>Buy L k p59_0 p59_1 p59_2 p59_3 p59_4 o26)))
def A5q(p55_0:List Am)(p55_1:Aa)(v:Tu3):St:=⟨[(0,.any),(1,.any),(2,.clo 96 0 [.loc 3 0]),(6,I v.1),(14,lv (.t151 p55_0)),(15,I (p55_0.length:Int)),(16,I v.2.1)],[(1,Ae p55_1),(3,[.mp 5]),(4,[.clo 84 0 [.loc 3 0]]),(5,[.mapO false false (.t9 v.2.2.1) (.t4 v.2.2.2)])],6⟩
def Qz [An A Tu9](L:Nat)(E7:Int)(Kq:Int)(rec:Int→Int→List ByteArray→List Bool→A)(o29:Cp):A:=
 (cn (o29.1 != 0)
 (lf (0,o29.1,E7,o29.2.1,o29.2.2))
 (rec Kq (Dp (E7+1)) o29.2.1 o29.2.2))
def Vr [An A Tu9](L:Nat)(p55_0:List Am)(p55_1:Aa)(rec:Int→Int→List ByteArray→List Bool→A)(Kq:Int)(E7:Int)(L6:List ByteArray)(L7:List Bool)(nx82:Int→(List ByteArray)→(List Bool)→Int→A):A:=
 (lw E7 p55_0
 (nx82 E7 L6 L7 Kq)
 (lf (1,Kq,E7,L6,L7)))
def Aax [An A Tu9](p55_0:List Am)(p55_1:Aa)(rec:Int→Int→List ByteArray→List Bool→A)(Kq:Int)(E7:Int)(L6:List ByteArray)(L7:List Bool):A:=Vr L p55_0 p55_1 rec Kq E7 L6 L7 (fun E7 L6 L7 Kq=>bd (Mw L (p55_0.getD (Int.toNat E7) default) p55_1 L6 L7 (p55_0.getD (Int.toNat E7) default)) fun o29=>Qz L E7 Kq rec o29)
def Jb(L:Nat)(p55_0:List Am)(p55_1:Aa):Nat→Int→Int→List ByteArray→List Bool→Option Tu9
 |0,_,_,_,_=>none
 |n+1,Kq,E7,L6,L7=>Aax L p55_0 p55_1 (Jb L p55_0 p55_1 n) Kq E7 L6 L7
def Bdf(p55_0:List Am)(p55_1:Aa):Prop:=LI (EV (Ds L) (L+24) 6 c95.w.l.u.l.l) [0,1,2,6,14,15,16] [1,3,4,5] (A5q p55_0 p55_1) [.ret,.exit 0] (fun n v=>Jb L p55_0 p55_1 n v.1 v.2.1 v.2.2.1 v.2.2.2) K n
def A9j(p55_0:List Am)(E7:Int)(Kq:Int)(p55_1:Aa)(L6:List ByteArray)(L7:List Bool):Bn:=(Bu Tryz.prog (Ds L) (EI (Ds L) (L+24) 6) 1 (List.drop 3 c95.w.l.u.l.l.w.l.l.u.l.ops) ⟨[(21,.agg (Co (p55_0.getD (Int.toNat E7) default))),(20,.clo 96 0 [.loc 3 0]),(2,.clo 96 0 [.loc 3 0]),(6,I Kq),(8,.loc 14 0),(14,lv (.t151 p55_0)),(15,I (p55_0.length:Int)),(16,I E7),(17,B (decide (E7 < (p55_0.length:Int)))),(18,.ref (Co (p55_0.getD (Int.toNat E7) default))),(19,.agg (Co (p55_0.getD (Int.toNat E7) default)))],[(1,Ae p55_1),(3,[.mp 5]),(4,[.clo 84 0 [.loc 3 0]]),(5,[.mapO false false (.t9 L6) (.t4 L7)]),(14,(Co (p55_0.getD (Int.toNat E7) default)))],6⟩ (some 22) (fun st9=>(Bg (EV (Ds L) (L+24) 6 c95.w.l.u.l.l.w.l.l.u.r) (Ba 1 (Bg (EV (Ds L) (L+24) 6 c95.w.l.u.l.l.w.r) (Ii (Kw (EV (Ds L) (L+24) 6 c95.w.l.u.l.l) [0,1,2,6,14,15,16] [1,3,4,5] n) [0,1,2,6,14,15,16] [1,3,4,5] K)))) .normal st9))
theorem Buz(p55_0:List Am)(E7:Int)(p55_1:Aa)(L6:List ByteArray)(L7:List Bool)(Kq:Int)(ih:Bdf L n K p55_0 p55_1)(o29:Cp):Ayq (p55_0.getD (Int.toNat E7) default) p55_1 L6 L7 (p55_0.getD (Int.toNat E7) default) (A9j L n K p55_0 E7 Kq p55_1 L6 L7) o29=ob (Qz L E7 Kq (Jb L p55_0 p55_1 n) o29) (kX [.ret,.exit 0] (A5q p55_0 p55_1) K):=eE (Qz L E7 Kq (fun Kq E7 L6 L7=>re (ih (Kq,E7,L6,L7))) o29)
theorem Bsr(p55_0:List Am)(p55_1:Aa):∀n,Bdf L n K p55_0 p55_1:=lE (fun _=>rfl) fun n v ih=>eE (Vr L p55_0 p55_1 (fun Kq E7 L6 L7=>re (ih (Kq,E7,L6,L7))) v.1 v.2.1 v.2.2.1 v.2.2.2 (fun E7 L6 L7 Kq=>ho (Bk0 L (A9j L n K p55_0 E7 Kq p55_1 L6 L7) (p55_0.getD (Int.toNat E7) default) p55_1 L6 L7 (p55_0.getD (Int.toNat E7) default)) fun o29=>Buz L n K p55_0 E7 p55_1 L6 L7 Kq ih o29))
def Ayp(p55_0:List Am)(p55_1:Aa)(p55_2:List ByteArray)(p55_3:List Bool)(k:Bn):Cp→Prop:=fun o=>k (I o.1) [(1,Ae p55_1),(3,[.mp 5]),(4,[.clo 84 0 [.loc 3 0]]),(5,[.mapO false false (.t9 o.2.1) (.t4 o.2.2)])]
def m5 [An A Cp](L:Nat)(o30:Nat×Tu3):A:=
 (sl o30.1 [(lf (o30.2.1,o30.2.2.2.1,o30.2.2.2.2)),
 (lf (0,o30.2.2.2.1,o30.2.2.2.2))])
def A9k:Br:=(Ba 0 (Bg (EV (Ds L) (L+24) 6 c95.w.r) (Dq Tryz.prog (RS Tryz.f95) k)))
theorem Bu0(p55_0:List Am)(p55_1:Aa)(p55_2:List ByteArray)(p55_3:List Bool)(o30:Nat×Tu3):kX [.ret,.exit 0] (A5q p55_0 p55_1) (A9k L k) o30=ob (m5 L o30) (Ayp p55_0 p55_1 p55_2 p55_3 k):=eE (m5 L o30)
def Afh [An A Cp](L:Nat)(p55_0:List Am)(p55_1:Aa)(p55_2:List ByteArray)(p55_3:List Bool)(nx83:A):A:=
 (cn (decide ((p55_0.length:Int) > 32))
 (lf (6,p55_2,p55_3))
 nx83)
def Aow [An A Cp](p55_0:List Am)(p55_1:Aa)(p55_2:List ByteArray)(p55_3:List Bool):A:=Afh L p55_0 p55_1 p55_2 p55_3 (bd (Jb L p55_0 p55_1 (L+24) 0 0 p55_2 p55_3) fun o30=>m5 L o30)
def j3(p55_0:List Am)(p55_1:Aa)(p55_2:List ByteArray)(p55_3:List Bool):Option Cp:=Aow L p55_0 p55_1 p55_2 p55_3
theorem Bkz(p55_0:List Am)(p55_1:Aa)(p55_2:List ByteArray)(p55_3:List Bool):YO (Ds L) (L+24) 7 95 [lv (.t151 p55_0),I 32,.clo 96 0 [.loc 3 0]] [(1,Ae p55_1),(3,[.mp 5]),(4,[.clo 84 0 [.loc 3 0]]),(5,[.mapO false false (.t9 p55_2) (.t4 p55_3)])] k=ob (j3 L p55_0 p55_1 p55_2 p55_3) (Ayp p55_0 p55_1 p55_2 p55_3 k):=(Cr _ _ _ jn4 _ _ _ _ _ _ _).trans (eE (Afh L p55_0 p55_1 p55_2 p55_3 (ho (Bsr L (A9k L k) p55_0 p55_1 (L+24) (0,0,p55_2,p55_3)) fun o30=>Bu0 L k p55_0 p55_1 p55_2 p55_3 o30)))
def A6j(p68_0:ByteArray)(p68_1:Aa)(p68_2:List ByteArray)(p68_3:List Bool)(p68_4:Aq)(p68_5:Aq)(k:Bn):Cp→Prop:=fun o=>k (I o.1) [(1,Ae p68_1),(3,[.mp 5]),(4,[.clo 84 0 [.loc 3 0]]),(5,[.mapO false false (.t9 o.2.1) (.t4 o.2.2)]),(14,Cu p68_4),(17,Cu p68_5)]
def Aev [An A Cp](p68_0:ByteArray)(p68_1:Aa)(p68_2:List ByteArray)(p68_3:List Bool)(p68_4:Aq)(p68_5:Aq):A:=
 (bd (C6 L p68_0) fun r32=>
 (cn (r32 != 0)
 (lf (r32,p68_2,p68_3))
 (fq (p68_2.findIdx? fun b=>p68_0 == b) (fun i33=>
 (cn (p68_3.getD i33 default)
 (lf (4,p68_2,p68_3))
 (fq (p68_2.findIdx? fun b=>p68_0 == b) (fun i34=>
 (lf (0,p68_2,(p68_3.set i34 true))))
 (lf (0,(p68_2++ [p68_0]),(p68_3++ [true]))))))
 (fq (p68_2.findIdx? fun b=>p68_0 == b) (fun i35=>
 (lf (0,p68_2,(p68_3.set i35 true))))
 (lf (0,(p68_2++ [p68_0]),(p68_3++ [true])))))))
def j6(p68_0:ByteArray)(p68_1:Aa)(p68_2:List ByteArray)(p68_3:List Bool)(p68_4:Aq)(p68_5:Aq):Option Cp:=Aev L p68_0 p68_1 p68_2 p68_3 p68_4 p68_5
theorem Bk4(p68_0:ByteArray)(p68_1:Aa)(p68_2:List ByteArray)(p68_3:List Bool)(p68_4:Aq)(p68_5:Aq):YO (Ds L) (L+24) 5 64 [.mp 5,S p68_0] [(1,Ae p68_1),(3,[.mp 5]),(4,[.clo 84 0 [.loc 3 0]]),(5,[.mapO false false (.t9 p68_2) (.t4 p68_3)]),(14,Cu p68_4),(17,Cu p68_5)] k=ob (j6 L p68_0 p68_1 p68_2 p68_3 p68_4 p68_5) (A6j p68_0 p68_1 p68_2 p68_3 p68_4 p68_5 k):=(Cr _ _ _ jn4 _ _ _ _ _ _ _).trans (eE (Aev L p68_0 p68_1 p68_2 p68_3 p68_4 p68_5))
def Ays(p66_0:Aq)(p66_1:Aa)(p66_2:List ByteArray)(p66_3:List Bool)(p66_4:Aq)(k:Bn):Cp→Prop:=fun o=>k (I o.1) [(1,Ae p66_1),(3,[.mp 5]),(4,[.clo 84 0 [.loc 3 0]]),(5,[.mapO false false (.t9 o.2.1) (.t4 o.2.2)]),(14,Cu p66_4),(17,Cu p66_0)]
def Ve [An A Cp](p66_0:Aq)(o36:Cp):A:=
 (cn (o36.1 != 0)
 (lf (o36.1,o36.2.1,o36.2.2))
 (bd (Bb L p66_0.Length 1 1000) fun r37=>
 (jb (.cn (!r37)
 (.lf true)
 (.bd (Bb L p66_0.Step 1 1000) fun r39=>
 (.lf (!r39)))) (fun b38=>
 (cn b38
 (lf (2,o36.2.1,o36.2.2))
 (lf (0,o36.2.1,o36.2.2)))))))
def A9m(p66_0:Aq)(p66_1:Aa)(p66_2:List ByteArray)(p66_3:List Bool)(p66_4:Aq):Bn:=(Bu Tryz.prog (Ds L) (EI (Ds L) (L+24) 5) 1 (List.drop 4 c99.u.l.l.ops) ⟨[(7,S p66_0.Name),(6,.loc 17 0),(5,.mp 5),(1,.loc 3 0),(2,.loc 17 0),(3,I 0)],[(1,Ae p66_1),(3,[.mp 5]),(4,[.clo 84 0 [.loc 3 0]]),(5,[.mapO false false (.t9 p66_2) (.t4 p66_3)]),(14,Cu p66_4),(17,Cu p66_0)],15⟩ (some 8) (fun st9=>(Bg (EV (Ds L) (L+24) 5 c99.u.l.r) (Bg (EV (Ds L) (L+24) 5 c99.u.r) (Dq Tryz.prog (RS Tryz.f99) k))) .normal st9))
theorem Bu2(p66_0:Aq)(p66_1:Aa)(p66_2:List ByteArray)(p66_3:List Bool)(p66_4:Aq)(o36:Cp):A6j p66_0.Name p66_1 p66_2 p66_3 p66_4 p66_0 (A9m L k p66_0 p66_1 p66_2 p66_3 p66_4) o36=ob (Ve L p66_0 o36) (Ays p66_0 p66_1 p66_2 p66_3 p66_4 k):=eE (Ve L p66_0 o36)
def Aeu [An A Cp](p66_0:Aq)(p66_1:Aa)(p66_2:List ByteArray)(p66_3:List Bool)(p66_4:Aq):A:=(bd (j6 L p66_0.Name p66_1 p66_2 p66_3 p66_4 p66_0) fun o36=>Ve L p66_0 o36)
def Mx(p66_0:Aq)(p66_1:Aa)(p66_2:List ByteArray)(p66_3:List Bool)(p66_4:Aq):Option Cp:=Aeu L p66_0 p66_1 p66_2 p66_3 p66_4
theorem Bk3(p66_0:Aq)(p66_1:Aa)(p66_2:List ByteArray)(p66_3:List Bool)(p66_4:Aq):YO (Ds L) (L+24) 6 99 [.agg (Cu p66_0),.loc 3 0] [(1,Ae p66_1),(3,[.mp 5]),(4,[.clo 84 0 [.loc 3 0]]),(5,[.mapO false false (.t9 p66_2) (.t4 p66_3)]),(14,Cu p66_4)] k=ob (Mx L p66_0 p66_1 p66_2 p66_3 p66_4) (Ays p66_0 p66_1 p66_2 p66_3 p66_4 k):=(Cr _ _ _ jn4 _ _ _ _ _ _ _).trans (eE ((ho (Bk4 L (A9m L k p66_0 p66_1 p66_2 p66_3 p66_4) p66_0.Name p66_1 p66_2 p66_3 p66_4 p66_0) fun o36=>Bu2 L k p66_0 p66_1 p66_2 p66_3 p66_4 o36)))
def A5r(p62_0:List Aq)(p62_1:Aa)(v:Tu3):St:=⟨[(0,.any),(1,.any),(2,.clo 99 0 [.loc 3 0]),(6,I v.1),(14,lv (.t155 p62_0)),(15,I (p62_0.length:Int)),(16,I v.2.1)],[(1,Ae p62_1),(3,[.mp 5]),(4,[.clo 84 0 [.loc 3 0]]),(5,[.mapO false false (.t9 v.2.2.1) (.t4 v.2.2.2)])],6⟩
def Q0 [An A Tu9](L:Nat)(Nl:Int)(T9:Int)(rec:Int→Int→List ByteArray→List Bool→A)(o40:Cp):A:=
 (cn (o40.1 != 0)
 (lf (0,o40.1,Nl,o40.2.1,o40.2.2))
 (rec T9 (Dp (Nl+1)) o40.2.1 o40.2.2))
def Vs [An A Tu9](L:Nat)(p62_0:List Aq)(p62_1:Aa)(rec:Int→Int→List ByteArray→List Bool→A)(T9:Int)(Nl:Int)(L8:List ByteArray)(L9:List Bool)(nx91:Int→(List ByteArray)→(List Bool)→Int→A):A:=
 (lw Nl p62_0
 (nx91 Nl L8 L9 T9)
 (lf (1,T9,Nl,L8,L9)))
def Aay [An A Tu9](p62_0:List Aq)(p62_1:Aa)(rec:Int→Int→List ByteArray→List Bool→A)(T9:Int)(Nl:Int)(L8:List ByteArray)(L9:List Bool):A:=Vs L p62_0 p62_1 rec T9 Nl L8 L9 (fun Nl L8 L9 T9=>bd (Mx L (p62_0.getD (Int.toNat Nl) default) p62_1 L8 L9 (p62_0.getD (Int.toNat Nl) default)) fun o40=>Q0 L Nl T9 rec o40)
def Jc(L:Nat)(p62_0:List Aq)(p62_1:Aa):Nat→Int→Int→List ByteArray→List Bool→Option Tu9
 |0,_,_,_,_=>none
 |n+1,T9,Nl,L8,L9=>Aay L p62_0 p62_1 (Jc L p62_0 p62_1 n) T9 Nl L8 L9
def Bdg(p62_0:List Aq)(p62_1:Aa):Prop:=LI (EV (Ds L) (L+24) 6 c98.w.l.u.l.l) [0,1,2,6,14,15,16] [1,3,4,5] (A5r p62_0 p62_1) [.ret,.exit 0] (fun n v=>Jc L p62_0 p62_1 n v.1 v.2.1 v.2.2.1 v.2.2.2) K n
def A9n(p62_0:List Aq)(Nl:Int)(T9:Int)(p62_1:Aa)(L8:List ByteArray)(L9:List Bool):Bn:=(Bu Tryz.prog (Ds L) (EI (Ds L) (L+24) 6) 1 (List.drop 3 c98.w.l.u.l.l.w.l.l.u.l.ops) ⟨[(21,.agg (Cu (p62_0.getD (Int.toNat Nl) default))),(20,.clo 99 0 [.loc 3 0]),(2,.clo 99 0 [.loc 3 0]),(6,I T9),(8,.loc 14 0),(14,lv (.t155 p62_0)),(15,I (p62_0.length:Int)),(16,I Nl),(17,B (decide (Nl < (p62_0.length:Int)))),(18,.ref (Cu (p62_0.getD (Int.toNat Nl) default))),(19,.agg (Cu (p62_0.getD (Int.toNat Nl) default)))],[(1,Ae p62_1),(3,[.mp 5]),(4,[.clo 84 0 [.loc 3 0]]),(5,[.mapO false false (.t9 L8) (.t4 L9)]),(14,(Cu (p62_0.getD (Int.toNat Nl) default)))],6⟩ (some 22) (fun st9=>(Bg (EV (Ds L) (L+24) 6 c98.w.l.u.l.l.w.l.l.u.r) (Ba 1 (Bg (EV (Ds L) (L+24) 6 c98.w.l.u.l.l.w.r) (Ii (Kw (EV (Ds L) (L+24) 6 c98.w.l.u.l.l) [0,1,2,6,14,15,16] [1,3,4,5] n) [0,1,2,6,14,15,16] [1,3,4,5] K)))) .normal st9))
theorem Bu3(p62_0:List Aq)(Nl:Int)(p62_1:Aa)(L8:List ByteArray)(L9:List Bool)(T9:Int)(ih:Bdg L n K p62_0 p62_1)(o40:Cp):Ays (p62_0.getD (Int.toNat Nl) default) p62_1 L8 L9 (p62_0.getD (Int.toNat Nl) default) (A9n L n K p62_0 Nl T9 p62_1 L8 L9) o40=ob (Q0 L Nl T9 (Jc L p62_0 p62_1 n) o40) (kX [.ret,.exit 0] (A5r p62_0 p62_1) K):=eE (Q0 L Nl T9 (fun T9 Nl L8 L9=>re (ih (T9,Nl,L8,L9))) o40)
theorem Bss(p62_0:List Aq)(p62_1:Aa):∀n,Bdg L n K p62_0 p62_1:=lE (fun _=>rfl) fun n v ih=>eE (Vs L p62_0 p62_1 (fun T9 Nl L8 L9=>re (ih (T9,Nl,L8,L9))) v.1 v.2.1 v.2.2.1 v.2.2.2 (fun Nl L8 L9 T9=>ho (Bk3 L (A9n L n K p62_0 Nl T9 p62_1 L8 L9) (p62_0.getD (Int.toNat Nl) default) p62_1 L8 L9 (p62_0.getD (Int.toNat Nl) default)) fun o40=>Bu3 L n K p62_0 Nl p62_1 L8 L9 T9 ih o40))
def Ayr(p62_0:List Aq)(p62_1:Aa)(p62_2:List ByteArray)(p62_3:List Bool)(k:Bn):Cp→Prop:=fun o=>k (I o.1) [(1,Ae p62_1),(3,[.mp 5]),(4,[.clo 84 0 [.loc 3 0]]),(5,[.mapO false false (.t9 o.2.1) (.t4 o.2.2)])]
def m7 [An A Cp](L:Nat)(o41:Nat×Tu3):A:=
 (sl o41.1 [(lf (o41.2.1,o41.2.2.2.1,o41.2.2.2.2)),
 (lf (0,o41.2.2.2.1,o41.2.2.2.2))])
def A9o:Br:=(Ba 0 (Bg (EV (Ds L) (L+24) 6 c98.w.r) (Dq Tryz.prog (RS Tryz.f98) k)))
theorem Bu4(p62_0:List Aq)(p62_1:Aa)(p62_2:List ByteArray)(p62_3:List Bool)(o41:Nat×Tu3):kX [.ret,.exit 0] (A5r p62_0 p62_1) (A9o L k) o41=ob (m7 L o41) (Ayr p62_0 p62_1 p62_2 p62_3 k):=eE (m7 L o41)
def Afi [An A Cp](L:Nat)(p62_0:List Aq)(p62_1:Aa)(p62_2:List ByteArray)(p62_3:List Bool)(nx92:A):A:=
 (cn (decide ((p62_0.length:Int) > 32))
 (lf (6,p62_2,p62_3))
 nx92)
def Aox [An A Cp](p62_0:List Aq)(p62_1:Aa)(p62_2:List ByteArray)(p62_3:List Bool):A:=Afi L p62_0 p62_1 p62_2 p62_3 (bd (Jc L p62_0 p62_1 (L+24) 0 0 p62_2 p62_3) fun o41=>m7 L o41)
def j5(p62_0:List Aq)(p62_1:Aa)(p62_2:List ByteArray)(p62_3:List Bool):Option Cp:=Aox L p62_0 p62_1 p62_2 p62_3
theorem Bk2(p62_0:List Aq)(p62_1:Aa)(p62_2:List ByteArray)(p62_3:List Bool):YO (Ds L) (L+24) 7 98 [lv (.t155 p62_0),I 32,.clo 99 0 [.loc 3 0]] [(1,Ae p62_1),(3,[.mp 5]),(4,[.clo 84 0 [.loc 3 0]]),(5,[.mapO false false (.t9 p62_2) (.t4 p62_3)])] k=ob (j5 L p62_0 p62_1 p62_2 p62_3) (Ayr p62_0 p62_1 p62_2 p62_3 k):=(Cr _ _ _ jn4 _ _ _ _ _ _ _).trans (eE (Afi L p62_0 p62_1 p62_2 p62_3 (ho (Bss L (A9o L k) p62_0 p62_1 (L+24) (0,0,p62_2,p62_3)) fun o41=>Bu4 L k p62_0 p62_1 p62_2 p62_3 o41)))
def A6k(p71_0:ByteArray)(p71_1:Aa)(p71_2:List ByteArray)(p71_3:List Bool)(k:Bn):Cp→Prop:=fun o=>k (I o.1) [(1,Ae p71_1),(3,[.mp 5]),(4,[.clo 84 0 [.loc 3 0]]),(5,[.mapO false false (.t9 o.2.1) (.t4 o.2.2)])]
def Aew [An A Cp](p71_0:ByteArray)(p71_1:Aa)(p71_2:List ByteArray)(p71_3:List Bool):A:=
 (bd (C6 L p71_0) fun r43=>
 (cn (r43 != 0)
 (lf (r43,p71_2,p71_3))
 (fq (p71_2.findIdx? fun b=>p71_0 == b) (fun i44=>
 (cn (p71_3.getD i44 default)
 (lf (4,p71_2,p71_3))
 (fq (p71_2.findIdx? fun b=>p71_0 == b) (fun i45=>
 (lf (0,p71_2,(p71_3.set i45 true))))
 (lf (0,(p71_2++ [p71_0]),(p71_3++ [true]))))))
 (fq (p71_2.findIdx? fun b=>p71_0 == b) (fun i46=>
 (lf (0,p71_2,(p71_3.set i46 true))))
 (lf (0,(p71_2++ [p71_0]),(p71_3++ [true])))))))
def My(p71_0:ByteArray)(p71_1:Aa)(p71_2:List ByteArray)(p71_3:List Bool):Option Cp:=Aew L p71_0 p71_1 p71_2 p71_3
theorem Bk5(p71_0:ByteArray)(p71_1:Aa)(p71_2:List ByteArray)(p71_3:List Bool):YO (Ds L) (L+24) 5 64 [.mp 5,S p71_0] [(1,Ae p71_1),(3,[.mp 5]),(4,[.clo 84 0 [.loc 3 0]]),(5,[.mapO false false (.t9 p71_2) (.t4 p71_3)])] k=ob (My L p71_0 p71_1 p71_2 p71_3) (A6k p71_0 p71_1 p71_2 p71_3 k):=(Cr _ _ _ jn4 _ _ _ _ _ _ _).trans (eE (Aew L p71_0 p71_1 p71_2 p71_3))
def A5s(p69_0:List ByteArray)(p69_1:Aa)(v:Tu3):St:=⟨[(0,.any),(1,.any),(2,.clo 64 1 [.mp 5]),(6,I v.1),(14,lv (.t9 p69_0)),(15,I (p69_0.length:Int)),(16,I v.2.1)],[(1,Ae p69_1),(3,[.mp 5]),(4,[.clo 84 0 [.loc 3 0]]),(5,[.mapO false false (.t9 v.2.2.1) (.t4 v.2.2.2)])],6⟩
def Ra [An A Tu9](L:Nat)(Nv:Int)(Ua:Int)(rec:Int→Int→List ByteArray→List Bool→A)(o47:Cp):A:=
 (cn (o47.1 != 0)
 (lf (0,o47.1,Nv,o47.2.1,o47.2.2))
 (rec Ua (Dp (Nv+1)) o47.2.1 o47.2.2))
def Vt [An A Tu9](L:Nat)(p69_0:List ByteArray)(p69_1:Aa)(rec:Int→Int→List ByteArray→List Bool→A)(Ua:Int)(Nv:Int)(Ma:List ByteArray)(Mb:List Bool)(nx96:Int→(List ByteArray)→(List Bool)→Int→A):A:=
 (lw Nv p69_0
 (nx96 Nv Ma Mb Ua)
 (lf (1,Ua,Nv,Ma,Mb)))
def Aaz [An A Tu9](p69_0:List ByteArray)(p69_1:Aa)(rec:Int→Int→List ByteArray→List Bool→A)(Ua:Int)(Nv:Int)(Ma:List ByteArray)(Mb:List Bool):A:=Vt L p69_0 p69_1 rec Ua Nv Ma Mb (fun Nv Ma Mb Ua=>bd (My L (p69_0.getD (Int.toNat Nv) default) p69_1 Ma Mb) fun o47=>Ra L Nv Ua rec o47)
def Jd(L:Nat)(p69_0:List ByteArray)(p69_1:Aa):Nat→Int→Int→List ByteArray→List Bool→Option Tu9
 |0,_,_,_,_=>none
 |n+1,Ua,Nv,Ma,Mb=>Aaz L p69_0 p69_1 (Jd L p69_0 p69_1 n) Ua Nv Ma Mb
def Bdh(p69_0:List ByteArray)(p69_1:Aa):Prop:=LI (EV (Ds L) (L+24) 5 c85.w.l.u.l.l) [0,1,2,6,14,15,16] [1,3,4,5] (A5s p69_0 p69_1) [.ret,.exit 0] (fun n v=>Jd L p69_0 p69_1 n v.1 v.2.1 v.2.2.1 v.2.2.2) K n
def A9q(p69_0:List ByteArray)(Nv:Int)(Ua:Int)(p69_1:Aa)(Ma:List ByteArray)(Mb:List Bool):Bn:=(Bu Tryz.prog (Ds L) (EI (Ds L) (L+24) 5) 1 (List.drop 3 c85.w.l.u.l.l.w.l.l.u.l.ops) ⟨[(21,S (p69_0.getD (Int.toNat Nv) default)),(20,.clo 64 1 [.mp 5]),(2,.clo 64 1 [.mp 5]),(6,I Ua),(8,S (p69_0.getD (Int.toNat Nv) default)),(14,lv (.t9 p69_0)),(15,I (p69_0.length:Int)),(16,I Nv),(17,B (decide (Nv < (p69_0.length:Int)))),(18,.ref [S (p69_0.getD (Int.toNat Nv) default)]),(19,S (p69_0.getD (Int.toNat Nv) default))],[(1,Ae p69_1),(3,[.mp 5]),(4,[.clo 84 0 [.loc 3 0]]),(5,[.mapO false false (.t9 Ma) (.t4 Mb)])],6⟩ (some 22) (fun st9=>(Bg (EV (Ds L) (L+24) 5 c85.w.l.u.l.l.w.l.l.u.r) (Ba 1 (Bg (EV (Ds L) (L+24) 5 c85.w.l.u.l.l.w.r) (Ii (Kw (EV (Ds L) (L+24) 5 c85.w.l.u.l.l) [0,1,2,6,14,15,16] [1,3,4,5] n) [0,1,2,6,14,15,16] [1,3,4,5] K)))) .normal st9))
theorem Bu6(p69_0:List ByteArray)(Nv:Int)(p69_1:Aa)(Ma:List ByteArray)(Mb:List Bool)(Ua:Int)(ih:Bdh L n K p69_0 p69_1)(o47:Cp):A6k (p69_0.getD (Int.toNat Nv) default) p69_1 Ma Mb (A9q L n K p69_0 Nv Ua p69_1 Ma Mb) o47=ob (Ra L Nv Ua (Jd L p69_0 p69_1 n) o47) (kX [.ret,.exit 0] (A5s p69_0 p69_1) K):=eE (Ra L Nv Ua (fun Ua Nv Ma Mb=>re (ih (Ua,Nv,Ma,Mb))) o47)
theorem Bst(p69_0:List ByteArray)(p69_1:Aa):∀n,Bdh L n K p69_0 p69_1:=lE (fun _=>rfl) fun n v ih=>eE (Vt L p69_0 p69_1 (fun Ua Nv Ma Mb=>re (ih (Ua,Nv,Ma,Mb))) v.1 v.2.1 v.2.2.1 v.2.2.2 (fun Nv Ma Mb Ua=>ho (Bk5 L (A9q L n K p69_0 Nv Ua p69_1 Ma Mb) (p69_0.getD (Int.toNat Nv) default) p69_1 Ma Mb) fun o47=>Bu6 L n K p69_0 Nv p69_1 Ma Mb Ua ih o47))
def Afu(p69_0:List ByteArray)(p69_1:Aa)(p69_2:List ByteArray)(p69_3:List Bool)(k:Bn):Cp→Prop:=fun o=>k (I o.1) [(1,Ae p69_1),(3,[.mp 5]),(4,[.clo 84 0 [.loc 3 0]]),(5,[.mapO false false (.t9 o.2.1) (.t4 o.2.2)])]
def m9 [An A Cp](L:Nat)(o48:Nat×Tu3):A:=
 (sl o48.1 [(lf (o48.2.1,o48.2.2.2.1,o48.2.2.2.2)),
 (lf (0,o48.2.2.2.1,o48.2.2.2.2))])
def A9r:Br:=(Ba 0 (Bg (EV (Ds L) (L+24) 5 c85.w.r) (Dq Tryz.prog (RS Tryz.f85) k)))
theorem Bu7(p69_0:List ByteArray)(p69_1:Aa)(p69_2:List ByteArray)(p69_3:List Bool)(o48:Nat×Tu3):kX [.ret,.exit 0] (A5s p69_0 p69_1) (A9r L k) o48=ob (m9 L o48) (Afu p69_0 p69_1 p69_2 p69_3 k):=eE (m9 L o48)
def Afj [An A Cp](L:Nat)(p69_0:List ByteArray)(p69_1:Aa)(p69_2:List ByteArray)(p69_3:List Bool)(nx97:A):A:=
 (cn (decide ((p69_0.length:Int) > 32))
 (lf (6,p69_2,p69_3))
 nx97)
def Aoy [An A Cp](p69_0:List ByteArray)(p69_1:Aa)(p69_2:List ByteArray)(p69_3:List Bool):A:=Afj L p69_0 p69_1 p69_2 p69_3 (bd (Jd L p69_0 p69_1 (L+24) 0 0 p69_2 p69_3) fun o48=>m9 L o48)
def Jx(p69_0:List ByteArray)(p69_1:Aa)(p69_2:List ByteArray)(p69_3:List Bool):Option Cp:=Aoy L p69_0 p69_1 p69_2 p69_3
theorem Am7(p69_0:List ByteArray)(p69_1:Aa)(p69_2:List ByteArray)(p69_3:List Bool):YO (Ds L) (L+24) 6 85 [lv (.t9 p69_0),I 32,.clo 64 1 [.mp 5]] [(1,Ae p69_1),(3,[.mp 5]),(4,[.clo 84 0 [.loc 3 0]]),(5,[.mapO false false (.t9 p69_2) (.t4 p69_3)])] k=ob (Jx L p69_0 p69_1 p69_2 p69_3) (Afu p69_0 p69_1 p69_2 p69_3 k):=(Cr _ _ _ jn4 _ _ _ _ _ _ _).trans (eE (Afj L p69_0 p69_1 p69_2 p69_3 (ho (Bst L (A9r L k) p69_0 p69_1 (L+24) (0,0,p69_2,p69_3)) fun o48=>Bu7 L k p69_0 p69_1 p69_2 p69_3 o48)))
def A6l(p78_0:ByteArray)(p78_1:Aa)(p78_2:List ByteArray)(p78_3:List Bool)(p78_4:Ak)(p78_5:Ak)(k:Bn):Cp→Prop:=fun o=>k (I o.1) [(1,Ae p78_1),(3,[.mp 5]),(4,[.clo 84 0 [.loc 3 0]]),(5,[.mapO false false (.t9 o.2.1) (.t4 o.2.2)]),(14,Bw p78_4),(17,Bw p78_5)]
def Aey [An A Cp](p78_0:ByteArray)(p78_1:Aa)(p78_2:List ByteArray)(p78_3:List Bool)(p78_4:Ak)(p78_5:Ak):A:=
 (bd (C6 L p78_0) fun r54=>
 (cn (r54 != 0)
 (lf (r54,p78_2,p78_3))
 (fq (p78_2.findIdx? fun b=>p78_0 == b) (fun i55=>
 (cn (p78_3.getD i55 default)
 (lf (4,p78_2,p78_3))
 (fq (p78_2.findIdx? fun b=>p78_0 == b) (fun i56=>
 (lf (0,p78_2,(p78_3.set i56 true))))
 (lf (0,(p78_2++ [p78_0]),(p78_3++ [true]))))))
 (fq (p78_2.findIdx? fun b=>p78_0 == b) (fun i57=>
 (lf (0,p78_2,(p78_3.set i57 true))))
 (lf (0,(p78_2++ [p78_0]),(p78_3++ [true])))))))
def j8(p78_0:ByteArray)(p78_1:Aa)(p78_2:List ByteArray)(p78_3:List Bool)(p78_4:Ak)(p78_5:Ak):Option Cp:=Aey L p78_0 p78_1 p78_2 p78_3 p78_4 p78_5
theorem Bk8(p78_0:ByteArray)(p78_1:Aa)(p78_2:List ByteArray)(p78_3:List Bool)(p78_4:Ak)(p78_5:Ak):YO (Ds L) (L+24) 5 64 [.mp 5,S p78_0] [(1,Ae p78_1),(3,[.mp 5]),(4,[.clo 84 0 [.loc 3 0]]),(5,[.mapO false false (.t9 p78_2) (.t4 p78_3)]),(14,Bw p78_4),(17,Bw p78_5)] k=ob (j8 L p78_0 p78_1 p78_2 p78_3 p78_4 p78_5) (A6l p78_0 p78_1 p78_2 p78_3 p78_4 p78_5 k):=(Cr _ _ _ jn4 _ _ _ _ _ _ _).trans (eE (Aey L p78_0 p78_1 p78_2 p78_3 p78_4 p78_5))
def Ayu(p76_0:Ak)(p76_1:Aa)(p76_2:List ByteArray)(p76_3:List Bool)(p76_4:Ak)(k:Bn):Cp→Prop:=fun o=>k (I o.1) [(1,Ae p76_1),(3,[.mp 5]),(4,[.clo 84 0 [.loc 3 0]]),(5,[.mapO false false (.t9 o.2.1) (.t4 o.2.2)]),(14,Bw p76_4),(17,Bw p76_0)]
def Tg [An A Cp](p76_0:Ak)(o58:Cp):A:=
 (cn (o58.1 != 0)
 (lf (o58.1,o58.2.1,o58.2.2))
 (bd (Wi L p76_0) fun r59=>
 (lf (r59,o58.2.1,o58.2.2))))
def A2i(p76_0:Ak)(p76_1:Aa)(p76_2:List ByteArray)(p76_3:List Bool)(p76_4:Ak):Bn:=(Bu Tryz.prog (Ds L) (EI (Ds L) (L+24) 5) 1 (List.drop 4 Bq2.u.l.l.ops) ⟨[(7,S p76_0.Name),(6,.loc 17 0),(5,.mp 5),(1,.loc 3 0),(2,.loc 17 0),(3,I 0)],[(1,Ae p76_1),(3,[.mp 5]),(4,[.clo 84 0 [.loc 3 0]]),(5,[.mapO false false (.t9 p76_2) (.t4 p76_3)]),(14,Bw p76_4),(17,Bw p76_0)],15⟩ (some 8) (fun st9=>(Bg (EV (Ds L) (L+24) 5 Bq2.u.l.r) (Bg (EV (Ds L) (L+24) 5 Bq2.u.r) (Dq Tryz.prog (RS Tryz.f107) k))) .normal st9))
theorem Bm5(p76_0:Ak)(p76_1:Aa)(p76_2:List ByteArray)(p76_3:List Bool)(p76_4:Ak)(o58:Cp):A6l p76_0.Name p76_1 p76_2 p76_3 p76_4 p76_0 (A2i L k p76_0 p76_1 p76_2 p76_3 p76_4) o58=ob (Tg L p76_0 o58) (Ayu p76_0 p76_1 p76_2 p76_3 p76_4 k):=eE (Tg L p76_0 o58)
def Aex [An A Cp](p76_0:Ak)(p76_1:Aa)(p76_2:List ByteArray)(p76_3:List Bool)(p76_4:Ak):A:=(bd (j8 L p76_0.Name p76_1 p76_2 p76_3 p76_4 p76_0) fun o58=>Tg L p76_0 o58)
def Mz(p76_0:Ak)(p76_1:Aa)(p76_2:List ByteArray)(p76_3:List Bool)(p76_4:Ak):Option Cp:=Aex L p76_0 p76_1 p76_2 p76_3 p76_4
theorem Bk7(p76_0:Ak)(p76_1:Aa)(p76_2:List ByteArray)(p76_3:List Bool)(p76_4:Ak):YO (Ds L) (L+24) 6 107 [.agg (Bw p76_0),.loc 3 0] [(1,Ae p76_1),(3,[.mp 5]),(4,[.clo 84 0 [.loc 3 0]]),(5,[.mapO false false (.t9 p76_2) (.t4 p76_3)]),(14,Bw p76_4)] k=ob (Mz L p76_0 p76_1 p76_2 p76_3 p76_4) (Ayu p76_0 p76_1 p76_2 p76_3 p76_4 k):=(Cr _ _ _ jn4 _ _ _ _ _ _ _).trans (eE ((ho (Bk8 L (A2i L k p76_0 p76_1 p76_2 p76_3 p76_4) p76_0.Name p76_1 p76_2 p76_3 p76_4 p76_0) fun o58=>Bm5 L k p76_0 p76_1 p76_2 p76_3 p76_4 o58)))
def A5t(p72_0:List Ak)(p72_1:Aa)(v:Tu3):St:=⟨[(0,.any),(1,.any),(2,.clo 107 0 [.loc 3 0]),(6,I v.1),(14,lv (.t60 p72_0)),(15,I (p72_0.length:Int)),(16,I v.2.1)],[(1,Ae p72_1),(3,[.mp 5]),(4,[.clo 84 0 [.loc 3 0]]),(5,[.mapO false false (.t9 v.2.2.1) (.t4 v.2.2.2)])],6⟩
def Ph [An A Tu9](L:Nat)(Nm:Int)(Ub:Int)(rec:Int→Int→List ByteArray→List Bool→A)(o60:Cp):A:=
 (cn (o60.1 != 0)
 (lf (0,o60.1,Nm,o60.2.1,o60.2.2))
 (rec Ub (Dp (Nm+1)) o60.2.1 o60.2.2))
def Tr [An A Tu9](L:Nat)(p72_0:List Ak)(p72_1:Aa)(rec:Int→Int→List ByteArray→List Bool→A)(Ub:Int)(Nm:Int)(Mc:List ByteArray)(Md:List Bool)(nx109:Int→(List ByteArray)→(List Bool)→Int→A):A:=
 (lw Nm p72_0
 (nx109 Nm Mc Md Ub)
 (lf (1,Ub,Nm,Mc,Md)))
def Aa0 [An A Tu9](p72_0:List Ak)(p72_1:Aa)(rec:Int→Int→List ByteArray→List Bool→A)(Ub:Int)(Nm:Int)(Mc:List ByteArray)(Md:List Bool):A:=Tr L p72_0 p72_1 rec Ub Nm Mc Md (fun Nm Mc Md Ub=>bd (Mz L (p72_0.getD (Int.toNat Nm) default) p72_1 Mc Md (p72_0.getD (Int.toNat Nm) default)) fun o60=>Ph L Nm Ub rec o60)
def Je(L:Nat)(p72_0:List Ak)(p72_1:Aa):Nat→Int→Int→List ByteArray→List Bool→Option Tu9
 |0,_,_,_,_=>none
 |n+1,Ub,Nm,Mc,Md=>Aa0 L p72_0 p72_1 (Je L p72_0 p72_1 n) Ub Nm Mc Md
def Bdi(p72_0:List Ak)(p72_1:Aa):Prop:=LI (EV (Ds L) (L+24) 6 Bby.w.l.u.l.l) [0,1,2,6,14,15,16] [1,3,4,5] (A5t p72_0 p72_1) [.ret,.exit 0] (fun n v=>Je L p72_0 p72_1 n v.1 v.2.1 v.2.2.1 v.2.2.2) K n
def A2j(p72_0:List Ak)(Nm:Int)(Ub:Int)(p72_1:Aa)(Mc:List ByteArray)(Md:List Bool):Bn:=(Bu Tryz.prog (Ds L) (EI (Ds L) (L+24) 6) 1 (List.drop 3 Bby.w.l.u.l.l.w.l.l.u.l.ops) ⟨[(21,.agg (Bw (p72_0.getD (Int.toNat Nm) default))),(20,.clo 107 0 [.loc 3 0]),(2,.clo 107 0 [.loc 3 0]),(6,I Ub),(8,.loc 14 0),(14,lv (.t60 p72_0)),(15,I (p72_0.length:Int)),(16,I Nm),(17,B (decide (Nm < (p72_0.length:Int)))),(18,.ref (Bw (p72_0.getD (Int.toNat Nm) default))),(19,.agg (Bw (p72_0.getD (Int.toNat Nm) default)))],[(1,Ae p72_1),(3,[.mp 5]),(4,[.clo 84 0 [.loc 3 0]]),(5,[.mapO false false (.t9 Mc) (.t4 Md)]),(14,(Bw (p72_0.getD (Int.toNat Nm) default)))],6⟩ (some 22) (fun st9=>(Bg (EV (Ds L) (L+24) 6 Bby.w.l.u.l.l.w.l.l.u.r) (Ba 1 (Bg (EV (Ds L) (L+24) 6 Bby.w.l.u.l.l.w.r) (Ii (Kw (EV (Ds L) (L+24) 6 Bby.w.l.u.l.l) [0,1,2,6,14,15,16] [1,3,4,5] n) [0,1,2,6,14,15,16] [1,3,4,5] K)))) .normal st9))
theorem Bm6(p72_0:List Ak)(Nm:Int)(p72_1:Aa)(Mc:List ByteArray)(Md:List Bool)(Ub:Int)(ih:Bdi L n K p72_0 p72_1)(o60:Cp):Ayu (p72_0.getD (Int.toNat Nm) default) p72_1 Mc Md (p72_0.getD (Int.toNat Nm) default) (A2j L n K p72_0 Nm Ub p72_1 Mc Md) o60=ob (Ph L Nm Ub (Je L p72_0 p72_1 n) o60) (kX [.ret,.exit 0] (A5t p72_0 p72_1) K):=eE (Ph L Nm Ub (fun Ub Nm Mc Md=>re (ih (Ub,Nm,Mc,Md))) o60)
theorem Bsu(p72_0:List Ak)(p72_1:Aa):∀n,Bdi L n K p72_0 p72_1:=lE (fun _=>rfl) fun n v ih=>eE (Tr L p72_0 p72_1 (fun Ub Nm Mc Md=>re (ih (Ub,Nm,Mc,Md))) v.1 v.2.1 v.2.2.1 v.2.2.2 (fun Nm Mc Md Ub=>ho (Bk7 L (A2j L n K p72_0 Nm Ub p72_1 Mc Md) (p72_0.getD (Int.toNat Nm) default) p72_1 Mc Md (p72_0.getD (Int.toNat Nm) default)) fun o60=>Bm6 L n K p72_0 Nm p72_1 Mc Md Ub ih o60))
def Ayt(p72_0:List Ak)(p72_1:Aa)(p72_2:List ByteArray)(p72_3:List Bool)(k:Bn):Cp→Prop:=fun o=>k (I o.1) [(1,Ae p72_1),(3,[.mp 5]),(4,[.clo 84 0 [.loc 3 0]]),(5,[.mapO false false (.t9 o.2.1) (.t4 o.2.2)])]
def Za [An A Cp](L:Nat)(o61:Nat×Tu3):A:=
 (sl o61.1 [(lf (o61.2.1,o61.2.2.2.1,o61.2.2.2.2)),
 (lf (0,o61.2.2.2.1,o61.2.2.2.2))])
def A2k:Br:=(Ba 0 (Bg (EV (Ds L) (L+24) 6 Bby.w.r) (Dq Tryz.prog (RS Tryz.f106) k)))
theorem Bm7(p72_0:List Ak)(p72_1:Aa)(p72_2:List ByteArray)(p72_3:List Bool)(o61:Nat×Tu3):kX [.ret,.exit 0] (A5t p72_0 p72_1) (A2k L k) o61=ob (Za L o61) (Ayt p72_0 p72_1 p72_2 p72_3 k):=eE (Za L o61)
def Adh [An A Cp](L:Nat)(p72_0:List Ak)(p72_1:Aa)(p72_2:List ByteArray)(p72_3:List Bool)(nx110:A):A:=
 (cn (decide ((p72_0.length:Int) > 16))
 (lf (6,p72_2,p72_3))
 nx110)
def Aoz [An A Cp](p72_0:List Ak)(p72_1:Aa)(p72_2:List ByteArray)(p72_3:List Bool):A:=Adh L p72_0 p72_1 p72_2 p72_3 (bd (Je L p72_0 p72_1 (L+24) 0 0 p72_2 p72_3) fun o61=>Za L o61)
def j7(p72_0:List Ak)(p72_1:Aa)(p72_2:List ByteArray)(p72_3:List Bool):Option Cp:=Aoz L p72_0 p72_1 p72_2 p72_3
theorem Bk6(p72_0:List Ak)(p72_1:Aa)(p72_2:List ByteArray)(p72_3:List Bool):YO (Ds L) (L+24) 7 106 [lv (.t60 p72_0),I 16,.clo 107 0 [.loc 3 0]] [(1,Ae p72_1),(3,[.mp 5]),(4,[.clo 84 0 [.loc 3 0]]),(5,[.mapO false false (.t9 p72_2) (.t4 p72_3)])] k=ob (j7 L p72_0 p72_1 p72_2 p72_3) (Ayt p72_0 p72_1 p72_2 p72_3 k):=(Cr _ _ _ jn4 _ _ _ _ _ _ _).trans (eE (Adh L p72_0 p72_1 p72_2 p72_3 (ho (Bsu L (A2k L k) p72_0 p72_1 (L+24) (0,0,p72_2,p72_3)) fun o61=>Bm7 L k p72_0 p72_1 p72_2 p72_3 o61)))
def Bhp(p79_0:List Bo)(p79_1:Aa)(p79_2:List ByteArray)(p79_3:List Bool)(v:D2):St:=⟨[(0,.any),(1,.any),(2,.clo 111 0 [.loc 1 0]),(6,I v.1),(14,lv (.t161 p79_0)),(15,I (p79_0.length:Int)),(16,I v.2)],[(1,Ae p79_1),(3,[.mp 5]),(4,[.clo 84 0 [.loc 3 0]]),(5,[.mapO false false (.t9 p79_2) (.t4 p79_3)])],6⟩
def Ww [An A Ki](p79_0:List Bo)(p79_1:Aa)(p79_2:List ByteArray)(p79_3:List Bool)(rec:Int→Int→A)(Ahs:Int)(A0q:Int):A:=
 (lw A0q p79_0
 (bd (Sv L p79_1 (p79_0.getD (Int.toNat A0q) default)) fun r63=>
 (cn (r63 != 0)
 (lf (0,r63,A0q))
 (rec Ahs (Dp (A0q+1)))))
 (lf (1,Ahs,A0q)))
def Lg(L:Nat)(p79_0:List Bo)(p79_1:Aa)(p79_2:List ByteArray)(p79_3:List Bool):Nat→Int→Int→Option Ki
 |0,_,_=>none
 |n+1,Ahs,A0q=>Ww L p79_0 p79_1 p79_2 p79_3 (Lg L p79_0 p79_1 p79_2 p79_3 n) Ahs A0q
theorem Bsv(p79_0:List Bo)(p79_1:Aa)(p79_2:List ByteArray)(p79_3:List Bool):LP (EV (Ds L) (L+24) 6 Bx1.w.l.u.l.l) [0,1,2,6,14,15,16] [1,3,4,5] (Bhp p79_0 p79_1 p79_2 p79_3) [.ret,.exit 0] (fun n v=>Lg L p79_0 p79_1 p79_2 p79_3 n v.1 v.2) K:=lE (fun _=>rfl) fun n v ih=>eE (Ww L p79_0 p79_1 p79_2 p79_3 (fun Ahs A0q=>re (ih (Ahs,A0q))) v.1 v.2)
def Ayv(p79_0:List Bo)(p79_1:Aa)(p79_2:List ByteArray)(p79_3:List Bool)(k:Bn):Int→Prop:=fun o=>k (I o) [(1,Ae p79_1),(3,[.mp 5]),(4,[.clo 84 0 [.loc 3 0]]),(5,[.mapO false false (.t9 p79_2) (.t4 p79_3)])]
def Zc [An A Int](L:Nat)(o64:Nat×D2):A:=
 (sl o64.1 [(lf o64.2.1),
 (lf 0)])
def A2m:Br:=(Ba 0 (Bg (EV (Ds L) (L+24) 6 Bx1.w.r) (Dq Tryz.prog (RS Tryz.f110) k)))
theorem Bm9(p79_0:List Bo)(p79_1:Aa)(p79_2:List ByteArray)(p79_3:List Bool)(o64:Nat×D2):kX [.ret,.exit 0] (Bhp p79_0 p79_1 p79_2 p79_3) (A2m L k) o64=ob (Zc L o64) (Ayv p79_0 p79_1 p79_2 p79_3 k):=eE (Zc L o64)
def Adi [An A Int](L:Nat)(p79_0:List Bo)(p79_1:Aa)(p79_2:List ByteArray)(p79_3:List Bool)(nx113:A):A:=
 (cn (decide ((p79_0.length:Int) > 32))
 (lf 6)
 nx113)
def Ao0 [An A Int](p79_0:List Bo)(p79_1:Aa)(p79_2:List ByteArray)(p79_3:List Bool):A:=Adi L p79_0 p79_1 p79_2 p79_3 (bd (Lg L p79_0 p79_1 p79_2 p79_3 (L+24) 0 0) fun o64=>Zc L o64)
def j9(p79_0:List Bo)(p79_1:Aa)(p79_2:List ByteArray)(p79_3:List Bool):Option Int:=Ao0 L p79_0 p79_1 p79_2 p79_3
theorem Bk9(p79_0:List Bo)(p79_1:Aa)(p79_2:List ByteArray)(p79_3:List Bool):YO (Ds L) (L+24) 7 110 [lv (.t161 p79_0),I 32,.clo 111 0 [.loc 1 0]] [(1,Ae p79_1),(3,[.mp 5]),(4,[.clo 84 0 [.loc 3 0]]),(5,[.mapO false false (.t9 p79_2) (.t4 p79_3)])] k=ob (j9 L p79_0 p79_1 p79_2 p79_3) (Ayv p79_0 p79_1 p79_2 p79_3 k):=(Cr _ _ _ jn4 _ _ _ _ _ _ _).trans (eE (Adi L p79_0 p79_1 p79_2 p79_3 (ho (Bsv L (A2m L k) p79_0 p79_1 p79_2 p79_3 (L+24) (0,0)) fun o64=>Bm9 L k p79_0 p79_1 p79_2 p79_3 o64)))
def Zw(p1_0:Aa)(k:Bn):Cp→Prop:=fun o=>k (I o.1) [(1,Ae p1_0),(3,[.mp 5]),(4,[.clo 84 0 [.loc 3 0]]),(5,[.mapO false false (.t9 o.2.1) (.t4 o.2.2)])]
def Th [An A Cp](o62:Cp)(p1_0:Aa)(o65:Int):A:=
 (cn (o65 != 0)
 (lf (o65,o62.2.1,o62.2.2))
 (gq (0≤11)
 (gq (11 < ((12:Nat):Int))
 (bd (Abl L p1_0) fun r66=>
 (cn (r66 != 0)
 (lf (r66,o62.2.1,o62.2.2))
 (lf (0,o62.2.1,o62.2.2)))))))
def A2n(p1_0:Aa)(o62:Cp):Bn:=(Bu Tryz.prog (Ds L) (EI (Ds L) (L+24) 7) 1 (List.drop 4 Bx0.u.l.ops) ⟨[(4,.clo 111 0 [.loc 1 0]),(3,lv (.t161 p1_0.Starts)),(2,.loc 1 11),(0,.loc 1 0),(1,I 0)],[(1,Ae p1_0),(3,[.mp 5]),(4,[.clo 84 0 [.loc 3 0]]),(5,[.mapO false false (.t9 o62.2.1) (.t4 o62.2.2)])],6⟩ (some 5) (fun st9=>(Bg (EV (Ds L) (L+24) 7 Bx0.u.r) (Dq Tryz.prog (RS Tryz.f109) (Bu Tryz.prog (Ds L) (EI (Ds L) (L+24) 8) 1 (List.drop 2 c86.u.l.u.l.l.w.l.l.u.l.ops) ⟨[(12,.clo 109 0 [.loc 1 0]),(2,I 0),(4,.clo 109 0 [.loc 1 0]),(6,.sl false 139 1 [[.clo 87 0 [.loc 3 0,.loc 1 0]],[.clo 88 0 [.loc 1 0,.loc 3 0]],[.clo 94 0 [.loc 1 0,.loc 3 0]],[.clo 97 0 [.loc 1 0,.loc 3 0]],[.clo 100 0 [.loc 4 0,.loc 1 0]],[.clo 101 0 [.loc 4 0,.loc 1 0]],[.clo 102 0 [.loc 4 0,.loc 1 0]],[.clo 103 0 [.loc 4 0,.loc 1 0]],[.clo 104 0 [.loc 4 0,.loc 1 0]],[.clo 105 0 [.loc 1 0,.loc 3 0]],[.clo 109 0 [.loc 1 0]],[.clo 113 0 [.loc 1 0]]]),(7,I 12),(8,I 10),(9,B true),(10,.ref [.clo 109 0 [.loc 1 0]]),(11,.clo 109 0 [.loc 1 0])],[(1,Ae p1_0),(3,[.mp 5]),(4,[.clo 84 0 [.loc 3 0]]),(5,[.mapO false false (.t9 o62.2.1) (.t4 o62.2.2)])],6⟩ (some 13) (fun st9=>(Bg (EV (Ds L) (L+24) 8 c86.u.l.u.l.l.w.l.l.u.r) (Ba 1 (Bg (EV (Ds L) (L+24) 8 c86.u.l.u.l.l.w.r) (Ii (Kw (EV (Ds L) (L+24) 8 c86.u.l.u.l.l) [0,2,6,7,8] [1,3,4,5] (L+13)) [0,2,6,7,8] [1,3,4,5] (Aci L k))))) .normal st9)))) .normal st9))
theorem Bna(p1_0:Aa)(o62:Cp)(o65:Int):Ayv p1_0.Starts p1_0 o62.2.1 o62.2.2 (A2n L k p1_0 o62) o65=ob (Th L o62 p1_0 o65) (Zw p1_0 k):=eE (Th L o62 p1_0 o65)
def Zm [An A Cp](L:Nat)(p1_0:Aa)(o62:Cp)(nx114:Cp→A):A:=
 (cn (o62.1 != 0)
 (lf (o62.1,o62.2.1,o62.2.2))
 (gq (0≤10)
 (gq (10 < ((12:Nat):Int))
 (nx114 o62))))
def Zb [An A Cp](p1_0:Aa)(o62:Cp):A:=Zm L p1_0 o62 (fun o62=>bd (j9 L p1_0.Starts p1_0 o62.2.1 o62.2.2) fun o65=>Th L o62 p1_0 o65)
def A2l(p1_0:Aa)(o53:Cp):Bn:=(Bu Tryz.prog (Ds L) (EI (Ds L) (L+24) 7) 1 (List.drop 4 Bxz.u.l.ops) ⟨[(5,.clo 107 0 [.loc 3 0]),(4,lv (.t60 p1_0.Routines)),(3,.loc 1 10),(0,.loc 1 0),(1,.loc 3 0),(2,I 0)],[(1,Ae p1_0),(3,[.mp 5]),(4,[.clo 84 0 [.loc 3 0]]),(5,[.mapO false false (.t9 o53.2.1) (.t4 o53.2.2)])],6⟩ (some 6) (fun st9=>(Bg (EV (Ds L) (L+24) 7 Bxz.u.r) (Dq Tryz.prog (RS Tryz.f105) (Bu Tryz.prog (Ds L) (EI (Ds L) (L+24) 8) 1 (List.drop 2 c86.u.l.u.l.l.w.l.l.u.l.ops) ⟨[(12,.clo 105 0 [.loc 1 0,.loc 3 0]),(2,I 0),(4,.clo 105 0 [.loc 1 0,.loc 3 0]),(6,.sl false 139 1 [[.clo 87 0 [.loc 3 0,.loc 1 0]],[.clo 88 0 [.loc 1 0,.loc 3 0]],[.clo 94 0 [.loc 1 0,.loc 3 0]],[.clo 97 0 [.loc 1 0,.loc 3 0]],[.clo 100 0 [.loc 4 0,.loc 1 0]],[.clo 101 0 [.loc 4 0,.loc 1 0]],[.clo 102 0 [.loc 4 0,.loc 1 0]],[.clo 103 0 [.loc 4 0,.loc 1 0]],[.clo 104 0 [.loc 4 0,.loc 1 0]],[.clo 105 0 [.loc 1 0,.loc 3 0]],[.clo 109 0 [.loc 1 0]],[.clo 113 0 [.loc 1 0]]]),(7,I 12),(8,I 9),(9,B true),(10,.ref [.clo 105 0 [.loc 1 0,.loc 3 0]]),(11,.clo 105 0 [.loc 1 0,.loc 3 0])],[(1,Ae p1_0),(3,[.mp 5]),(4,[.clo 84 0 [.loc 3 0]]),(5,[.mapO false false (.t9 o53.2.1) (.t4 o53.2.2)])],6⟩ (some 13) (fun st9=>(Bg (EV (Ds L) (L+24) 8 c86.u.l.u.l.l.w.l.l.u.r) (Ba 1 (Bg (EV (Ds L) (L+24) 8 c86.u.l.u.l.l.w.r) (Ii (Kw (EV (Ds L) (L+24) 8 c86.u.l.u.l.l) [0,2,6,7,8] [1,3,4,5] (L+14)) [0,2,6,7,8] [1,3,4,5] (Aci L k))))) .normal st9)))) .normal st9))
theorem Bm8(p1_0:Aa)(o53:Cp)(o62:Cp):Ayt p1_0.Routines p1_0 o53.2.1 o53.2.2 (A2l L k p1_0 o53) o62=ob (Zb L p1_0 o62) (Zw p1_0 k):=eE (Zm L p1_0 o62 (fun o62=>ho (Bk9 L (A2n L k p1_0 o62) p1_0.Starts p1_0 o62.2.1 o62.2.2) fun o65=>Bna L k p1_0 o62 o65))
def Zl [An A Cp](L:Nat)(p1_0:Aa)(o53:Cp)(nx111:Cp→A):A:=
 (cn (o53.1 != 0)
 (lf (o53.1,o53.2.1,o53.2.2))
 (gq (0≤9)
 (gq (9 < ((12:Nat):Int))
 (nx111 o53))))
def Y9 [An A Cp](p1_0:Aa)(o53:Cp):A:=Zl L p1_0 o53 (fun o53=>bd (j7 L p1_0.Routines p1_0 o53.2.1 o53.2.2) fun o62=>Zb L p1_0 o62)
def A2h(p1_0:Aa)(o52:Cp):Bn:=(Bu Tryz.prog (Ds L) (EI (Ds L) (L+24) 6) 1 (List.drop 4 c84.u.l.ops) ⟨[(6,.clo 64 1 [.mp 5]),(5,.mp 5),(4,lv (.t9 p1_0.Counts)),(0,lv (.t9 p1_0.Counts)),(1,.loc 3 0),(3,I 0)],[(1,Ae p1_0),(3,[.mp 5]),(4,[.clo 84 0 [.loc 3 0]]),(5,[.mapO false false (.t9 o52.2.1) (.t4 o52.2.2)])],6⟩ (some 7) (fun st9=>(Bg (EV (Ds L) (L+24) 6 c84.u.r) (Dq Tryz.prog (RS Tryz.f84) (Bu Tryz.prog (Ds L) (EI (Ds L) (L+24) 7) 1 (List.drop 4 Bxy.u.l.ops) ⟨[(5,lv (.t9 p1_0.Counts)),(4,.loc 1 9),(3,.clo 84 0 [.loc 3 0]),(0,.loc 4 0),(1,.loc 1 0),(2,I 0)],[(1,Ae p1_0),(3,[.mp 5]),(4,[.clo 84 0 [.loc 3 0]]),(5,[.mapO false false (.t9 o52.2.1) (.t4 o52.2.2)])],6⟩ (some 6) (fun st9=>(Bg (EV (Ds L) (L+24) 7 Bxy.u.r) (Dq Tryz.prog (RS Tryz.f104) (Bu Tryz.prog (Ds L) (EI (Ds L) (L+24) 8) 1 (List.drop 2 c86.u.l.u.l.l.w.l.l.u.l.ops) ⟨[(12,.clo 104 0 [.loc 4 0,.loc 1 0]),(2,I 0),(4,.clo 104 0 [.loc 4 0,.loc 1 0]),(6,.sl false 139 1 [[.clo 87 0 [.loc 3 0,.loc 1 0]],[.clo 88 0 [.loc 1 0,.loc 3 0]],[.clo 94 0 [.loc 1 0,.loc 3 0]],[.clo 97 0 [.loc 1 0,.loc 3 0]],[.clo 100 0 [.loc 4 0,.loc 1 0]],[.clo 101 0 [.loc 4 0,.loc 1 0]],[.clo 102 0 [.loc 4 0,.loc 1 0]],[.clo 103 0 [.loc 4 0,.loc 1 0]],[.clo 104 0 [.loc 4 0,.loc 1 0]],[.clo 105 0 [.loc 1 0,.loc 3 0]],[.clo 109 0 [.loc 1 0]],[.clo 113 0 [.loc 1 0]]]),(7,I 12),(8,I 8),(9,B true),(10,.ref [.clo 104 0 [.loc 4 0,.loc 1 0]]),(11,.clo 104 0 [.loc 4 0,.loc 1 0])],[(1,Ae p1_0),(3,[.mp 5]),(4,[.clo 84 0 [.loc 3 0]]),(5,[.mapO false false (.t9 o52.2.1) (.t4 o52.2.2)])],6⟩ (some 13) (fun st9=>(Bg (EV (Ds L) (L+24) 8 c86.u.l.u.l.l.w.l.l.u.r) (Ba 1 (Bg (EV (Ds L) (L+24) 8 c86.u.l.u.l.l.w.r) (Ii (Kw (EV (Ds L) (L+24) 8 c86.u.l.u.l.l) [0,2,6,7,8] [1,3,4,5] (L+15)) [0,2,6,7,8] [1,3,4,5] (Aci L k))))) .normal st9)))) .normal st9)))) .normal st9))
theorem Bm4(p1_0:Aa)(o52:Cp)(o53:Cp):Afu p1_0.Counts p1_0 o52.2.1 o52.2.2 (A2h L k p1_0 o52) o53=ob (Y9 L p1_0 o53) (Zw p1_0 k):=eE (Zl L p1_0 o53 (fun o53=>ho (Bk6 L (A2l L k p1_0 o53) p1_0.Routines p1_0 o53.2.1 o53.2.2) fun o62=>Bm8 L k p1_0 o53 o62))
def Zk [An A Cp](L:Nat)(p1_0:Aa)(o52:Cp)(nx102:Cp→A):A:=
 (cn (o52.1 != 0)
 (lf (o52.1,o52.2.1,o52.2.2))
 (gq (0≤8)
 (gq (8 < ((12:Nat):Int))
 (nx102 o52))))
def Y8 [An A Cp](p1_0:Aa)(o52:Cp):A:=Zk L p1_0 o52 (fun o52=>bd (Jx L p1_0.Counts p1_0 o52.2.1 o52.2.2) fun o53=>Y9 L p1_0 o53)
def A2g(p1_0:Aa)(o51:Cp):Bn:=(Bu Tryz.prog (Ds L) (EI (Ds L) (L+24) 6) 1 (List.drop 4 c84.u.l.ops) ⟨[(6,.clo 64 1 [.mp 5]),(5,.mp 5),(4,lv (.t9 p1_0.Levels)),(0,lv (.t9 p1_0.Levels)),(1,.loc 3 0),(3,I 0)],[(1,Ae p1_0),(3,[.mp 5]),(4,[.clo 84 0 [.loc 3 0]]),(5,[.mapO false false (.t9 o51.2.1) (.t4 o51.2.2)])],6⟩ (some 7) (fun st9=>(Bg (EV (Ds L) (L+24) 6 c84.u.r) (Dq Tryz.prog (RS Tryz.f84) (Bu Tryz.prog (Ds L) (EI (Ds L) (L+24) 7) 1 (List.drop 4 Bxx.u.l.ops) ⟨[(5,lv (.t9 p1_0.Levels)),(4,.loc 1 8),(3,.clo 84 0 [.loc 3 0]),(0,.loc 4 0),(1,.loc 1 0),(2,I 0)],[(1,Ae p1_0),(3,[.mp 5]),(4,[.clo 84 0 [.loc 3 0]]),(5,[.mapO false false (.t9 o51.2.1) (.t4 o51.2.2)])],6⟩ (some 6) (fun st9=>(Bg (EV (Ds L) (L+24) 7 Bxx.u.r) (Dq Tryz.prog (RS Tryz.f103) (Bu Tryz.prog (Ds L) (EI (Ds L) (L+24) 8) 1 (List.drop 2 c86.u.l.u.l.l.w.l.l.u.l.ops) ⟨[(12,.clo 103 0 [.loc 4 0,.loc 1 0]),(2,I 0),(4,.clo 103 0 [.loc 4 0,.loc 1 0]),(6,.sl false 139 1 [[.clo 87 0 [.loc 3 0,.loc 1 0]],[.clo 88 0 [.loc 1 0,.loc 3 0]],[.clo 94 0 [.loc 1 0,.loc 3 0]],[.clo 97 0 [.loc 1 0,.loc 3 0]],[.clo 100 0 [.loc 4 0,.loc 1 0]],[.clo 101 0 [.loc 4 0,.loc 1 0]],[.clo 102 0 [.loc 4 0,.loc 1 0]],[.clo 103 0 [.loc 4 0,.loc 1 0]],[.clo 104 0 [.loc 4 0,.loc 1 0]],[.clo 105 0 [.loc 1 0,.loc 3 0]],[.clo 109 0 [.loc 1 0]],[.clo 113 0 [.loc 1 0]]]),(7,I 12),(8,I 7),(9,B true),(10,.ref [.clo 103 0 [.loc 4 0,.loc 1 0]]),(11,.clo 103 0 [.loc 4 0,.loc 1 0])],[(1,Ae p1_0),(3,[.mp 5]),(4,[.clo 84 0 [.loc 3 0]]),(5,[.mapO false false (.t9 o51.2.1) (.t4 o51.2.2)])],6⟩ (some 13) (fun st9=>(Bg (EV (Ds L) (L+24) 8 c86.u.l.u.l.l.w.l.l.u.r) (Ba 1 (Bg (EV (Ds L) (L+24) 8 c86.u.l.u.l.l.w.r) (Ii (Kw (EV (Ds L) (L+24) 8 c86.u.l.u.l.l) [0,2,6,7,8] [1,3,4,5] (L+16)) [0,2,6,7,8] [1,3,4,5] (Aci L k))))) .normal st9)))) .normal st9)))) .normal st9))
theorem Bm3(p1_0:Aa)(o51:Cp)(o52:Cp):Afu p1_0.Levels p1_0 o51.2.1 o51.2.2 (A2g L k p1_0 o51) o52=ob (Y8 L p1_0 o52) (Zw p1_0 k):=eE (Zk L p1_0 o52 (fun o52=>ho (Am7 L (A2h L k p1_0 o52) p1_0.Counts p1_0 o52.2.1 o52.2.2) fun o53=>Bm4 L k p1_0 o52 o53))
def Zj [An A Cp](L:Nat)(p1_0:Aa)(o51:Cp)(nx101:Cp→A):A:=
 (cn (o51.1 != 0)
 (lf (o51.1,o51.2.1,o51.2.2))
 (gq (0≤7)
 (gq (7 < ((12:Nat):Int))
 (nx101 o51))))
def Y7 [An A Cp](p1_0:Aa)(o51:Cp):A:=Zj L p1_0 o51 (fun o51=>bd (Jx L p1_0.Levels p1_0 o51.2.1 o51.2.2) fun o52=>Y8 L p1_0 o52)
def A2f(p1_0:Aa)(o50:Cp):Bn:=(Bu Tryz.prog (Ds L) (EI (Ds L) (L+24) 6) 1 (List.drop 4 c84.u.l.ops) ⟨[(6,.clo 64 1 [.mp 5]),(5,.mp 5),(4,lv (.t9 p1_0.Tallies)),(0,lv (.t9 p1_0.Tallies)),(1,.loc 3 0),(3,I 0)],[(1,Ae p1_0),(3,[.mp 5]),(4,[.clo 84 0 [.loc 3 0]]),(5,[.mapO false false (.t9 o50.2.1) (.t4 o50.2.2)])],6⟩ (some 7) (fun st9=>(Bg (EV (Ds L) (L+24) 6 c84.u.r) (Dq Tryz.prog (RS Tryz.f84) (Bu Tryz.prog (Ds L) (EI (Ds L) (L+24) 7) 1 (List.drop 4 Bxw.u.l.ops) ⟨[(5,lv (.t9 p1_0.Tallies)),(4,.loc 1 7),(3,.clo 84 0 [.loc 3 0]),(0,.loc 4 0),(1,.loc 1 0),(2,I 0)],[(1,Ae p1_0),(3,[.mp 5]),(4,[.clo 84 0 [.loc 3 0]]),(5,[.mapO false false (.t9 o50.2.1) (.t4 o50.2.2)])],6⟩ (some 6) (fun st9=>(Bg (EV (Ds L) (L+24) 7 Bxw.u.r) (Dq Tryz.prog (RS Tryz.f102) (Bu Tryz.prog (Ds L) (EI (Ds L) (L+24) 8) 1 (List.drop 2 c86.u.l.u.l.l.w.l.l.u.l.ops) ⟨[(12,.clo 102 0 [.loc 4 0,.loc 1 0]),(2,I 0),(4,.clo 102 0 [.loc 4 0,.loc 1 0]),(6,.sl false 139 1 [[.clo 87 0 [.loc 3 0,.loc 1 0]],[.clo 88 0 [.loc 1 0,.loc 3 0]],[.clo 94 0 [.loc 1 0,.loc 3 0]],[.clo 97 0 [.loc 1 0,.loc 3 0]],[.clo 100 0 [.loc 4 0,.loc 1 0]],[.clo 101 0 [.loc 4 0,.loc 1 0]],[.clo 102 0 [.loc 4 0,.loc 1 0]],[.clo 103 0 [.loc 4 0,.loc 1 0]],[.clo 104 0 [.loc 4 0,.loc 1 0]],[.clo 105 0 [.loc 1 0,.loc 3 0]],[.clo 109 0 [.loc 1 0]],[.clo 113 0 [.loc 1 0]]]),(7,I 12),(8,I 6),(9,B true),(10,.ref [.clo 102 0 [.loc 4 0,.loc 1 0]]),(11,.clo 102 0 [.loc 4 0,.loc 1 0])],[(1,Ae p1_0),(3,[.mp 5]),(4,[.clo 84 0 [.loc 3 0]]),(5,[.mapO false false (.t9 o50.2.1) (.t4 o50.2.2)])],6⟩ (some 13) (fun st9=>(Bg (EV (Ds L) (L+24) 8 c86.u.l.u.l.l.w.l.l.u.r) (Ba 1 (Bg (EV (Ds L) (L+24) 8 c86.u.l.u.l.l.w.r) (Ii (Kw (EV (Ds L) (L+24) 8 c86.u.l.u.l.l) [0,2,6,7,8] [1,3,4,5] (L+17)) [0,2,6,7,8] [1,3,4,5] (Aci L k))))) .normal st9)))) .normal st9)))) .normal st9))
theorem Bm2(p1_0:Aa)(o50:Cp)(o51:Cp):Afu p1_0.Tallies p1_0 o50.2.1 o50.2.2 (A2f L k p1_0 o50) o51=ob (Y7 L p1_0 o51) (Zw p1_0 k):=eE (Zj L p1_0 o51 (fun o51=>ho (Am7 L (A2g L k p1_0 o51) p1_0.Levels p1_0 o51.2.1 o51.2.2) fun o52=>Bm3 L k p1_0 o51 o52))
def Zi [An A Cp](L:Nat)(p1_0:Aa)(o50:Cp)(nx100:Cp→A):A:=
 (cn (o50.1 != 0)
 (lf (o50.1,o50.2.1,o50.2.2))
 (gq (0≤6)
 (gq (6 < ((12:Nat):Int))
 (nx100 o50))))
def n6 [An A Cp](p1_0:Aa)(o50:Cp):A:=Zi L p1_0 o50 (fun o50=>bd (Jx L p1_0.Tallies p1_0 o50.2.1 o50.2.2) fun o51=>Y7 L p1_0 o51)
def A9t(p1_0:Aa)(o49:Cp):Bn:=(Bu Tryz.prog (Ds L) (EI (Ds L) (L+24) 6) 1 (List.drop 4 c84.u.l.ops) ⟨[(6,.clo 64 1 [.mp 5]),(5,.mp 5),(4,lv (.t9 p1_0.Streams)),(0,lv (.t9 p1_0.Streams)),(1,.loc 3 0),(3,I 0)],[(1,Ae p1_0),(3,[.mp 5]),(4,[.clo 84 0 [.loc 3 0]]),(5,[.mapO false false (.t9 o49.2.1) (.t4 o49.2.2)])],6⟩ (some 7) (fun st9=>(Bg (EV (Ds L) (L+24) 6 c84.u.r) (Dq Tryz.prog (RS Tryz.f84) (Bu Tryz.prog (Ds L) (EI (Ds L) (L+24) 7) 1 (List.drop 4 Bxv.u.l.ops) ⟨[(5,lv (.t9 p1_0.Streams)),(4,.loc 1 6),(3,.clo 84 0 [.loc 3 0]),(0,.loc 4 0),(1,.loc 1 0),(2,I 0)],[(1,Ae p1_0),(3,[.mp 5]),(4,[.clo 84 0 [.loc 3 0]]),(5,[.mapO false false (.t9 o49.2.1) (.t4 o49.2.2)])],6⟩ (some 6) (fun st9=>(Bg (EV (Ds L) (L+24) 7 Bxv.u.r) (Dq Tryz.prog (RS Tryz.f101) (Bu Tryz.prog (Ds L) (EI (Ds L) (L+24) 8) 1 (List.drop 2 c86.u.l.u.l.l.w.l.l.u.l.ops) ⟨[(12,.clo 101 0 [.loc 4 0,.loc 1 0]),(2,I 0),(4,.clo 101 0 [.loc 4 0,.loc 1 0]),(6,.sl false 139 1 [[.clo 87 0 [.loc 3 0,.loc 1 0]],[.clo 88 0 [.loc 1 0,.loc 3 0]],[.clo 94 0 [.loc 1 0,.loc 3 0]],[.clo 97 0 [.loc 1 0,.loc 3 0]],[.clo 100 0 [.loc 4 0,.loc 1 0]],[.clo 101 0 [.loc 4 0,.loc 1 0]],[.clo 102 0 [.loc 4 0,.loc 1 0]],[.clo 103 0 [.loc 4 0,.loc 1 0]],[.clo 104 0 [.loc 4 0,.loc 1 0]],[.clo 105 0 [.loc 1 0,.loc 3 0]],[.clo 109 0 [.loc 1 0]],[.clo 113 0 [.loc 1 0]]]),(7,I 12),(8,I 5),(9,B true),(10,.ref [.clo 101 0 [.loc 4 0,.loc 1 0]]),(11,.clo 101 0 [.loc 4 0,.loc 1 0])],[(1,Ae p1_0),(3,[.mp 5]),(4,[.clo 84 0 [.loc 3 0]]),(5,[.mapO false false (.t9 o49.2.1) (.t4 o49.2.2)])],6⟩ (some 13) (fun st9=>(Bg (EV (Ds L) (L+24) 8 c86.u.l.u.l.l.w.l.l.u.r) (Ba 1 (Bg (EV (Ds L) (L+24) 8 c86.u.l.u.l.l.w.r) (Ii (Kw (EV (Ds L) (L+24) 8 c86.u.l.u.l.l) [0,2,6,7,8] [1,3,4,5] (L+18)) [0,2,6,7,8] [1,3,4,5] (Aci L k))))) .normal st9)))) .normal st9)))) .normal st9))
theorem Bu9(p1_0:Aa)(o49:Cp)(o50:Cp):Afu p1_0.Streams p1_0 o49.2.1 o49.2.2 (A9t L k p1_0 o49) o50=ob (n6 L p1_0 o50) (Zw p1_0 k):=eE (Zi L p1_0 o50 (fun o50=>ho (Am7 L (A2f L k p1_0 o50) p1_0.Tallies p1_0 o50.2.1 o50.2.2) fun o51=>Bm2 L k p1_0 o50 o51))
def t7 [An A Cp](L:Nat)(p1_0:Aa)(o49:Cp)(nx99:Cp→A):A:=
 (cn (o49.1 != 0)
 (lf (o49.1,o49.2.1,o49.2.2))
 (gq (0≤5)
 (gq (5 < ((12:Nat):Int))
 (nx99 o49))))
def n5 [An A Cp](p1_0:Aa)(o49:Cp):A:=t7 L p1_0 o49 (fun o49=>bd (Jx L p1_0.Streams p1_0 o49.2.1 o49.2.2) fun o50=>n6 L p1_0 o50)
def A9s(p1_0:Aa)(o42:Cp):Bn:=(Bu Tryz.prog (Ds L) (EI (Ds L) (L+24) 6) 1 (List.drop 4 c84.u.l.ops) ⟨[(6,.clo 64 1 [.mp 5]),(5,.mp 5),(4,lv (.t9 p1_0.Queues)),(0,lv (.t9 p1_0.Queues)),(1,.loc 3 0),(3,I 0)],[(1,Ae p1_0),(3,[.mp 5]),(4,[.clo 84 0 [.loc 3 0]]),(5,[.mapO false false (.t9 o42.2.1) (.t4 o42.2.2)])],6⟩ (some 7) (fun st9=>(Bg (EV (Ds L) (L+24) 6 c84.u.r) (Dq Tryz.prog (RS Tryz.f84) (Bu Tryz.prog (Ds L) (EI (Ds L) (L+24) 7) 1 (List.drop 4 Bxu.u.l.ops) ⟨[(5,lv (.t9 p1_0.Queues)),(4,.loc 1 5),(3,.clo 84 0 [.loc 3 0]),(0,.loc 4 0),(1,.loc 1 0),(2,I 0)],[(1,Ae p1_0),(3,[.mp 5]),(4,[.clo 84 0 [.loc 3 0]]),(5,[.mapO false false (.t9 o42.2.1) (.t4 o42.2.2)])],6⟩ (some 6) (fun st9=>(Bg (EV (Ds L) (L+24) 7 Bxu.u.r) (Dq Tryz.prog (RS Tryz.f100) (Bu Tryz.prog (Ds L) (EI (Ds L) (L+24) 8) 1 (List.drop 2 c86.u.l.u.l.l.w.l.l.u.l.ops) ⟨[(12,.clo 100 0 [.loc 4 0,.loc 1 0]),(2,I 0),(4,.clo 100 0 [.loc 4 0,.loc 1 0]),(6,.sl false 139 1 [[.clo 87 0 [.loc 3 0,.loc 1 0]],[.clo 88 0 [.loc 1 0,.loc 3 0]],[.clo 94 0 [.loc 1 0,.loc 3 0]],[.clo 97 0 [.loc 1 0,.loc 3 0]],[.clo 100 0 [.loc 4 0,.loc 1 0]],[.clo 101 0 [.loc 4 0,.loc 1 0]],[.clo 102 0 [.loc 4 0,.loc 1 0]],[.clo 103 0 [.loc 4 0,.loc 1 0]],[.clo 104 0 [.loc 4 0,.loc 1 0]],[.clo 105 0 [.loc 1 0,.loc 3 0]],[.clo 109 0 [.loc 1 0]],[.clo 113 0 [.loc 1 0]]]),(7,I 12),(8,I 4),(9,B true),(10,.ref [.clo 100 0 [.loc 4 0,.loc 1 0]]),(11,.clo 100 0 [.loc 4 0,.loc 1 0])],[(1,Ae p1_0),(3,[.mp 5]),(4,[.clo 84 0 [.loc 3 0]]),(5,[.mapO false false (.t9 o42.2.1) (.t4 o42.2.2)])],6⟩ (some 13) (fun st9=>(Bg (EV (Ds L) (L+24) 8 c86.u.l.u.l.l.w.l.l.u.r) (Ba 1 (Bg (EV (Ds L) (L+24) 8 c86.u.l.u.l.l.w.r) (Ii (Kw (EV (Ds L) (L+24) 8 c86.u.l.u.l.l) [0,2,6,7,8] [1,3,4,5] (L+19)) [0,2,6,7,8] [1,3,4,5] (Aci L k))))) .normal st9)))) .normal st9)))) .normal st9))
theorem Bu8(p1_0:Aa)(o42:Cp)(o49:Cp):Afu p1_0.Queues p1_0 o42.2.1 o42.2.2 (A9s L k p1_0 o42) o49=ob (n5 L p1_0 o49) (Zw p1_0 k):=eE (t7 L p1_0 o49 (fun o49=>ho (Am7 L (A9t L k p1_0 o49) p1_0.Streams p1_0 o49.2.1 o49.2.2) fun o50=>Bu9 L k p1_0 o49 o50))
def t6 [An A Cp](L:Nat)(p1_0:Aa)(o42:Cp)(nx98:Cp→A):A:=
 (cn (o42.1 != 0)
 (lf (o42.1,o42.2.1,o42.2.2))
 (gq (0≤4)
 (gq (4 < ((12:Nat):Int))
 (nx98 o42))))
def m8 [An A Cp](p1_0:Aa)(o42:Cp):A:=t6 L p1_0 o42 (fun o42=>bd (Jx L p1_0.Queues p1_0 o42.2.1 o42.2.2) fun o49=>n5 L p1_0 o49)
def A9p(p1_0:Aa)(o31:Cp):Bn:=(Bu Tryz.prog (Ds L) (EI (Ds L) (L+24) 7) 1 (List.drop 4 c97.u.l.ops) ⟨[(5,.clo 99 0 [.loc 3 0]),(4,lv (.t155 p1_0.Belts)),(3,.loc 1 4),(0,.loc 1 0),(1,.loc 3 0),(2,I 0)],[(1,Ae p1_0),(3,[.mp 5]),(4,[.clo 84 0 [.loc 3 0]]),(5,[.mapO false false (.t9 o31.2.1) (.t4 o31.2.2)])],6⟩ (some 6) (fun st9=>(Bg (EV (Ds L) (L+24) 7 c97.u.r) (Dq Tryz.prog (RS Tryz.f97) (Bu Tryz.prog (Ds L) (EI (Ds L) (L+24) 8) 1 (List.drop 2 c86.u.l.u.l.l.w.l.l.u.l.ops) ⟨[(12,.clo 97 0 [.loc 1 0,.loc 3 0]),(2,I 0),(4,.clo 97 0 [.loc 1 0,.loc 3 0]),(6,.sl false 139 1 [[.clo 87 0 [.loc 3 0,.loc 1 0]],[.clo 88 0 [.loc 1 0,.loc 3 0]],[.clo 94 0 [.loc 1 0,.loc 3 0]],[.clo 97 0 [.loc 1 0,.loc 3 0]],[.clo 100 0 [.loc 4 0,.loc 1 0]],[.clo 101 0 [.loc 4 0,.loc 1 0]],[.clo 102 0 [.loc 4 0,.loc 1 0]],[.clo 103 0 [.loc 4 0,.loc 1 0]],[.clo 104 0 [.loc 4 0,.loc 1 0]],[.clo 105 0 [.loc 1 0,.loc 3 0]],[.clo 109 0 [.loc 1 0]],[.clo 113 0 [.loc 1 0]]]),(7,I 12),(8,I 3),(9,B true),(10,.ref [.clo 97 0 [.loc 1 0,.loc 3 0]]),(11,.clo 97 0 [.loc 1 0,.loc 3 0])],[(1,Ae p1_0),(3,[.mp 5]),(4,[.clo 84 0 [.loc 3 0]]),(5,[.mapO false false (.t9 o31.2.1) (.t4 o31.2.2)])],6⟩ (some 13) (fun st9=>(Bg (EV (Ds L) (L+24) 8 c86.u.l.u.l.l.w.l.l.u.r) (Ba 1 (Bg (EV (Ds L) (L+24) 8 c86.u.l.u.l.l.w.r) (Ii (Kw (EV (Ds L) (L+24) 8 c86.u.l.u.l.l) [0,2,6,7,8] [1,3,4,5] (L+20)) [0,2,6,7,8] [1,3,4,5] (Aci L k))))) .normal st9)))) .normal st9))
theorem Bu5(p1_0:Aa)(o31:Cp)(o42:Cp):Ayr p1_0.Belts p1_0 o31.2.1 o31.2.2 (A9p L k p1_0 o31) o42=ob (m8 L p1_0 o42) (Zw p1_0 k):=eE (t6 L p1_0 o42 (fun o42=>ho (Am7 L (A9s L k p1_0 o42) p1_0.Queues p1_0 o42.2.1 o42.2.2) fun o49=>Bu8 L k p1_0 o42 o49))
def t5 [An A Cp](L:Nat)(p1_0:Aa)(o31:Cp)(nx93:Cp→A):A:=
 (cn (o31.1 != 0)
 (lf (o31.1,o31.2.1,o31.2.2))
 (gq (0≤3)
 (gq (3 < ((12:Nat):Int))
 (nx93 o31))))
def m6 [An A Cp](p1_0:Aa)(o31:Cp):A:=t5 L p1_0 o31 (fun o31=>bd (j5 L p1_0.Belts p1_0 o31.2.1 o31.2.2) fun o42=>m8 L p1_0 o42)
def A9l(p1_0:Aa)(o21:Cp):Bn:=(Bu Tryz.prog (Ds L) (EI (Ds L) (L+24) 7) 1 (List.drop 4 c94.u.l.ops) ⟨[(5,.clo 96 0 [.loc 3 0]),(4,lv (.t151 p1_0.Stores)),(3,.loc 1 3),(0,.loc 1 0),(1,.loc 3 0),(2,I 0)],[(1,Ae p1_0),(3,[.mp 5]),(4,[.clo 84 0 [.loc 3 0]]),(5,[.mapO false false (.t9 o21.2.1) (.t4 o21.2.2)])],6⟩ (some 6) (fun st9=>(Bg (EV (Ds L) (L+24) 7 c94.u.r) (Dq Tryz.prog (RS Tryz.f94) (Bu Tryz.prog (Ds L) (EI (Ds L) (L+24) 8) 1 (List.drop 2 c86.u.l.u.l.l.w.l.l.u.l.ops) ⟨[(12,.clo 94 0 [.loc 1 0,.loc 3 0]),(2,I 0),(4,.clo 94 0 [.loc 1 0,.loc 3 0]),(6,.sl false 139 1 [[.clo 87 0 [.loc 3 0,.loc 1 0]],[.clo 88 0 [.loc 1 0,.loc 3 0]],[.clo 94 0 [.loc 1 0,.loc 3 0]],[.clo 97 0 [.loc 1 0,.loc 3 0]],[.clo 100 0 [.loc 4 0,.loc 1 0]],[.clo 101 0 [.loc 4 0,.loc 1 0]],[.clo 102 0 [.loc 4 0,.loc 1 0]],[.clo 103 0 [.loc 4 0,.loc 1 0]],[.clo 104 0 [.loc 4 0,.loc 1 0]],[.clo 105 0 [.loc 1 0,.loc 3 0]],[.clo 109 0 [.loc 1 0]],[.clo 113 0 [.loc 1 0]]]),(7,I 12),(8,I 2),(9,B true),(10,.ref [.clo 94 0 [.loc 1 0,.loc 3 0]]),(11,.clo 94 0 [.loc 1 0,.loc 3 0])],[(1,Ae p1_0),(3,[.mp 5]),(4,[.clo 84 0 [.loc 3 0]]),(5,[.mapO false false (.t9 o21.2.1) (.t4 o21.2.2)])],6⟩ (some 13) (fun st9=>(Bg (EV (Ds L) (L+24) 8 c86.u.l.u.l.l.w.l.l.u.r) (Ba 1 (Bg (EV (Ds L) (L+24) 8 c86.u.l.u.l.l.w.r) (Ii (Kw (EV (Ds L) (L+24) 8 c86.u.l.u.l.l) [0,2,6,7,8] [1,3,4,5] (L+21)) [0,2,6,7,8] [1,3,4,5] (Aci L k))))) .normal st9)))) .normal st9))
theorem Bu1(p1_0:Aa)(o21:Cp)(o31:Cp):Ayp p1_0.Stores p1_0 o21.2.1 o21.2.2 (A9l L k p1_0 o21) o31=ob (m6 L p1_0 o31) (Zw p1_0 k):=eE (t5 L p1_0 o31 (fun o31=>ho (Bk2 L (A9p L k p1_0 o31) p1_0.Belts p1_0 o31.2.1 o31.2.2) fun o42=>Bu5 L k p1_0 o31 o42))
def s9 [An A Cp](L:Nat)(p1_0:Aa)(o21:Cp)(nx84:Cp→A):A:=
 (cn (o21.1 != 0)
 (lf (o21.1,o21.2.1,o21.2.2))
 (gq (0≤2)
 (gq (2 < ((12:Nat):Int))
 (nx84 o21))))
def m4 [An A Cp](p1_0:Aa)(o21:Cp):A:=s9 L p1_0 o21 (fun o21=>bd (j3 L p1_0.Stores p1_0 o21.2.1 o21.2.2) fun o31=>m6 L p1_0 o31)
def A9h(p1_0:Aa)(o10:Cp):Bn:=(Bu Tryz.prog (Ds L) (EI (Ds L) (L+24) 7) 1 (List.drop 4 c88.u.l.ops) ⟨[(5,.clo 90 0 [.loc 3 0,.loc 1 0]),(4,lv (.t145 p1_0.Resources)),(3,.loc 1 2),(0,.loc 1 0),(1,.loc 3 0),(2,I 0)],[(1,Ae p1_0),(3,[.mp 5]),(4,[.clo 84 0 [.loc 3 0]]),(5,[.mapO false false (.t9 o10.2.1) (.t4 o10.2.2)])],6⟩ (some 6) (fun st9=>(Bg (EV (Ds L) (L+24) 7 c88.u.r) (Dq Tryz.prog (RS Tryz.f88) (Bu Tryz.prog (Ds L) (EI (Ds L) (L+24) 8) 1 (List.drop 2 c86.u.l.u.l.l.w.l.l.u.l.ops) ⟨[(12,.clo 88 0 [.loc 1 0,.loc 3 0]),(2,I 0),(4,.clo 88 0 [.loc 1 0,.loc 3 0]),(6,.sl false 139 1 [[.clo 87 0 [.loc 3 0,.loc 1 0]],[.clo 88 0 [.loc 1 0,.loc 3 0]],[.clo 94 0 [.loc 1 0,.loc 3 0]],[.clo 97 0 [.loc 1 0,.loc 3 0]],[.clo 100 0 [.loc 4 0,.loc 1 0]],[.clo 101 0 [.loc 4 0,.loc 1 0]],[.clo 102 0 [.loc 4 0,.loc 1 0]],[.clo 103 0 [.loc 4 0,.loc 1 0]],[.clo 104 0 [.loc 4 0,.loc 1 0]],[.clo 105 0 [.loc 1 0,.loc 3 0]],[.clo 109 0 [.loc 1 0]],[.clo 113 0 [.loc 1 0]]]),(7,I 12),(8,I 1),(9,B true),(10,.ref [.clo 88 0 [.loc 1 0,.loc 3 0]]),(11,.clo 88 0 [.loc 1 0,.loc 3 0])],[(1,Ae p1_0),(3,[.mp 5]),(4,[.clo 84 0 [.loc 3 0]]),(5,[.mapO false false (.t9 o10.2.1) (.t4 o10.2.2)])],6⟩ (some 13) (fun st9=>(Bg (EV (Ds L) (L+24) 8 c86.u.l.u.l.l.w.l.l.u.r) (Ba 1 (Bg (EV (Ds L) (L+24) 8 c86.u.l.u.l.l.w.r) (Ii (Kw (EV (Ds L) (L+24) 8 c86.u.l.u.l.l) [0,2,6,7,8] [1,3,4,5] (L+22)) [0,2,6,7,8] [1,3,4,5] (Aci L k))))) .normal st9)))) .normal st9))
theorem Bux(p1_0:Aa)(o10:Cp)(o21:Cp):Ayn p1_0.Resources p1_0 o10.2.1 o10.2.2 (A9h L k p1_0 o10) o21=ob (m4 L p1_0 o21) (Zw p1_0 k):=eE (s9 L p1_0 o21 (fun o21=>ho (Bkz L (A9l L k p1_0 o21) p1_0.Stores p1_0 o21.2.1 o21.2.2) fun o31=>Bu1 L k p1_0 o21 o31))
def s8 [An A Cp](L:Nat)(p1_0:Aa)(o10:Cp)(nx75:Cp→A):A:=
 (cn (o10.1 != 0)
 (lf (o10.1,o10.2.1,o10.2.2))
 (gq (0≤1)
 (gq (1 < ((12:Nat):Int))
 (nx75 o10))))
def m0 [An A Cp](p1_0:Aa)(o10:Cp):A:=s8 L p1_0 o10 (fun o10=>bd (i8 L p1_0.Resources p1_0 o10.2.1 o10.2.2) fun o21=>m4 L p1_0 o21)
def A9d(p1_0:Aa):Bn:=(Bu Tryz.prog (Ds L) (EI (Ds L) (L+24) 6) 1 (List.drop 4 c61.u.l.ops) ⟨[(7,.clo 83 1 [.mp 5]),(6,.mp 5),(5,lv (.t77 p1_0.Vars)),(0,.mp 5),(1,lv (.t77 p1_0.Vars)),(4,I 0)],[(1,Ae p1_0),(3,[.mp 5]),(4,[.clo 84 0 [.loc 3 0]]),(5,[.mapO false false (.t9 []) (.t4 [])])],6⟩ (some 8) (fun st9=>(Bg (EV (Ds L) (L+24) 6 c61.u.r) (Dq Tryz.prog (RS Tryz.f61) (Bu Tryz.prog (Ds L) (EI (Ds L) (L+24) 7) 1 (List.drop 4 c87.u.l.ops) ⟨[(5,lv (.t77 p1_0.Vars)),(4,.loc 1 1),(3,.mp 5),(0,.loc 3 0),(1,.loc 1 0),(2,I 0)],[(1,Ae p1_0),(3,[.mp 5]),(4,[.clo 84 0 [.loc 3 0]]),(5,[.mapO false false (.t9 []) (.t4 [])])],6⟩ (some 6) (fun st9=>(Bg (EV (Ds L) (L+24) 7 c87.u.r) (Dq Tryz.prog (RS Tryz.f87) (Bu Tryz.prog (Ds L) (EI (Ds L) (L+24) 8) 1 (List.drop 2 c86.u.l.u.l.l.w.l.l.u.l.ops) ⟨[(12,.clo 87 0 [.loc 3 0,.loc 1 0]),(2,I 0),(4,.clo 87 0 [.loc 3 0,.loc 1 0]),(6,.sl false 139 1 [[.clo 87 0 [.loc 3 0,.loc 1 0]],[.clo 88 0 [.loc 1 0,.loc 3 0]],[.clo 94 0 [.loc 1 0,.loc 3 0]],[.clo 97 0 [.loc 1 0,.loc 3 0]],[.clo 100 0 [.loc 4 0,.loc 1 0]],[.clo 101 0 [.loc 4 0,.loc 1 0]],[.clo 102 0 [.loc 4 0,.loc 1 0]],[.clo 103 0 [.loc 4 0,.loc 1 0]],[.clo 104 0 [.loc 4 0,.loc 1 0]],[.clo 105 0 [.loc 1 0,.loc 3 0]],[.clo 109 0 [.loc 1 0]],[.clo 113 0 [.loc 1 0]]]),(7,I 12),(8,I 0),(9,B true),(10,.ref [.clo 87 0 [.loc 3 0,.loc 1 0]]),(11,.clo 87 0 [.loc 3 0,.loc 1 0])],[(1,Ae p1_0),(3,[.mp 5]),(4,[.clo 84 0 [.loc 3 0]]),(5,[.mapO false false (.t9 []) (.t4 [])])],6⟩ (some 13) (fun st9=>(Bg (EV (Ds L) (L+24) 8 c86.u.l.u.l.l.w.l.l.u.r) (Ba 1 (Bg (EV (Ds L) (L+24) 8 c86.u.l.u.l.l.w.r) (Ii (Kw (EV (Ds L) (L+24) 8 c86.u.l.u.l.l) [0,2,6,7,8] [1,3,4,5] (L+23)) [0,2,6,7,8] [1,3,4,5] (Aci L k))))) .normal st9)))) .normal st9)))) .normal st9))
theorem But(p1_0:Aa)(o10:Cp):Ayl p1_0.Vars p1_0 (A9d L k p1_0) o10=ob (m0 L p1_0 o10) (Zw p1_0 k):=eE (s8 L p1_0 o10 (fun o10=>ho (Bkw L (A9h L k p1_0 o10) p1_0.Resources p1_0 o10.2.1 o10.2.2) fun o21=>Bux L k p1_0 o10 o21))
def s7 [An A Cp](L:Nat)(p1_0:Aa)(nx66:A):A:=
 (gq (0≤0)
 (gq (0 < ((12:Nat):Int))
 nx66))
def Ag6 [An A Cp](p1_0:Aa):A:=s7 L p1_0 (bd (f7 L p1_0.Vars p1_0) fun o10=>m0 L p1_0 o10)
def Wo(p1_0:Aa):Option Cp:=Ag6 L p1_0
theorem Brx(p1_0:Aa):YO (Ds L) (L+24) 9 86 [.sl false 139 1 [[.clo 87 0 [.loc 3 0,.loc 1 0]],[.clo 88 0 [.loc 1 0,.loc 3 0]],[.clo 94 0 [.loc 1 0,.loc 3 0]],[.clo 97 0 [.loc 1 0,.loc 3 0]],[.clo 100 0 [.loc 4 0,.loc 1 0]],[.clo 101 0 [.loc 4 0,.loc 1 0]],[.clo 102 0 [.loc 4 0,.loc 1 0]],[.clo 103 0 [.loc 4 0,.loc 1 0]],[.clo 104 0 [.loc 4 0,.loc 1 0]],[.clo 105 0 [.loc 1 0,.loc 3 0]],[.clo 109 0 [.loc 1 0]],[.clo 113 0 [.loc 1 0]]]] [(1,Ae p1_0),(3,[.mp 5]),(4,[.clo 84 0 [.loc 3 0]]),(5,[.mapO false false (.t9 []) (.t4 [])])] k=ob (Wo L p1_0) (Zw p1_0 k):=(Cr _ _ _ jn4 _ _ _ _ _ _ _).trans (eE (s7 L p1_0 (ho (Bkt L (A9d L k p1_0) p1_0.Vars p1_0) fun o10=>But L k p1_0 o10)))
def Pq [An A Int](L:Nat)(o67:Cp):A:=
 (lf o67.1)
def A2o(a0:Aa):Bn:=(Bu Tryz.prog (Ds L) (EI (Ds L) (L+24) 9) 1 (List.drop 14 c65.w.u.l.ops) ⟨[(19,.sl true 139 1 [[.clo 87 0 [.loc 3 0,.loc 1 0]],[.clo 88 0 [.loc 1 0,.loc 3 0]],[.clo 94 0 [.loc 1 0,.loc 3 0]],[.clo 97 0 [.loc 1 0,.loc 3 0]],[.clo 100 0 [.loc 4 0,.loc 1 0]],[.clo 101 0 [.loc 4 0,.loc 1 0]],[.clo 102 0 [.loc 4 0,.loc 1 0]],[.clo 103 0 [.loc 4 0,.loc 1 0]],[.clo 104 0 [.loc 4 0,.loc 1 0]],[.clo 105 0 [.loc 1 0,.loc 3 0]],[.clo 109 0 [.loc 1 0]],[.clo 113 0 [.loc 1 0]]]),(18,.clo 113 0 [.loc 1 0]),(17,.clo 109 0 [.loc 1 0]),(16,.clo 105 0 [.loc 1 0,.loc 3 0]),(15,.clo 104 0 [.loc 4 0,.loc 1 0]),(14,.clo 103 0 [.loc 4 0,.loc 1 0]),(13,.clo 102 0 [.loc 4 0,.loc 1 0]),(12,.clo 101 0 [.loc 4 0,.loc 1 0]),(11,.clo 100 0 [.loc 4 0,.loc 1 0]),(10,.clo 97 0 [.loc 1 0,.loc 3 0]),(9,.clo 94 0 [.loc 1 0,.loc 3 0]),(8,.clo 88 0 [.loc 1 0,.loc 3 0]),(7,.clo 87 0 [.loc 3 0,.loc 1 0]),(1,.loc 1 0),(2,I 0),(3,.loc 3 0),(4,.loc 4 0)],[(1,Ae a0),(3,[.mp 5]),(4,[.clo 84 0 [.loc 3 0]]),(5,[.mapO false false (.t9 []) (.t4 [])])],0⟩ (some 20) (fun st9=>(Bg (EV (Ds L) (L+24) 9 c65.w.u.r) (Gu Tryz.prog (RS Tryz.f65) kk)) .normal st9))
theorem Bnb(a0:Aa)(o67:Cp):Zw a0 (A2o L kk a0) o67=ob (Pq L o67) (kQ I kk):=eE (Pq L o67)
def Amj [An A Int](a0:Aa):A:=(bd (Wo L a0) fun o67=>Pq L o67)
def Abm(a0:Aa):Option Int:=Amj L a0
def X65:N2:=E1 I 65 I7 (Abm L) fun a0 r h=>hF Tryz.func65 (C:=Ds L) (oS _) (L+24) (fun kk=>eE ((ho (Brx L (A2o L kk a0) a0) fun o67=>Bnb L kk a0 o67))) h
end
end Go.Proofs.YtfencmicmnhglaaGreat.Ev
