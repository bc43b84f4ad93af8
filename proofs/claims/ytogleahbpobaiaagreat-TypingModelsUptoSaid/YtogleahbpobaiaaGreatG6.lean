import Derived.Test.YtogleahbpobaiaaGreatG3
import Derived.Test.YtogleahbpobaiaaGreatG4
import Derived.Test.YtogleahbpobaiaaGreatG5
namespace Go.Proofs.YtogleahbpobaiaaGreat.Ev
open Go An
set_option maxRecDepth 100000
set_option maxHeartbeats 4000000
set_option linter.unusedVariables false
set_option linter.unusedSimpArgs false
set_option linter.unnecessarySimpa false
variable {A:Type} (L n:Nat) (kk:Ct) (K:Be) (k:Bx)
noncomputable def c40:EC:=CC Tryz.f40
noncomputable def c71:EC:=CC Tryz.f71
noncomputable def c72:EC:=CC Tryz.f72
noncomputable def c73:EC:=CC Tryz.f73
noncomputable def c74:EC:=CC Tryz.f74
noncomputable def c75:EC:=CC Tryz.f75
noncomputable def c76:EC:=CC Tryz.f76
noncomputable def c77:EC:=CC Tryz.f77
noncomputable def c78:EC:=CC Tryz.f78
noncomputable def c79:EC:=CC Tryz.f79
noncomputable def c83:EC:=CC Tryz.f83
noncomputable def c84:EC:=CC Tryz.f84
noncomputable def c85:EC:=CC Tryz.f85
noncomputable def c86:EC:=CC Tryz.f86
noncomputable def c87:EC:=CC Tryz.f87
noncomputable def c88:EC:=CC Tryz.f88
noncomputable def c89:EC:=CC Tryz.f89
noncomputable def c90:EC:=CC Tryz.f90
noncomputable def c91:EC:=CC Tryz.f91
noncomputable def c92:EC:=CC Tryz.f92
noncomputable def c93:EC:=CC Tryz.f93
noncomputable def c94:EC:=CC Tryz.f94
noncomputable def c95:EC:=CC Tryz.f95
noncomputable def c96:EC:=CC Tryz.f96
noncomputable def c98:EC:=CC Tryz.f98
noncomputable def c99:EC:=CC Tryz.f99
noncomputable def c44:EC:=CC Tryz.f44
def Dt:Bk:=oL [X39 L,X80 L,X81 L,X82 L,X97 L,Ca3 L,Ca4 L,Bvt L,Bvu L]
def Cj2:Int→Prop:=fun x=>kk (I x)
def Ain:Be:=(Ay 0 (Bl (EV (Dt L) (L+24) 8 c75.u.r) (E5 Tryz.prog (RS Tryz.f75) k)))
def Bh8(p47_0:ByteArray)(p47_1:Aa)(p47_2:List ByteArray)(p47_3:List Bool)(p47_4:Al)(p47_5:Al)(k:Bx):Cs→Prop:=fun o=>k (I o.1) [(1,Ae p47_1),(3,[.mp 5]),(4,[.clo 73 0 [.loc 3 0]]),(5,[.mapO false false (.t9 o.2.1) (.t4 o.2.2)]),(14,Bz p47_4),(18,Bz p47_5)]
def Al1 [An A Cs](p47_0:ByteArray)(p47_1:Aa)(p47_2:List ByteArray)(p47_3:List Bool)(p47_4:Al)(p47_5:Al):A:=
 (bd (De L p47_0) fun r1=>
 (cn (r1 != 0)
 (lf (r1,p47_2,p47_3))
 (fq (p47_2.findIdx? fun b=>p47_0 == b) (fun i2=>
 (cn (p47_3.getD i2 default)
 (lf (4,p47_2,p47_3))
 (fq (p47_2.findIdx? fun b=>p47_0 == b) (fun i3=>
 (lf (0,p47_2,(p47_3.set i3 true))))
 (lf (0,(p47_2++ [p47_0]),(p47_3++ [true]))))))
 (fq (p47_2.findIdx? fun b=>p47_0 == b) (fun i4=>
 (lf (0,p47_2,(p47_3.set i4 true))))
 (lf (0,(p47_2++ [p47_0]),(p47_3++ [true])))))))
def Ac4(p47_0:ByteArray)(p47_1:Aa)(p47_2:List ByteArray)(p47_3:List Bool)(p47_4:Al)(p47_5:Al):Option Cs:=Al1 L p47_0 p47_1 p47_2 p47_3 p47_4 p47_5
theorem Bxm(p47_0:ByteArray)(p47_1:Aa)(p47_2:List ByteArray)(p47_3:List Bool)(p47_4:Al)(p47_5:Al):YO (Dt L) (L+24) 4 43 [.mp 5,S p47_0] [(1,Ae p47_1),(3,[.mp 5]),(4,[.clo 73 0 [.loc 3 0]]),(5,[.mapO false false (.t9 p47_2) (.t4 p47_3)]),(14,Bz p47_4),(18,Bz p47_5)] k=ob (Ac4 L p47_0 p47_1 p47_2 p47_3 p47_4 p47_5) (Bh8 p47_0 p47_1 p47_2 p47_3 p47_4 p47_5 k):=(Dc _ _ _ jn4 _ _ _ _ _ _ _).trans (eE (Al1 L p47_0 p47_1 p47_2 p47_3 p47_4 p47_5))
def A8z(p45_0:Al)(p45_1:Aa)(p45_2:List ByteArray)(p45_3:List Bool)(p45_4:Al)(k:Bx):Cs→Prop:=fun o=>k (I o.1) [(1,Ae p45_1),(3,[.mp 5]),(4,[.clo 73 0 [.loc 3 0]]),(5,[.mapO false false (.t9 o.2.1) (.t4 o.2.2)]),(14,Bz p45_4),(18,Bz p45_0)]
def Xj [An A Cs](p45_0:Al)(o5:Cs):A:=
 (cn (o5.1 != 0)
 (lf (o5.1,o5.2.1,o5.2.2))
 (bd (Ks L p45_0.Type_) fun r6=>
 (cn (!r6)
 (lf (1,o5.2.1,o5.2.2))
 (bd (S8 L p45_0.Type_ p45_0.N) fun r7=>
 (cn (!r7)
 (lf (2,o5.2.1,o5.2.2))
 (lf (0,o5.2.1,o5.2.2)))))))
def Bkw(p45_0:Al)(p45_1:Aa)(p45_2:List ByteArray)(p45_3:List Bool)(p45_4:Al):Bx:=(Cm Tryz.prog (Dt L) (EI (Dt L) (L+24) 4) 1 (List.drop 4 c72.u.l.l.ops) ⟨[(8,S p45_0.Name),(7,.loc 18 0),(6,.mp 5),(0,.mp 5),(3,.loc 18 0),(4,I 0)],[(1,Ae p45_1),(3,[.mp 5]),(4,[.clo 73 0 [.loc 3 0]]),(5,[.mapO false false (.t9 p45_2) (.t4 p45_3)]),(14,Bz p45_4),(18,Bz p45_0)],15⟩ (some 9) (fun st9=>(Bl (EV (Dt L) (L+24) 4 c72.u.l.r) (Bl (EV (Dt L) (L+24) 4 c72.u.r) (E5 Tryz.prog (RS Tryz.f72) k))) .normal st9))
theorem B9d(p45_0:Al)(p45_1:Aa)(p45_2:List ByteArray)(p45_3:List Bool)(p45_4:Al)(o5:Cs):Bh8 p45_0.Name p45_1 p45_2 p45_3 p45_4 p45_0 (Bkw L k p45_0 p45_1 p45_2 p45_3 p45_4) o5=ob (Xj L p45_0 o5) (A8z p45_0 p45_1 p45_2 p45_3 p45_4 k):=eE (Xj L p45_0 o5)
def Ad8 [An A Cs](L:Nat)(p45_0:Al)(p45_1:Aa)(p45_2:List ByteArray)(p45_3:List Bool)(p45_4:Al)(nx63:A):A:=
 nx63
def Al0 [An A Cs](p45_0:Al)(p45_1:Aa)(p45_2:List ByteArray)(p45_3:List Bool)(p45_4:Al):A:=Ad8 L p45_0 p45_1 p45_2 p45_3 p45_4 (bd (Ac4 L p45_0.Name p45_1 p45_2 p45_3 p45_4 p45_0) fun o5=>Xj L p45_0 o5)
def Nu(p45_0:Al)(p45_1:Aa)(p45_2:List ByteArray)(p45_3:List Bool)(p45_4:Al):Option Cs:=Al0 L p45_0 p45_1 p45_2 p45_3 p45_4
theorem Bxl(p45_0:Al)(p45_1:Aa)(p45_2:List ByteArray)(p45_3:List Bool)(p45_4:Al):YO (Dt L) (L+24) 5 72 [.mp 5,.agg (Bz p45_0)] [(1,Ae p45_1),(3,[.mp 5]),(4,[.clo 73 0 [.loc 3 0]]),(5,[.mapO false false (.t9 p45_2) (.t4 p45_3)]),(14,Bz p45_4)] k=ob (Nu L p45_0 p45_1 p45_2 p45_3 p45_4) (A8z p45_0 p45_1 p45_2 p45_3 p45_4 k):=(Dc _ _ _ jn4 _ _ _ _ _ _ _).trans (eE (Ad8 L p45_0 p45_1 p45_2 p45_3 p45_4 (ho (Bxm L (Bkw L k p45_0 p45_1 p45_2 p45_3 p45_4) p45_0.Name p45_1 p45_2 p45_3 p45_4 p45_0) fun o5=>B9d L k p45_0 p45_1 p45_2 p45_3 p45_4 o5)))
def Bhk(p41_0:List Al)(p41_1:Aa)(v:Tu4):St:=⟨[(0,.any),(1,.any),(2,.clo 72 1 [.mp 5]),(6,I v.1),(14,.lst false (.t57 p41_0)),(15,I (p41_0.length:Int)),(16,I v.2.1)],[(1,Ae p41_1),(3,[.mp 5]),(4,[.clo 73 0 [.loc 3 0]]),(5,[.mapO false false (.t9 v.2.2.1) (.t4 v.2.2.2)])],6⟩
def Sl [An A Sz](L:Nat)(Ah:Int)(Ak:Int)(rec:Int→Int→List ByteArray→List Bool→A)(o8:Cs):A:=
 (cn (o8.1 != 0)
 (lf (0,o8.1,Ah,o8.2.1,o8.2.2))
 (rec Ak (Da (Ah+1)) o8.2.1 o8.2.2))
def Xz [An A Sz](L:Nat)(p41_0:List Al)(p41_1:Aa)(rec:Int→Int→List ByteArray→List Bool→A)(Ak:Int)(Ah:Int)(Dm:List ByteArray)(Dn:List Bool)(nx64:Int→(List ByteArray)→(List Bool)→Int→A):A:=
 (cn (decide (Ah < (p41_0.length:Int)))
 (gq (0≤Ah)
 (gq (Ah < (p41_0.length:Int))
 (nx64 Ah Dm Dn Ak)))
 (lf (1,Ak,Ah,Dm,Dn)))
def Agd [An A Sz](p41_0:List Al)(p41_1:Aa)(rec:Int→Int→List ByteArray→List Bool→A)(Ak:Int)(Ah:Int)(Dm:List ByteArray)(Dn:List Bool):A:=Xz L p41_0 p41_1 rec Ak Ah Dm Dn (fun Ah Dm Dn Ak=>bd (Nu L (p41_0.getD (Int.toNat Ah) default) p41_1 Dm Dn (p41_0.getD (Int.toNat Ah) default)) fun o8=>Sl L Ah Ak rec o8)
def Jo(L:Nat)(p41_0:List Al)(p41_1:Aa):Nat→Int→Int→List ByteArray→List Bool→Option Sz
 |0,_,_,_,_=>none
 |n+1,Ak,Ah,Dm,Dn=>Agd L p41_0 p41_1 (Jo L p41_0 p41_1 n) Ak Ah Dm Dn
def Bo1(p41_0:List Al)(p41_1:Aa):Prop:=LI (EV (Dt L) (L+24) 5 c71.w.l.u.l.l) [0,1,2,6,14,15,16] [1,3,4,5] (Bhk p41_0 p41_1) [.ret,.exit 0] (fun n v=>Jo L p41_0 p41_1 n v.1 v.2.1 v.2.2.1 v.2.2.2) K n
def Bkx(p41_0:List Al)(Ah:Int)(Ak:Int)(p41_1:Aa)(Dm:List ByteArray)(Dn:List Bool):Bx:=(Cm Tryz.prog (Dt L) (EI (Dt L) (L+24) 5) 1 (List.drop 3 c71.w.l.u.l.l.w.l.l.u.l.ops) ⟨[(21,.agg (Bz (p41_0.getD (Int.toNat Ah) default))),(20,.clo 72 1 [.mp 5]),(2,.clo 72 1 [.mp 5]),(6,I Ak),(8,.loc 14 0),(14,.lst false (.t57 p41_0)),(15,I (p41_0.length:Int)),(16,I Ah),(17,B (decide (Ah < (p41_0.length:Int)))),(18,.ref (Bz (p41_0.getD (Int.toNat Ah) default))),(19,.agg (Bz (p41_0.getD (Int.toNat Ah) default)))],[(1,Ae p41_1),(3,[.mp 5]),(4,[.clo 73 0 [.loc 3 0]]),(5,[.mapO false false (.t9 Dm) (.t4 Dn)]),(14,(Bz (p41_0.getD (Int.toNat Ah) default)))],6⟩ (some 22) (fun st9=>(Bl (EV (Dt L) (L+24) 5 c71.w.l.u.l.l.w.l.l.u.r) (Ay 1 (Bl (EV (Dt L) (L+24) 5 c71.w.l.u.l.l.w.r) (I7 (Ly (EV (Dt L) (L+24) 5 c71.w.l.u.l.l) [0,1,2,6,14,15,16] [1,3,4,5] n) [0,1,2,6,14,15,16] [1,3,4,5] K)))) .normal st9))
theorem B9e(p41_0:List Al)(Ah:Int)(p41_1:Aa)(Dm:List ByteArray)(Dn:List Bool)(Ak:Int)(ih:Bo1 L n K p41_0 p41_1)(o8:Cs):A8z (p41_0.getD (Int.toNat Ah) default) p41_1 Dm Dn (p41_0.getD (Int.toNat Ah) default) (Bkx L n K p41_0 Ah Ak p41_1 Dm Dn) o8=ob (Sl L Ah Ak (Jo L p41_0 p41_1 n) o8) (kX [.ret,.exit 0] (Bhk p41_0 p41_1) K):=eE (Sl L Ah Ak (fun Ak Ah Dm Dn=>re (ih (Ak,Ah,Dm,Dn))) o8)
theorem B6l(p41_0:List Al)(p41_1:Aa):∀n,Bo1 L n K p41_0 p41_1:=lE (fun _=>rfl) fun n v ih=>eE (Xz L p41_0 p41_1 (fun Ak Ah Dm Dn=>re (ih (Ak,Ah,Dm,Dn))) v.1 v.2.1 v.2.2.1 v.2.2.2 (fun Ah Dm Dn Ak=>ho (Bxl L (Bkx L n K p41_0 Ah Ak p41_1 Dm Dn) (p41_0.getD (Int.toNat Ah) default) p41_1 Dm Dn (p41_0.getD (Int.toNat Ah) default)) fun o8=>B9e L n K p41_0 Ah p41_1 Dm Dn Ak ih o8))
def A8y(p41_0:List Al)(p41_1:Aa)(k:Bx):Cs→Prop:=fun o=>k (I o.1) [(1,Ae p41_1),(3,[.mp 5]),(4,[.clo 73 0 [.loc 3 0]]),(5,[.mapO false false (.t9 o.2.1) (.t4 o.2.2)])]
def Adn [An A Cs](L:Nat)(o9:Nat×Tu4):A:=
 (sl o9.1 [(lf (o9.2.1,o9.2.2.2.1,o9.2.2.2.2)),
 (lf (0,o9.2.2.2.1,o9.2.2.2.2))])
def Bky:Be:=(Ay 0 (Bl (EV (Dt L) (L+24) 5 c71.w.r) (E5 Tryz.prog (RS Tryz.f71) k)))
theorem B9f(p41_0:List Al)(p41_1:Aa)(o9:Nat×Tu4):kX [.ret,.exit 0] (Bhk p41_0 p41_1) (Bky L k) o9=ob (Adn L o9) (A8y p41_0 p41_1 k):=eE (Adn L o9)
def Amo [An A Cs](L:Nat)(p41_0:List Al)(p41_1:Aa)(nx65:A):A:=
 (cn (decide ((p41_0.length:Int) > 32))
 (lf (6,[],[]))
 nx65)
def Aw3 [An A Cs](p41_0:List Al)(p41_1:Aa):A:=Amo L p41_0 p41_1 (bd (Jo L p41_0 p41_1 (L+24) 0 0 [] []) fun o9=>Adn L o9)
def Ac3(p41_0:List Al)(p41_1:Aa):Option Cs:=Aw3 L p41_0 p41_1
theorem Bxk(p41_0:List Al)(p41_1:Aa):YO (Dt L) (L+24) 6 71 [.lst false (.t57 p41_0),I 32,.clo 72 1 [.mp 5]] [(1,Ae p41_1),(3,[.mp 5]),(4,[.clo 73 0 [.loc 3 0]]),(5,[.mapO false false (.t9 []) (.t4 [])])] k=ob (Ac3 L p41_0 p41_1) (A8y p41_0 p41_1 k):=(Dc _ _ _ jn4 _ _ _ _ _ _ _).trans (eE (Amo L p41_0 p41_1 (ho (B6l L (Bky L k) p41_0 p41_1 (L+24) (0,0,[],[])) fun o9=>B9f L k p41_0 p41_1 o9)))
def Bh9(p54_0:ByteArray)(p54_1:Aa)(p54_2:List ByteArray)(p54_3:List Bool)(p54_4:Af)(p54_5:Af)(k:Bx):Cs→Prop:=fun o=>k (I o.1) [(1,Ae p54_1),(3,[.mp 5]),(4,[.clo 73 0 [.loc 3 0]]),(5,[.mapO false false (.t9 o.2.1) (.t4 o.2.2)]),(14,Bo p54_4),(18,Bo p54_5)]
def Al3 [An A Cs](p54_0:ByteArray)(p54_1:Aa)(p54_2:List ByteArray)(p54_3:List Bool)(p54_4:Af)(p54_5:Af):A:=
 (bd (De L p54_0) fun r11=>
 (cn (r11 != 0)
 (lf (r11,p54_2,p54_3))
 (fq (p54_2.findIdx? fun b=>p54_0 == b) (fun i12=>
 (cn (p54_3.getD i12 default)
 (lf (4,p54_2,p54_3))
 (fq (p54_2.findIdx? fun b=>p54_0 == b) (fun i13=>
 (lf (0,p54_2,(p54_3.set i13 true))))
 (lf (0,(p54_2++ [p54_0]),(p54_3++ [true]))))))
 (fq (p54_2.findIdx? fun b=>p54_0 == b) (fun i14=>
 (lf (0,p54_2,(p54_3.set i14 true))))
 (lf (0,(p54_2++ [p54_0]),(p54_3++ [true])))))))
def Ac6(p54_0:ByteArray)(p54_1:Aa)(p54_2:List ByteArray)(p54_3:List Bool)(p54_4:Af)(p54_5:Af):Option Cs:=Al3 L p54_0 p54_1 p54_2 p54_3 p54_4 p54_5
theorem Bxp(p54_0:ByteArray)(p54_1:Aa)(p54_2:List ByteArray)(p54_3:List Bool)(p54_4:Af)(p54_5:Af):YO (Dt L) (L+24) 5 43 [.mp 5,S p54_0] [(1,Ae p54_1),(3,[.mp 5]),(4,[.clo 73 0 [.loc 3 0]]),(5,[.mapO false false (.t9 p54_2) (.t4 p54_3)]),(14,Bo p54_4),(18,Bo p54_5)] k=ob (Ac6 L p54_0 p54_1 p54_2 p54_3 p54_4 p54_5) (Bh9 p54_0 p54_1 p54_2 p54_3 p54_4 p54_5 k):=(Dc _ _ _ jn4 _ _ _ _ _ _ _).trans (eE (Al3 L p54_0 p54_1 p54_2 p54_3 p54_4 p54_5))
def A81(p52_0:Af)(p52_1:Aa)(p52_2:List ByteArray)(p52_3:List Bool)(p52_4:Af)(k:Bx):Cs→Prop:=fun o=>k (I o.1) [(1,Ae p52_1),(3,[.mp 5]),(4,[.clo 73 0 [.loc 3 0]]),(5,[.mapO false false (.t9 o.2.1) (.t4 o.2.2)]),(14,Bo p52_4),(18,Bo p52_0)]
def Xk [An A Cs](p52_0:Af)(p52_1:Aa)(o15:Cs):A:=
 (cn (o15.1 != 0)
 (lf (o15.1,o15.2.1,o15.2.2))
 (bd (Bi L p52_0.Units 0 1000) fun r16=>
 (cn (!r16)
 (lf (2,o15.2.1,o15.2.2))
 (bd (Wn L p52_0) fun r17=>
 (cn (r17 != 0)
 (lf (r17,o15.2.1,o15.2.2))
 (bd (Wm L p52_1 p52_0.Fault) fun r18=>
 (lf (r18,o15.2.1,o15.2.2))))))))
def Bk0(p52_0:Af)(p52_1:Aa)(p52_2:List ByteArray)(p52_3:List Bool)(p52_4:Af):Bx:=(Cm Tryz.prog (Dt L) (EI (Dt L) (L+24) 5) 1 (List.drop 4 c79.u.l.l.ops) ⟨[(9,S p52_0.Name),(8,.loc 18 0),(7,.mp 5),(1,.loc 3 0),(2,.loc 1 0),(3,.loc 18 0),(4,I 0)],[(1,Ae p52_1),(3,[.mp 5]),(4,[.clo 73 0 [.loc 3 0]]),(5,[.mapO false false (.t9 p52_2) (.t4 p52_3)]),(14,Bo p52_4),(18,Bo p52_0)],15⟩ (some 10) (fun st9=>(Bl (EV (Dt L) (L+24) 5 c79.u.l.r) (Bl (EV (Dt L) (L+24) 5 c79.u.r) (E5 Tryz.prog (RS Tryz.f79) k))) .normal st9))
theorem B9h(p52_0:Af)(p52_1:Aa)(p52_2:List ByteArray)(p52_3:List Bool)(p52_4:Af)(o15:Cs):Bh9 p52_0.Name p52_1 p52_2 p52_3 p52_4 p52_0 (Bk0 L k p52_0 p52_1 p52_2 p52_3 p52_4) o15=ob (Xk L p52_0 p52_1 o15) (A81 p52_0 p52_1 p52_2 p52_3 p52_4 k):=eE (Xk L p52_0 p52_1 o15)
def Aea [An A Cs](L:Nat)(p52_0:Af)(p52_1:Aa)(p52_2:List ByteArray)(p52_3:List Bool)(p52_4:Af)(nx72:A):A:=
 nx72
def Al2 [An A Cs](p52_0:Af)(p52_1:Aa)(p52_2:List ByteArray)(p52_3:List Bool)(p52_4:Af):A:=Aea L p52_0 p52_1 p52_2 p52_3 p52_4 (bd (Ac6 L p52_0.Name p52_1 p52_2 p52_3 p52_4 p52_0) fun o15=>Xk L p52_0 p52_1 o15)
def Nv(p52_0:Af)(p52_1:Aa)(p52_2:List ByteArray)(p52_3:List Bool)(p52_4:Af):Option Cs:=Al2 L p52_0 p52_1 p52_2 p52_3 p52_4
theorem Bxo(p52_0:Af)(p52_1:Aa)(p52_2:List ByteArray)(p52_3:List Bool)(p52_4:Af):YO (Dt L) (L+24) 6 79 [.agg (Bo p52_0),.loc 3 0,.loc 1 0] [(1,Ae p52_1),(3,[.mp 5]),(4,[.clo 73 0 [.loc 3 0]]),(5,[.mapO false false (.t9 p52_2) (.t4 p52_3)]),(14,Bo p52_4)] k=ob (Nv L p52_0 p52_1 p52_2 p52_3 p52_4) (A81 p52_0 p52_1 p52_2 p52_3 p52_4 k):=(Dc _ _ _ jn4 _ _ _ _ _ _ _).trans (eE (Aea L p52_0 p52_1 p52_2 p52_3 p52_4 (ho (Bxp L (Bk0 L k p52_0 p52_1 p52_2 p52_3 p52_4) p52_0.Name p52_1 p52_2 p52_3 p52_4 p52_0) fun o15=>B9h L k p52_0 p52_1 p52_2 p52_3 p52_4 o15)))
def Bhl(p48_0:List Af)(p48_1:Aa)(v:Tu4):St:=⟨[(0,.any),(1,.any),(2,.clo 79 0 [.loc 3 0,.loc 1 0]),(6,I v.1),(14,.lst false (.t116 p48_0)),(15,I (p48_0.length:Int)),(16,I v.2.1)],[(1,Ae p48_1),(3,[.mp 5]),(4,[.clo 73 0 [.loc 3 0]]),(5,[.mapO false false (.t9 v.2.2.1) (.t4 v.2.2.2)])],6⟩
def Sm [An A Sz](L:Nat)(B2:Int)(B5:Int)(rec:Int→Int→List ByteArray→List Bool→A)(o19:Cs):A:=
 (cn (o19.1 != 0)
 (lf (0,o19.1,B2,o19.2.1,o19.2.2))
 (rec B5 (Da (B2+1)) o19.2.1 o19.2.2))
def X0 [An A Sz](L:Nat)(p48_0:List Af)(p48_1:Aa)(rec:Int→Int→List ByteArray→List Bool→A)(B5:Int)(B2:Int)(Mx:List ByteArray)(My:List Bool)(nx73:Int→(List ByteArray)→(List Bool)→Int→A):A:=
 (cn (decide (B2 < (p48_0.length:Int)))
 (gq (0≤B2)
 (gq (B2 < (p48_0.length:Int))
 (nx73 B2 Mx My B5)))
 (lf (1,B5,B2,Mx,My)))
def Age [An A Sz](p48_0:List Af)(p48_1:Aa)(rec:Int→Int→List ByteArray→List Bool→A)(B5:Int)(B2:Int)(Mx:List ByteArray)(My:List Bool):A:=X0 L p48_0 p48_1 rec B5 B2 Mx My (fun B2 Mx My B5=>bd (Nv L (p48_0.getD (Int.toNat B2) default) p48_1 Mx My (p48_0.getD (Int.toNat B2) default)) fun o19=>Sm L B2 B5 rec o19)
def Jp(L:Nat)(p48_0:List Af)(p48_1:Aa):Nat→Int→Int→List ByteArray→List Bool→Option Sz
 |0,_,_,_,_=>none
 |n+1,B5,B2,Mx,My=>Age L p48_0 p48_1 (Jp L p48_0 p48_1 n) B5 B2 Mx My
def Bo2(p48_0:List Af)(p48_1:Aa):Prop:=LI (EV (Dt L) (L+24) 6 c78.w.l.u.l.l) [0,1,2,6,14,15,16] [1,3,4,5] (Bhl p48_0 p48_1) [.ret,.exit 0] (fun n v=>Jp L p48_0 p48_1 n v.1 v.2.1 v.2.2.1 v.2.2.2) K n
def Bk1(p48_0:List Af)(B2:Int)(B5:Int)(p48_1:Aa)(Mx:List ByteArray)(My:List Bool):Bx:=(Cm Tryz.prog (Dt L) (EI (Dt L) (L+24) 6) 1 (List.drop 3 c78.w.l.u.l.l.w.l.l.u.l.ops) ⟨[(21,.agg (Bo (p48_0.getD (Int.toNat B2) default))),(20,.clo 79 0 [.loc 3 0,.loc 1 0]),(2,.clo 79 0 [.loc 3 0,.loc 1 0]),(6,I B5),(8,.loc 14 0),(14,.lst false (.t116 p48_0)),(15,I (p48_0.length:Int)),(16,I B2),(17,B (decide (B2 < (p48_0.length:Int)))),(18,.ref (Bo (p48_0.getD (Int.toNat B2) default))),(19,.agg (Bo (p48_0.getD (Int.toNat B2) default)))],[(1,Ae p48_1),(3,[.mp 5]),(4,[.clo 73 0 [.loc 3 0]]),(5,[.mapO false false (.t9 Mx) (.t4 My)]),(14,(Bo (p48_0.getD (Int.toNat B2) default)))],6⟩ (some 22) (fun st9=>(Bl (EV (Dt L) (L+24) 6 c78.w.l.u.l.l.w.l.l.u.r) (Ay 1 (Bl (EV (Dt L) (L+24) 6 c78.w.l.u.l.l.w.r) (I7 (Ly (EV (Dt L) (L+24) 6 c78.w.l.u.l.l) [0,1,2,6,14,15,16] [1,3,4,5] n) [0,1,2,6,14,15,16] [1,3,4,5] K)))) .normal st9))
theorem B9i(p48_0:List Af)(B2:Int)(p48_1:Aa)(Mx:List ByteArray)(My:List Bool)(B5:Int)(ih:Bo2 L n K p48_0 p48_1)(o19:Cs):A81 (p48_0.getD (Int.toNat B2) default) p48_1 Mx My (p48_0.getD (Int.toNat B2) default) (Bk1 L n K p48_0 B2 B5 p48_1 Mx My) o19=ob (Sm L B2 B5 (Jp L p48_0 p48_1 n) o19) (kX [.ret,.exit 0] (Bhl p48_0 p48_1) K):=eE (Sm L B2 B5 (fun B5 B2 Mx My=>re (ih (B5,B2,Mx,My))) o19)
theorem B6m(p48_0:List Af)(p48_1:Aa):∀n,Bo2 L n K p48_0 p48_1:=lE (fun _=>rfl) fun n v ih=>eE (X0 L p48_0 p48_1 (fun B5 B2 Mx My=>re (ih (B5,B2,Mx,My))) v.1 v.2.1 v.2.2.1 v.2.2.2 (fun B2 Mx My B5=>ho (Bxo L (Bk1 L n K p48_0 B2 B5 p48_1 Mx My) (p48_0.getD (Int.toNat B2) default) p48_1 Mx My (p48_0.getD (Int.toNat B2) default)) fun o19=>B9i L n K p48_0 B2 p48_1 Mx My B5 ih o19))
def A80(p48_0:List Af)(p48_1:Aa)(p48_2:List ByteArray)(p48_3:List Bool)(k:Bx):Cs→Prop:=fun o=>k (I o.1) [(1,Ae p48_1),(3,[.mp 5]),(4,[.clo 73 0 [.loc 3 0]]),(5,[.mapO false false (.t9 o.2.1) (.t4 o.2.2)])]
def Adp [An A Cs](L:Nat)(o20:Nat×Tu4):A:=
 (sl o20.1 [(lf (o20.2.1,o20.2.2.2.1,o20.2.2.2.2)),
 (lf (0,o20.2.2.2.1,o20.2.2.2.2))])
def Bk2:Be:=(Ay 0 (Bl (EV (Dt L) (L+24) 6 c78.w.r) (E5 Tryz.prog (RS Tryz.f78) k)))
theorem B9j(p48_0:List Af)(p48_1:Aa)(p48_2:List ByteArray)(p48_3:List Bool)(o20:Nat×Tu4):kX [.ret,.exit 0] (Bhl p48_0 p48_1) (Bk2 L k) o20=ob (Adp L o20) (A80 p48_0 p48_1 p48_2 p48_3 k):=eE (Adp L o20)
def Amp [An A Cs](L:Nat)(p48_0:List Af)(p48_1:Aa)(p48_2:List ByteArray)(p48_3:List Bool)(nx74:A):A:=
 (cn (decide ((p48_0.length:Int) > 32))
 (lf (6,p48_2,p48_3))
 nx74)
def Aw4 [An A Cs](p48_0:List Af)(p48_1:Aa)(p48_2:List ByteArray)(p48_3:List Bool):A:=Amp L p48_0 p48_1 p48_2 p48_3 (bd (Jp L p48_0 p48_1 (L+24) 0 0 p48_2 p48_3) fun o20=>Adp L o20)
def Ac5(p48_0:List Af)(p48_1:Aa)(p48_2:List ByteArray)(p48_3:List Bool):Option Cs:=Aw4 L p48_0 p48_1 p48_2 p48_3
theorem Bxn(p48_0:List Af)(p48_1:Aa)(p48_2:List ByteArray)(p48_3:List Bool):YO (Dt L) (L+24) 7 78 [.lst false (.t116 p48_0),I 32,.clo 79 0 [.loc 3 0,.loc 1 0]] [(1,Ae p48_1),(3,[.mp 5]),(4,[.clo 73 0 [.loc 3 0]]),(5,[.mapO false false (.t9 p48_2) (.t4 p48_3)])] k=ob (Ac5 L p48_0 p48_1 p48_2 p48_3) (A80 p48_0 p48_1 p48_2 p48_3 k):=(Dc _ _ _ jn4 _ _ _ _ _ _ _).trans (eE (Amp L p48_0 p48_1 p48_2 p48_3 (ho (B6m L (Bk2 L k) p48_0 p48_1 (L+24) (0,0,p48_2,p48_3)) fun o20=>B9j L k p48_0 p48_1 p48_2 p48_3 o20)))
def Bia(p61_0:ByteArray)(p61_1:Aa)(p61_2:List ByteArray)(p61_3:List Bool)(p61_4:Ap)(p61_5:Ap)(k:Bx):Cs→Prop:=fun o=>k (I o.1) [(1,Ae p61_1),(3,[.mp 5]),(4,[.clo 73 0 [.loc 3 0]]),(5,[.mapO false false (.t9 o.2.1) (.t4 o.2.2)]),(14,Cr p61_4),(17,Cr p61_5)]
def Al5 [An A Cs](p61_0:ByteArray)(p61_1:Aa)(p61_2:List ByteArray)(p61_3:List Bool)(p61_4:Ap)(p61_5:Ap):A:=
 (bd (De L p61_0) fun r22=>
 (cn (r22 != 0)
 (lf (r22,p61_2,p61_3))
 (fq (p61_2.findIdx? fun b=>p61_0 == b) (fun i23=>
 (cn (p61_3.getD i23 default)
 (lf (4,p61_2,p61_3))
 (fq (p61_2.findIdx? fun b=>p61_0 == b) (fun i24=>
 (lf (0,p61_2,(p61_3.set i24 true))))
 (lf (0,(p61_2++ [p61_0]),(p61_3++ [true]))))))
 (fq (p61_2.findIdx? fun b=>p61_0 == b) (fun i25=>
 (lf (0,p61_2,(p61_3.set i25 true))))
 (lf (0,(p61_2++ [p61_0]),(p61_3++ [true])))))))
def Ac8(p61_0:ByteArray)(p61_1:Aa)(p61_2:List ByteArray)(p61_3:List Bool)(p61_4:Ap)(p61_5:Ap):Option Cs:=Al5 L p61_0 p61_1 p61_2 p61_3 p61_4 p61_5
theorem Bxs(p61_0:ByteArray)(p61_1:Aa)(p61_2:List ByteArray)(p61_3:List Bool)(p61_4:Ap)(p61_5:Ap):YO (Dt L) (L+24) 5 43 [.mp 5,S p61_0] [(1,Ae p61_1),(3,[.mp 5]),(4,[.clo 73 0 [.loc 3 0]]),(5,[.mapO false false (.t9 p61_2) (.t4 p61_3)]),(14,Cr p61_4),(17,Cr p61_5)] k=ob (Ac8 L p61_0 p61_1 p61_2 p61_3 p61_4 p61_5) (Bia p61_0 p61_1 p61_2 p61_3 p61_4 p61_5 k):=(Dc _ _ _ jn4 _ _ _ _ _ _ _).trans (eE (Al5 L p61_0 p61_1 p61_2 p61_3 p61_4 p61_5))
def A83(p59_0:Ap)(p59_1:Aa)(p59_2:List ByteArray)(p59_3:List Bool)(p59_4:Ap)(k:Bx):Cs→Prop:=fun o=>k (I o.1) [(1,Ae p59_1),(3,[.mp 5]),(4,[.clo 73 0 [.loc 3 0]]),(5,[.mapO false false (.t9 o.2.1) (.t4 o.2.2)]),(14,Cr p59_4),(17,Cr p59_0)]
def Xl [An A Cs](p59_0:Ap)(o26:Cs):A:=
 (cn (o26.1 != 0)
 (lf (o26.1,o26.2.1,o26.2.2))
 (bd (Bi L p59_0.Room 1 1000) fun r27=>
 (cn (!r27)
 (lf (2,o26.2.1,o26.2.2))
 (jp (.cn (decide (p59_0.Policy < 1))
 (.lf true)
 (.lf (decide (p59_0.Policy > 3)))) (fun b28=>
 (cn b28
 (lf (1,o26.2.1,o26.2.2))
 (lf (0,o26.2.1,o26.2.2))))))))
def Bk4(p59_0:Ap)(p59_1:Aa)(p59_2:List ByteArray)(p59_3:List Bool)(p59_4:Ap):Bx:=(Cm Tryz.prog (Dt L) (EI (Dt L) (L+24) 5) 1 (List.drop 4 c85.u.l.l.ops) ⟨[(7,S p59_0.Name),(6,.loc 17 0),(5,.mp 5),(1,.loc 3 0),(2,.loc 17 0),(3,I 0)],[(1,Ae p59_1),(3,[.mp 5]),(4,[.clo 73 0 [.loc 3 0]]),(5,[.mapO false false (.t9 p59_2) (.t4 p59_3)]),(14,Cr p59_4),(17,Cr p59_0)],15⟩ (some 8) (fun st9=>(Bl (EV (Dt L) (L+24) 5 c85.u.l.r) (Bl (EV (Dt L) (L+24) 5 c85.u.r) (E5 Tryz.prog (RS Tryz.f85) k))) .normal st9))
theorem B9l(p59_0:Ap)(p59_1:Aa)(p59_2:List ByteArray)(p59_3:List Bool)(p59_4:Ap)(o26:Cs):Bia p59_0.Name p59_1 p59_2 p59_3 p59_4 p59_0 (Bk4 L k p59_0 p59_1 p59_2 p59_3 p59_4) o26=ob (Xl L p59_0 o26) (A83 p59_0 p59_1 p59_2 p59_3 p59_4 k):=eE (Xl L p59_0 o26)
def Aec [An A Cs](L:Nat)(p59_0:Ap)(p59_1:Aa)(p59_2:List ByteArray)(p59_3:List Bool)(p59_4:Ap)(nx81:A):A:=
 nx81
def Al4 [An A Cs](p59_0:Ap)(p59_1:Aa)(p59_2:List ByteArray)(p59_3:List Bool)(p59_4:Ap):A:=Aec L p59_0 p59_1 p59_2 p59_3 p59_4 (bd (Ac8 L p59_0.Name p59_1 p59_2 p59_3 p59_4 p59_0) fun o26=>Xl L p59_0 o26)
def Nw(p59_0:Ap)(p59_1:Aa)(p59_2:List ByteArray)(p59_3:List Bool)(p59_4:Ap):Option Cs:=Al4 L p59_0 p59_1 p59_2 p59_3 p59_4
theorem Bxr(p59_0:Ap)(p59_1:Aa)(p59_2:List ByteArray)(p59_3:List Bool)(p59_4:Ap):YO (Dt L) (L+24) 6 85 [.agg (Cr p59_0),.loc 3 0] [(1,Ae p59_1),(3,[.mp 5]),(4,[.clo 73 0 [.loc 3 0]]),(5,[.mapO false false (.t9 p59_2) (.t4 p59_3)]),(14,Cr p59_4)] k=ob (Nw L p59_0 p59_1 p59_2 p59_3 p59_4) (A83 p59_0 p59_1 p59_2 p59_3 p59_4 k):=(Dc _ _ _ jn4 _ _ _ _ _ _ _).trans (eE (Aec L p59_0 p59_1 p59_2 p59_3 p59_4 (ho (Bxs L (Bk4 L k p59_0 p59_1 p59_2 p59_3 p59_4) p59_0.Name p59_1 p59_2 p59_3 p59_4 p59_0) fun o26=>B9l L k p59_0 p59_1 p59_2 p59_3 p59_4 o26)))
def Bhm(p55_0:List Ap)(p55_1:Aa)(v:Tu4):St:=⟨[(0,.any),(1,.any),(2,.clo 85 0 [.loc 3 0]),(6,I v.1),(14,.lst false (.t123 p55_0)),(15,I (p55_0.length:Int)),(16,I v.2.1)],[(1,Ae p55_1),(3,[.mp 5]),(4,[.clo 73 0 [.loc 3 0]]),(5,[.mapO false false (.t9 v.2.2.1) (.t4 v.2.2.2)])],6⟩
def Sn [An A Sz](L:Nat)(Ih:Int)(Gd:Int)(rec:Int→Int→List ByteArray→List Bool→A)(o29:Cs):A:=
 (cn (o29.1 != 0)
 (lf (0,o29.1,Ih,o29.2.1,o29.2.2))
 (rec Gd (Da (Ih+1)) o29.2.1 o29.2.2))
def X1 [An A Sz](L:Nat)(p55_0:List Ap)(p55_1:Aa)(rec:Int→Int→List ByteArray→List Bool→A)(Gd:Int)(Ih:Int)(Er:List ByteArray)(Mz:List Bool)(nx82:Int→(List ByteArray)→(List Bool)→Int→A):A:=
 (cn (decide (Ih < (p55_0.length:Int)))
 (gq (0≤Ih)
 (gq (Ih < (p55_0.length:Int))
 (nx82 Ih Er Mz Gd)))
 (lf (1,Gd,Ih,Er,Mz)))
def Agf [An A Sz](p55_0:List Ap)(p55_1:Aa)(rec:Int→Int→List ByteArray→List Bool→A)(Gd:Int)(Ih:Int)(Er:List ByteArray)(Mz:List Bool):A:=X1 L p55_0 p55_1 rec Gd Ih Er Mz (fun Ih Er Mz Gd=>bd (Nw L (p55_0.getD (Int.toNat Ih) default) p55_1 Er Mz (p55_0.getD (Int.toNat Ih) default)) fun o29=>Sn L Ih Gd rec o29)
def Jq(L:Nat)(p55_0:List Ap)(p55_1:Aa):Nat→Int→Int→List ByteArray→List Bool→Option Sz
 |0,_,_,_,_=>none
 |n+1,Gd,Ih,Er,Mz=>Agf L p55_0 p55_1 (Jq L p55_0 p55_1 n) Gd Ih Er Mz
def Bo3(p55_0:List Ap)(p55_1:Aa):Prop:=LI (EV (Dt L) (L+24) 6 c84.w.l.u.l.l) [0,1,2,6,14,15,16] [1,3,4,5] (Bhm p55_0 p55_1) [.ret,.exit 0] (fun n v=>Jq L p55_0 p55_1 n v.1 v.2.1 v.2.2.1 v.2.2.2) K n
def Bk5(p55_0:List Ap)(Ih:Int)(Gd:Int)(p55_1:Aa)(Er:List ByteArray)(Mz:List Bool):Bx:=(Cm Tryz.prog (Dt L) (EI (Dt L) (L+24) 6) 1 (List.drop 3 c84.w.l.u.l.l.w.l.l.u.l.ops) ⟨[(21,.agg (Cr (p55_0.getD (Int.toNat Ih) default))),(20,.clo 85 0 [.loc 3 0]),(2,.clo 85 0 [.loc 3 0]),(6,I Gd),(8,.loc 14 0),(14,.lst false (.t123 p55_0)),(15,I (p55_0.length:Int)),(16,I Ih),(17,B (decide (Ih < (p55_0.length:Int)))),(18,.ref (Cr (p55_0.getD (Int.toNat Ih) default))),(19,.agg (Cr (p55_0.getD (Int.toNat Ih) default)))],[(1,Ae p55_1),(3,[.mp 5]),(4,[.clo 73 0 [.loc 3 0]]),(5,[.mapO false false (.t9 Er) (.t4 Mz)]),(14,(Cr (p55_0.getD (Int.toNat Ih) default)))],6⟩ (some 22) (fun st9=>(Bl (EV (Dt L) (L+24) 6 c84.w.l.u.l.l.w.l.l.u.r) (Ay 1 (Bl (EV (Dt L) (L+24) 6 c84.w.l.u.l.l.w.r) (I7 (Ly (EV (Dt L) (L+24) 6 c84.w.l.u.l.l) [0,1,2,6,14,15,16] [1,3,4,5] n) [0,1,2,6,14,15,16] [1,3,4,5] K)))) .normal st9))
theorem B9m(p55_0:List Ap)(Ih:Int)(p55_1:Aa)(Er:List ByteArray)(Mz:List Bool)(Gd:Int)(ih:Bo3 L n K p55_0 p55_1)(o29:Cs):A83 (p55_0.getD (Int.toNat Ih) default) p55_1 Er Mz (p55_0.getD (Int.toNat Ih) default) (Bk5 L n K p55_0 Ih Gd p55_1 Er Mz) o29=ob (Sn L Ih Gd (Jq L p55_0 p55_1 n) o29) (kX [.ret,.exit 0] (Bhm p55_0 p55_1) K):=eE (Sn L Ih Gd (fun Gd Ih Er Mz=>re (ih (Gd,Ih,Er,Mz))) o29)
theorem B6n(p55_0:List Ap)(p55_1:Aa):∀n,Bo3 L n K p55_0 p55_1:=lE (fun _=>rfl) fun n v ih=>eE (X1 L p55_0 p55_1 (fun Gd Ih Er Mz=>re (ih (Gd,Ih,Er,Mz))) v.1 v.2.1 v.2.2.1 v.2.2.2 (fun Ih Er Mz Gd=>ho (Bxr L (Bk5 L n K p55_0 Ih Gd p55_1 Er Mz) (p55_0.getD (Int.toNat Ih) default) p55_1 Er Mz (p55_0.getD (Int.toNat Ih) default)) fun o29=>B9m L n K p55_0 Ih p55_1 Er Mz Gd ih o29))
def A82(p55_0:List Ap)(p55_1:Aa)(p55_2:List ByteArray)(p55_3:List Bool)(k:Bx):Cs→Prop:=fun o=>k (I o.1) [(1,Ae p55_1),(3,[.mp 5]),(4,[.clo 73 0 [.loc 3 0]]),(5,[.mapO false false (.t9 o.2.1) (.t4 o.2.2)])]
def Adr [An A Cs](L:Nat)(o30:Nat×Tu4):A:=
 (sl o30.1 [(lf (o30.2.1,o30.2.2.2.1,o30.2.2.2.2)),
 (lf (0,o30.2.2.2.1,o30.2.2.2.2))])
def Bk6:Be:=(Ay 0 (Bl (EV (Dt L) (L+24) 6 c84.w.r) (E5 Tryz.prog (RS Tryz.f84) k)))
theorem B9n(p55_0:List Ap)(p55_1:Aa)(p55_2:List ByteArray)(p55_3:List Bool)(o30:Nat×Tu4):kX [.ret,.exit 0] (Bhm p55_0 p55_1) (Bk6 L k) o30=ob (Adr L o30) (A82 p55_0 p55_1 p55_2 p55_3 k):=eE (Adr L o30)
def Amq [An A Cs](L:Nat)(p55_0:List Ap)(p55_1:Aa)(p55_2:List ByteArray)(p55_3:List Bool)(nx83:A):A:=
 (cn (decide ((p55_0.length:Int) > 32))
 (lf (6,p55_2,p55_3))
 nx83)
def Aw5 [An A Cs](p55_0:List Ap)(p55_1:Aa)(p55_2:List ByteArray)(p55_3:List Bool):A:=Amq L p55_0 p55_1 p55_2 p55_3 (bd (Jq L p55_0 p55_1 (L+24) 0 0 p55_2 p55_3) fun o30=>Adr L o30)
def Ac7(p55_0:List Ap)(p55_1:Aa)(p55_2:List ByteArray)(p55_3:List Bool):Option Cs:=Aw5 L p55_0 p55_1 p55_2 p55_3
theorem Bxq(p55_0:List Ap)(p55_1:Aa)(p55_2:List ByteArray)(p55_3:List Bool):YO (Dt L) (L+24) 7 84 [.lst false (.t123 p55_0),I 32,.clo 85 0 [.loc 3 0]] [(1,Ae p55_1),(3,[.mp 5]),(4,[.clo 73 0 [.loc 3 0]]),(5,[.mapO false false (.t9 p55_2) (.t4 p55_3)])] k=ob (Ac7 L p55_0 p55_1 p55_2 p55_3) (A82 p55_0 p55_1 p55_2 p55_3 k):=(Dc _ _ _ jn4 _ _ _ _ _ _ _).trans (eE (Amq L p55_0 p55_1 p55_2 p55_3 (ho (B6n L (Bk6 L k) p55_0 p55_1 (L+24) (0,0,p55_2,p55_3)) fun o30=>B9n L k p55_0 p55_1 p55_2 p55_3 o30)))
def Bib(p68_0:ByteArray)(p68_1:Aa)(p68_2:List ByteArray)(p68_3:List Bool)(p68_4:Ar)(p68_5:Ar)(k:Bx):Cs→Prop:=fun o=>k (I o.1) [(1,Ae p68_1),(3,[.mp 5]),(4,[.clo 73 0 [.loc 3 0]]),(5,[.mapO false false (.t9 o.2.1) (.t4 o.2.2)]),(14,Cy p68_4),(17,Cy p68_5)]
def Al7 [An A Cs](p68_0:ByteArray)(p68_1:Aa)(p68_2:List ByteArray)(p68_3:List Bool)(p68_4:Ar)(p68_5:Ar):A:=
 (bd (De L p68_0) fun r32=>
 (cn (r32 != 0)
 (lf (r32,p68_2,p68_3))
 (fq (p68_2.findIdx? fun b=>p68_0 == b) (fun i33=>
 (cn (p68_3.getD i33 default)
 (lf (4,p68_2,p68_3))
 (fq (p68_2.findIdx? fun b=>p68_0 == b) (fun i34=>
 (lf (0,p68_2,(p68_3.set i34 true))))
 (lf (0,(p68_2++ [p68_0]),(p68_3++ [true]))))))
 (fq (p68_2.findIdx? fun b=>p68_0 == b) (fun i35=>
 (lf (0,p68_2,(p68_3.set i35 true))))
 (lf (0,(p68_2++ [p68_0]),(p68_3++ [true])))))))
def Ada(p68_0:ByteArray)(p68_1:Aa)(p68_2:List ByteArray)(p68_3:List Bool)(p68_4:Ar)(p68_5:Ar):Option Cs:=Al7 L p68_0 p68_1 p68_2 p68_3 p68_4 p68_5
theorem Bxv(p68_0:ByteArray)(p68_1:Aa)(p68_2:List ByteArray)(p68_3:List Bool)(p68_4:Ar)(p68_5:Ar):YO (Dt L) (L+24) 5 43 [.mp 5,S p68_0] [(1,Ae p68_1),(3,[.mp 5]),(4,[.clo 73 0 [.loc 3 0]]),(5,[.mapO false false (.t9 p68_2) (.t4 p68_3)]),(14,Cy p68_4),(17,Cy p68_5)] k=ob (Ada L p68_0 p68_1 p68_2 p68_3 p68_4 p68_5) (Bib p68_0 p68_1 p68_2 p68_3 p68_4 p68_5 k):=(Dc _ _ _ jn4 _ _ _ _ _ _ _).trans (eE (Al7 L p68_0 p68_1 p68_2 p68_3 p68_4 p68_5))
def A85(p66_0:Ar)(p66_1:Aa)(p66_2:List ByteArray)(p66_3:List Bool)(p66_4:Ar)(k:Bx):Cs→Prop:=fun o=>k (I o.1) [(1,Ae p66_1),(3,[.mp 5]),(4,[.clo 73 0 [.loc 3 0]]),(5,[.mapO false false (.t9 o.2.1) (.t4 o.2.2)]),(14,Cy p66_4),(17,Cy p66_0)]
def Xm [An A Cs](p66_0:Ar)(o36:Cs):A:=
 (cn (o36.1 != 0)
 (lf (o36.1,o36.2.1,o36.2.2))
 (bd (Bi L p66_0.Length 1 1000) fun r37=>
 (jb (.cn (!r37)
 (.lf true)
 (.bd (Bi L p66_0.Step 1 1000) fun r39=>
 (.lf (!r39)))) (fun b38=>
 (cn b38
 (lf (2,o36.2.1,o36.2.2))
 (lf (0,o36.2.1,o36.2.2)))))))
def Bk8(p66_0:Ar)(p66_1:Aa)(p66_2:List ByteArray)(p66_3:List Bool)(p66_4:Ar):Bx:=(Cm Tryz.prog (Dt L) (EI (Dt L) (L+24) 5) 1 (List.drop 4 c88.u.l.l.ops) ⟨[(7,S p66_0.Name),(6,.loc 17 0),(5,.mp 5),(1,.loc 3 0),(2,.loc 17 0),(3,I 0)],[(1,Ae p66_1),(3,[.mp 5]),(4,[.clo 73 0 [.loc 3 0]]),(5,[.mapO false false (.t9 p66_2) (.t4 p66_3)]),(14,Cy p66_4),(17,Cy p66_0)],15⟩ (some 8) (fun st9=>(Bl (EV (Dt L) (L+24) 5 c88.u.l.r) (Bl (EV (Dt L) (L+24) 5 c88.u.r) (E5 Tryz.prog (RS Tryz.f88) k))) .normal st9))
theorem B9p(p66_0:Ar)(p66_1:Aa)(p66_2:List ByteArray)(p66_3:List Bool)(p66_4:Ar)(o36:Cs):Bib p66_0.Name p66_1 p66_2 p66_3 p66_4 p66_0 (Bk8 L k p66_0 p66_1 p66_2 p66_3 p66_4) o36=ob (Xm L p66_0 o36) (A85 p66_0 p66_1 p66_2 p66_3 p66_4 k):=eE (Xm L p66_0 o36)
def Aee [An A Cs](L:Nat)(p66_0:Ar)(p66_1:Aa)(p66_2:List ByteArray)(p66_3:List Bool)(p66_4:Ar)(nx90:A):A:=
 nx90
def Al6 [An A Cs](p66_0:Ar)(p66_1:Aa)(p66_2:List ByteArray)(p66_3:List Bool)(p66_4:Ar):A:=Aee L p66_0 p66_1 p66_2 p66_3 p66_4 (bd (Ada L p66_0.Name p66_1 p66_2 p66_3 p66_4 p66_0) fun o36=>Xm L p66_0 o36)
def Nx(p66_0:Ar)(p66_1:Aa)(p66_2:List ByteArray)(p66_3:List Bool)(p66_4:Ar):Option Cs:=Al6 L p66_0 p66_1 p66_2 p66_3 p66_4
theorem Bxu(p66_0:Ar)(p66_1:Aa)(p66_2:List ByteArray)(p66_3:List Bool)(p66_4:Ar):YO (Dt L) (L+24) 6 88 [.agg (Cy p66_0),.loc 3 0] [(1,Ae p66_1),(3,[.mp 5]),(4,[.clo 73 0 [.loc 3 0]]),(5,[.mapO false false (.t9 p66_2) (.t4 p66_3)]),(14,Cy p66_4)] k=ob (Nx L p66_0 p66_1 p66_2 p66_3 p66_4) (A85 p66_0 p66_1 p66_2 p66_3 p66_4 k):=(Dc _ _ _ jn4 _ _ _ _ _ _ _).trans (eE (Aee L p66_0 p66_1 p66_2 p66_3 p66_4 (ho (Bxv L (Bk8 L k p66_0 p66_1 p66_2 p66_3 p66_4) p66_0.Name p66_1 p66_2 p66_3 p66_4 p66_0) fun o36=>B9p L k p66_0 p66_1 p66_2 p66_3 p66_4 o36)))
def Bhn(p62_0:List Ar)(p62_1:Aa)(v:Tu4):St:=⟨[(0,.any),(1,.any),(2,.clo 88 0 [.loc 3 0]),(6,I v.1),(14,.lst false (.t127 p62_0)),(15,I (p62_0.length:Int)),(16,I v.2.1)],[(1,Ae p62_1),(3,[.mp 5]),(4,[.clo 73 0 [.loc 3 0]]),(5,[.mapO false false (.t9 v.2.2.1) (.t4 v.2.2.2)])],6⟩
def So [An A Sz](L:Nat)(Mr:Int)(K3:Int)(rec:Int→Int→List ByteArray→List Bool→A)(o40:Cs):A:=
 (cn (o40.1 != 0)
 (lf (0,o40.1,Mr,o40.2.1,o40.2.2))
 (rec K3 (Da (Mr+1)) o40.2.1 o40.2.2))
def X2 [An A Sz](L:Nat)(p62_0:List Ar)(p62_1:Aa)(rec:Int→Int→List ByteArray→List Bool→A)(K3:Int)(Mr:Int)(M3:List ByteArray)(Es:List Bool)(nx91:Int→(List ByteArray)→(List Bool)→Int→A):A:=
 (cn (decide (Mr < (p62_0.length:Int)))
 (gq (0≤Mr)
 (gq (Mr < (p62_0.length:Int))
 (nx91 Mr M3 Es K3)))
 (lf (1,K3,Mr,M3,Es)))
def Agg [An A Sz](p62_0:List Ar)(p62_1:Aa)(rec:Int→Int→List ByteArray→List Bool→A)(K3:Int)(Mr:Int)(M3:List ByteArray)(Es:List Bool):A:=X2 L p62_0 p62_1 rec K3 Mr M3 Es (fun Mr M3 Es K3=>bd (Nx L (p62_0.getD (Int.toNat Mr) default) p62_1 M3 Es (p62_0.getD (Int.toNat Mr) default)) fun o40=>So L Mr K3 rec o40)
def Jr(L:Nat)(p62_0:List Ar)(p62_1:Aa):Nat→Int→Int→List ByteArray→List Bool→Option Sz
 |0,_,_,_,_=>none
 |n+1,K3,Mr,M3,Es=>Agg L p62_0 p62_1 (Jr L p62_0 p62_1 n) K3 Mr M3 Es
def Bo4(p62_0:List Ar)(p62_1:Aa):Prop:=LI (EV (Dt L) (L+24) 6 c87.w.l.u.l.l) [0,1,2,6,14,15,16] [1,3,4,5] (Bhn p62_0 p62_1) [.ret,.exit 0] (fun n v=>Jr L p62_0 p62_1 n v.1 v.2.1 v.2.2.1 v.2.2.2) K n
def Bk9(p62_0:List Ar)(Mr:Int)(K3:Int)(p62_1:Aa)(M3:List ByteArray)(Es:List Bool):Bx:=(Cm Tryz.prog (Dt L) (EI (Dt L) (L+24) 6) 1 (List.drop 3 c87.w.l.u.l.l.w.l.l.u.l.ops) ⟨[(21,.agg (Cy (p62_0.getD (Int.toNat Mr) default))),(20,.clo 88 0 [.loc 3 0]),(2,.clo 88 0 [.loc 3 0]),(6,I K3),(8,.loc 14 0),(14,.lst false (.t127 p62_0)),(15,I (p62_0.length:Int)),(16,I Mr),(17,B (decide (Mr < (p62_0.length:Int)))),(18,.ref (Cy (p62_0.getD (Int.toNat Mr) default))),(19,.agg (Cy (p62_0.getD (Int.toNat Mr) default)))],[(1,Ae p62_1),(3,[.mp 5]),(4,[.clo 73 0 [.loc 3 0]]),(5,[.mapO false false (.t9 M3) (.t4 Es)]),(14,(Cy (p62_0.getD (Int.toNat Mr) default)))],6⟩ (some 22) (fun st9=>(Bl (EV (Dt L) (L+24) 6 c87.w.l.u.l.l.w.l.l.u.r) (Ay 1 (Bl (EV (Dt L) (L+24) 6 c87.w.l.u.l.l.w.r) (I7 (Ly (EV (Dt L) (L+24) 6 c87.w.l.u.l.l) [0,1,2,6,14,15,16] [1,3,4,5] n) [0,1,2,6,14,15,16] [1,3,4,5] K)))) .normal st9))
theorem B9q(p62_0:List Ar)(Mr:Int)(p62_1:Aa)(M3:List ByteArray)(Es:List Bool)(K3:Int)(ih:Bo4 L n K p62_0 p62_1)(o40:Cs):A85 (p62_0.getD (Int.toNat Mr) default) p62_1 M3 Es (p62_0.getD (Int.toNat Mr) default) (Bk9 L n K p62_0 Mr K3 p62_1 M3 Es) o40=ob (So L Mr K3 (Jr L p62_0 p62_1 n) o40) (kX [.ret,.exit 0] (Bhn p62_0 p62_1) K):=eE (So L Mr K3 (fun K3 Mr M3 Es=>re (ih (K3,Mr,M3,Es))) o40)
theorem B6o(p62_0:List Ar)(p62_1:Aa):∀n,Bo4 L n K p62_0 p62_1:=lE (fun _=>rfl) fun n v ih=>eE (X2 L p62_0 p62_1 (fun K3 Mr M3 Es=>re (ih (K3,Mr,M3,Es))) v.1 v.2.1 v.2.2.1 v.2.2.2 (fun Mr M3 Es K3=>ho (Bxu L (Bk9 L n K p62_0 Mr K3 p62_1 M3 Es) (p62_0.getD (Int.toNat Mr) default) p62_1 M3 Es (p62_0.getD (Int.toNat Mr) default)) fun o40=>B9q L n K p62_0 Mr p62_1 M3 Es K3 ih o40))
def A84(p62_0:List Ar)(p62_1:Aa)(p62_2:List ByteArray)(p62_3:List Bool)(k:Bx):Cs→Prop:=fun o=>k (I o.1) [(1,Ae p62_1),(3,[.mp 5]),(4,[.clo 73 0 [.loc 3 0]]),(5,[.mapO false false (.t9 o.2.1) (.t4 o.2.2)])]
def Adt [An A Cs](L:Nat)(o41:Nat×Tu4):A:=
 (sl o41.1 [(lf (o41.2.1,o41.2.2.2.1,o41.2.2.2.2)),
 (lf (0,o41.2.2.2.1,o41.2.2.2.2))])
def Bla:Be:=(Ay 0 (Bl (EV (Dt L) (L+24) 6 c87.w.r) (E5 Tryz.prog (RS Tryz.f87) k)))
theorem B9r(p62_0:List Ar)(p62_1:Aa)(p62_2:List ByteArray)(p62_3:List Bool)(o41:Nat×Tu4):kX [.ret,.exit 0] (Bhn p62_0 p62_1) (Bla L k) o41=ob (Adt L o41) (A84 p62_0 p62_1 p62_2 p62_3 k):=eE (Adt L o41)
def Amr [An A Cs](L:Nat)(p62_0:List Ar)(p62_1:Aa)(p62_2:List ByteArray)(p62_3:List Bool)(nx92:A):A:=
 (cn (decide ((p62_0.length:Int) > 32))
 (lf (6,p62_2,p62_3))
 nx92)
def Aw6 [An A Cs](p62_0:List Ar)(p62_1:Aa)(p62_2:List ByteArray)(p62_3:List Bool):A:=Amr L p62_0 p62_1 p62_2 p62_3 (bd (Jr L p62_0 p62_1 (L+24) 0 0 p62_2 p62_3) fun o41=>Adt L o41)
def Ac9(p62_0:List Ar)(p62_1:Aa)(p62_2:List ByteArray)(p62_3:List Bool):Option Cs:=Aw6 L p62_0 p62_1 p62_2 p62_3
theorem Bxt(p62_0:List Ar)(p62_1:Aa)(p62_2:List ByteArray)(p62_3:List Bool):YO (Dt L) (L+24) 7 87 [.lst false (.t127 p62_0),I 32,.clo 88 0 [.loc 3 0]] [(1,Ae p62_1),(3,[.mp 5]),(4,[.clo 73 0 [.loc 3 0]]),(5,[.mapO false false (.t9 p62_2) (.t4 p62_3)])] k=ob (Ac9 L p62_0 p62_1 p62_2 p62_3) (A84 p62_0 p62_1 p62_2 p62_3 k):=(Dc _ _ _ jn4 _ _ _ _ _ _ _).trans (eE (Amr L p62_0 p62_1 p62_2 p62_3 (ho (B6o L (Bla L k) p62_0 p62_1 (L+24) (0,0,p62_2,p62_3)) fun o41=>B9r L k p62_0 p62_1 p62_2 p62_3 o41)))
def Bic(p71_0:ByteArray)(p71_1:Aa)(p71_2:List ByteArray)(p71_3:List Bool)(k:Bx):Cs→Prop:=fun o=>k (I o.1) [(1,Ae p71_1),(3,[.mp 5]),(4,[.clo 73 0 [.loc 3 0]]),(5,[.mapO false false (.t9 o.2.1) (.t4 o.2.2)])]
def Al8 [An A Cs](p71_0:ByteArray)(p71_1:Aa)(p71_2:List ByteArray)(p71_3:List Bool):A:=
 (bd (De L p71_0) fun r43=>
 (cn (r43 != 0)
 (lf (r43,p71_2,p71_3))
 (fq (p71_2.findIdx? fun b=>p71_0 == b) (fun i44=>
 (cn (p71_3.getD i44 default)
 (lf (4,p71_2,p71_3))
 (fq (p71_2.findIdx? fun b=>p71_0 == b) (fun i45=>
 (lf (0,p71_2,(p71_3.set i45 true))))
 (lf (0,(p71_2++ [p71_0]),(p71_3++ [true]))))))
 (fq (p71_2.findIdx? fun b=>p71_0 == b) (fun i46=>
 (lf (0,p71_2,(p71_3.set i46 true))))
 (lf (0,(p71_2++ [p71_0]),(p71_3++ [true])))))))
def Ny(p71_0:ByteArray)(p71_1:Aa)(p71_2:List ByteArray)(p71_3:List Bool):Option Cs:=Al8 L p71_0 p71_1 p71_2 p71_3
theorem Bxw(p71_0:ByteArray)(p71_1:Aa)(p71_2:List ByteArray)(p71_3:List Bool):YO (Dt L) (L+24) 5 43 [.mp 5,S p71_0] [(1,Ae p71_1),(3,[.mp 5]),(4,[.clo 73 0 [.loc 3 0]]),(5,[.mapO false false (.t9 p71_2) (.t4 p71_3)])] k=ob (Ny L p71_0 p71_1 p71_2 p71_3) (Bic p71_0 p71_1 p71_2 p71_3 k):=(Dc _ _ _ jn4 _ _ _ _ _ _ _).trans (eE (Al8 L p71_0 p71_1 p71_2 p71_3))
def Bho(p69_0:List ByteArray)(p69_1:Aa)(v:Tu4):St:=⟨[(0,.any),(1,.any),(2,.clo 43 1 [.mp 5]),(6,I v.1),(14,.lst false (.t9 p69_0)),(15,I (p69_0.length:Int)),(16,I v.2.1)],[(1,Ae p69_1),(3,[.mp 5]),(4,[.clo 73 0 [.loc 3 0]]),(5,[.mapO false false (.t9 v.2.2.1) (.t4 v.2.2.2)])],6⟩
def Sp [An A Sz](L:Nat)(Wi:Int)(Wh:Int)(rec:Int→Int→List ByteArray→List Bool→A)(o47:Cs):A:=
 (cn (o47.1 != 0)
 (lf (0,o47.1,Wi,o47.2.1,o47.2.2))
 (rec Wh (Da (Wi+1)) o47.2.1 o47.2.2))
def X3 [An A Sz](L:Nat)(p69_0:List ByteArray)(p69_1:Aa)(rec:Int→Int→List ByteArray→List Bool→A)(Wh:Int)(Wi:Int)(M4:List ByteArray)(M5:List Bool)(nx96:Int→(List ByteArray)→(List Bool)→Int→A):A:=
 (cn (decide (Wi < (p69_0.length:Int)))
 (gq (0≤Wi)
 (gq (Wi < (p69_0.length:Int))
 (nx96 Wi M4 M5 Wh)))
 (lf (1,Wh,Wi,M4,M5)))
def Agh [An A Sz](p69_0:List ByteArray)(p69_1:Aa)(rec:Int→Int→List ByteArray→List Bool→A)(Wh:Int)(Wi:Int)(M4:List ByteArray)(M5:List Bool):A:=X3 L p69_0 p69_1 rec Wh Wi M4 M5 (fun Wi M4 M5 Wh=>bd (Ny L (p69_0.getD (Int.toNat Wi) default) p69_1 M4 M5) fun o47=>Sp L Wi Wh rec o47)
def Js(L:Nat)(p69_0:List ByteArray)(p69_1:Aa):Nat→Int→Int→List ByteArray→List Bool→Option Sz
 |0,_,_,_,_=>none
 |n+1,Wh,Wi,M4,M5=>Agh L p69_0 p69_1 (Js L p69_0 p69_1 n) Wh Wi M4 M5
def Bo5(p69_0:List ByteArray)(p69_1:Aa):Prop:=LI (EV (Dt L) (L+24) 5 c74.w.l.u.l.l) [0,1,2,6,14,15,16] [1,3,4,5] (Bho p69_0 p69_1) [.ret,.exit 0] (fun n v=>Js L p69_0 p69_1 n v.1 v.2.1 v.2.2.1 v.2.2.2) K n
def Blc(p69_0:List ByteArray)(Wi:Int)(Wh:Int)(p69_1:Aa)(M4:List ByteArray)(M5:List Bool):Bx:=(Cm Tryz.prog (Dt L) (EI (Dt L) (L+24) 5) 1 (List.drop 3 c74.w.l.u.l.l.w.l.l.u.l.ops) ⟨[(21,S (p69_0.getD (Int.toNat Wi) default)),(20,.clo 43 1 [.mp 5]),(2,.clo 43 1 [.mp 5]),(6,I Wh),(8,S (p69_0.getD (Int.toNat Wi) default)),(14,.lst false (.t9 p69_0)),(15,I (p69_0.length:Int)),(16,I Wi),(17,B (decide (Wi < (p69_0.length:Int)))),(18,.ref [S (p69_0.getD (Int.toNat Wi) default)]),(19,S (p69_0.getD (Int.toNat Wi) default))],[(1,Ae p69_1),(3,[.mp 5]),(4,[.clo 73 0 [.loc 3 0]]),(5,[.mapO false false (.t9 M4) (.t4 M5)])],6⟩ (some 22) (fun st9=>(Bl (EV (Dt L) (L+24) 5 c74.w.l.u.l.l.w.l.l.u.r) (Ay 1 (Bl (EV (Dt L) (L+24) 5 c74.w.l.u.l.l.w.r) (I7 (Ly (EV (Dt L) (L+24) 5 c74.w.l.u.l.l) [0,1,2,6,14,15,16] [1,3,4,5] n) [0,1,2,6,14,15,16] [1,3,4,5] K)))) .normal st9))
theorem B9t(p69_0:List ByteArray)(Wi:Int)(p69_1:Aa)(M4:List ByteArray)(M5:List Bool)(Wh:Int)(ih:Bo5 L n K p69_0 p69_1)(o47:Cs):Bic (p69_0.getD (Int.toNat Wi) default) p69_1 M4 M5 (Blc L n K p69_0 Wi Wh p69_1 M4 M5) o47=ob (Sp L Wi Wh (Js L p69_0 p69_1 n) o47) (kX [.ret,.exit 0] (Bho p69_0 p69_1) K):=eE (Sp L Wi Wh (fun Wh Wi M4 M5=>re (ih (Wh,Wi,M4,M5))) o47)
theorem B6p(p69_0:List ByteArray)(p69_1:Aa):∀n,Bo5 L n K p69_0 p69_1:=lE (fun _=>rfl) fun n v ih=>eE (X3 L p69_0 p69_1 (fun Wh Wi M4 M5=>re (ih (Wh,Wi,M4,M5))) v.1 v.2.1 v.2.2.1 v.2.2.2 (fun Wi M4 M5 Wh=>ho (Bxw L (Blc L n K p69_0 Wi Wh p69_1 M4 M5) (p69_0.getD (Int.toNat Wi) default) p69_1 M4 M5) fun o47=>B9t L n K p69_0 Wi p69_1 M4 M5 Wh ih o47))
def Am2(p69_0:List ByteArray)(p69_1:Aa)(p69_2:List ByteArray)(p69_3:List Bool)(k:Bx):Cs→Prop:=fun o=>k (I o.1) [(1,Ae p69_1),(3,[.mp 5]),(4,[.clo 73 0 [.loc 3 0]]),(5,[.mapO false false (.t9 o.2.1) (.t4 o.2.2)])]
def Adv [An A Cs](L:Nat)(o48:Nat×Tu4):A:=
 (sl o48.1 [(lf (o48.2.1,o48.2.2.2.1,o48.2.2.2.2)),
 (lf (0,o48.2.2.2.1,o48.2.2.2.2))])
def Bld:Be:=(Ay 0 (Bl (EV (Dt L) (L+24) 5 c74.w.r) (E5 Tryz.prog (RS Tryz.f74) k)))
theorem B9u(p69_0:List ByteArray)(p69_1:Aa)(p69_2:List ByteArray)(p69_3:List Bool)(o48:Nat×Tu4):kX [.ret,.exit 0] (Bho p69_0 p69_1) (Bld L k) o48=ob (Adv L o48) (Am2 p69_0 p69_1 p69_2 p69_3 k):=eE (Adv L o48)
def Ams [An A Cs](L:Nat)(p69_0:List ByteArray)(p69_1:Aa)(p69_2:List ByteArray)(p69_3:List Bool)(nx97:A):A:=
 (cn (decide ((p69_0.length:Int) > 32))
 (lf (6,p69_2,p69_3))
 nx97)
def Aw7 [An A Cs](p69_0:List ByteArray)(p69_1:Aa)(p69_2:List ByteArray)(p69_3:List Bool):A:=Ams L p69_0 p69_1 p69_2 p69_3 (bd (Js L p69_0 p69_1 (L+24) 0 0 p69_2 p69_3) fun o48=>Adv L o48)
def J6(p69_0:List ByteArray)(p69_1:Aa)(p69_2:List ByteArray)(p69_3:List Bool):Option Cs:=Aw7 L p69_0 p69_1 p69_2 p69_3
theorem Ave(p69_0:List ByteArray)(p69_1:Aa)(p69_2:List ByteArray)(p69_3:List Bool):YO (Dt L) (L+24) 6 74 [.lst false (.t9 p69_0),I 32,.clo 43 1 [.mp 5]] [(1,Ae p69_1),(3,[.mp 5]),(4,[.clo 73 0 [.loc 3 0]]),(5,[.mapO false false (.t9 p69_2) (.t4 p69_3)])] k=ob (J6 L p69_0 p69_1 p69_2 p69_3) (Am2 p69_0 p69_1 p69_2 p69_3 k):=(Dc _ _ _ jn4 _ _ _ _ _ _ _).trans (eE (Ams L p69_0 p69_1 p69_2 p69_3 (ho (B6p L (Bld L k) p69_0 p69_1 (L+24) (0,0,p69_2,p69_3)) fun o48=>B9u L k p69_0 p69_1 p69_2 p69_3 o48)))
def Bid(p78_0:ByteArray)(p78_1:Aa)(p78_2:List ByteArray)(p78_3:List Bool)(p78_4:Ai)(p78_5:Ai)(k:Bx):Cs→Prop:=fun o=>k (I o.1) [(1,Ae p78_1),(3,[.mp 5]),(4,[.clo 73 0 [.loc 3 0]]),(5,[.mapO false false (.t9 o.2.1) (.t4 o.2.2)]),(14,B3 p78_4),(17,B3 p78_5)]
def Ama [An A Cs](p78_0:ByteArray)(p78_1:Aa)(p78_2:List ByteArray)(p78_3:List Bool)(p78_4:Ai)(p78_5:Ai):A:=
 (bd (De L p78_0) fun r54=>
 (cn (r54 != 0)
 (lf (r54,p78_2,p78_3))
 (fq (p78_2.findIdx? fun b=>p78_0 == b) (fun i55=>
 (cn (p78_3.getD i55 default)
 (lf (4,p78_2,p78_3))
 (fq (p78_2.findIdx? fun b=>p78_0 == b) (fun i56=>
 (lf (0,p78_2,(p78_3.set i56 true))))
 (lf (0,(p78_2++ [p78_0]),(p78_3++ [true]))))))
 (fq (p78_2.findIdx? fun b=>p78_0 == b) (fun i57=>
 (lf (0,p78_2,(p78_3.set i57 true))))
 (lf (0,(p78_2++ [p78_0]),(p78_3++ [true])))))))
def Adc(p78_0:ByteArray)(p78_1:Aa)(p78_2:List ByteArray)(p78_3:List Bool)(p78_4:Ai)(p78_5:Ai):Option Cs:=Ama L p78_0 p78_1 p78_2 p78_3 p78_4 p78_5
theorem Bxz(p78_0:ByteArray)(p78_1:Aa)(p78_2:List ByteArray)(p78_3:List Bool)(p78_4:Ai)(p78_5:Ai):YO (Dt L) (L+24) 5 43 [.mp 5,S p78_0] [(1,Ae p78_1),(3,[.mp 5]),(4,[.clo 73 0 [.loc 3 0]]),(5,[.mapO false false (.t9 p78_2) (.t4 p78_3)]),(14,B3 p78_4),(17,B3 p78_5)] k=ob (Adc L p78_0 p78_1 p78_2 p78_3 p78_4 p78_5) (Bid p78_0 p78_1 p78_2 p78_3 p78_4 p78_5 k):=(Dc _ _ _ jn4 _ _ _ _ _ _ _).trans (eE (Ama L p78_0 p78_1 p78_2 p78_3 p78_4 p78_5))
def A87(p76_0:Ai)(p76_1:Aa)(p76_2:List ByteArray)(p76_3:List Bool)(p76_4:Ai)(k:Bx):Cs→Prop:=fun o=>k (I o.1) [(1,Ae p76_1),(3,[.mp 5]),(4,[.clo 73 0 [.loc 3 0]]),(5,[.mapO false false (.t9 o.2.1) (.t4 o.2.2)]),(14,B3 p76_4),(17,B3 p76_0)]
def Uw [An A Cs](p76_0:Ai)(o58:Cs):A:=
 (cn (o58.1 != 0)
 (lf (o58.1,o58.2.1,o58.2.2))
 (bd (Y3 L p76_0) fun r59=>
 (lf (r59,o58.2.1,o58.2.2))))
def Bdv(p76_0:Ai)(p76_1:Aa)(p76_2:List ByteArray)(p76_3:List Bool)(p76_4:Ai):Bx:=(Cm Tryz.prog (Dt L) (EI (Dt L) (L+24) 5) 1 (List.drop 4 c96.u.l.l.ops) ⟨[(7,S p76_0.Name),(6,.loc 17 0),(5,.mp 5),(1,.loc 3 0),(2,.loc 17 0),(3,I 0)],[(1,Ae p76_1),(3,[.mp 5]),(4,[.clo 73 0 [.loc 3 0]]),(5,[.mapO false false (.t9 p76_2) (.t4 p76_3)]),(14,B3 p76_4),(17,B3 p76_0)],15⟩ (some 8) (fun st9=>(Bl (EV (Dt L) (L+24) 5 c96.u.l.r) (Bl (EV (Dt L) (L+24) 5 c96.u.r) (E5 Tryz.prog (RS Tryz.f96) k))) .normal st9))
theorem Bz2(p76_0:Ai)(p76_1:Aa)(p76_2:List ByteArray)(p76_3:List Bool)(p76_4:Ai)(o58:Cs):Bid p76_0.Name p76_1 p76_2 p76_3 p76_4 p76_0 (Bdv L k p76_0 p76_1 p76_2 p76_3 p76_4) o58=ob (Uw L p76_0 o58) (A87 p76_0 p76_1 p76_2 p76_3 p76_4 k):=eE (Uw L p76_0 o58)
def Ab8 [An A Cs](L:Nat)(p76_0:Ai)(p76_1:Aa)(p76_2:List ByteArray)(p76_3:List Bool)(p76_4:Ai)(nx108:A):A:=
 nx108
def Al9 [An A Cs](p76_0:Ai)(p76_1:Aa)(p76_2:List ByteArray)(p76_3:List Bool)(p76_4:Ai):A:=Ab8 L p76_0 p76_1 p76_2 p76_3 p76_4 (bd (Adc L p76_0.Name p76_1 p76_2 p76_3 p76_4 p76_0) fun o58=>Uw L p76_0 o58)
def Nz(p76_0:Ai)(p76_1:Aa)(p76_2:List ByteArray)(p76_3:List Bool)(p76_4:Ai):Option Cs:=Al9 L p76_0 p76_1 p76_2 p76_3 p76_4
theorem Bxy(p76_0:Ai)(p76_1:Aa)(p76_2:List ByteArray)(p76_3:List Bool)(p76_4:Ai):YO (Dt L) (L+24) 6 96 [.agg (B3 p76_0),.loc 3 0] [(1,Ae p76_1),(3,[.mp 5]),(4,[.clo 73 0 [.loc 3 0]]),(5,[.mapO false false (.t9 p76_2) (.t4 p76_3)]),(14,B3 p76_4)] k=ob (Nz L p76_0 p76_1 p76_2 p76_3 p76_4) (A87 p76_0 p76_1 p76_2 p76_3 p76_4 k):=(Dc _ _ _ jn4 _ _ _ _ _ _ _).trans (eE (Ab8 L p76_0 p76_1 p76_2 p76_3 p76_4 (ho (Bxz L (Bdv L k p76_0 p76_1 p76_2 p76_3 p76_4) p76_0.Name p76_1 p76_2 p76_3 p76_4 p76_0) fun o58=>Bz2 L k p76_0 p76_1 p76_2 p76_3 p76_4 o58)))
def Bhp(p72_0:List Ai)(p72_1:Aa)(v:Tu4):St:=⟨[(0,.any),(1,.any),(2,.clo 96 0 [.loc 3 0]),(6,I v.1),(14,.lst false (.t60 p72_0)),(15,I (p72_0.length:Int)),(16,I v.2.1)],[(1,Ae p72_1),(3,[.mp 5]),(4,[.clo 73 0 [.loc 3 0]]),(5,[.mapO false false (.t9 v.2.2.1) (.t4 v.2.2.2)])],6⟩
def Qm [An A Sz](L:Nat)(Ub:Int)(Wj:Int)(rec:Int→Int→List ByteArray→List Bool→A)(o60:Cs):A:=
 (cn (o60.1 != 0)
 (lf (0,o60.1,Ub,o60.2.1,o60.2.2))
 (rec Wj (Da (Ub+1)) o60.2.1 o60.2.2))
def U3 [An A Sz](L:Nat)(p72_0:List Ai)(p72_1:Aa)(rec:Int→Int→List ByteArray→List Bool→A)(Wj:Int)(Ub:Int)(M6:List ByteArray)(M7:List Bool)(nx109:Int→(List ByteArray)→(List Bool)→Int→A):A:=
 (cn (decide (Ub < (p72_0.length:Int)))
 (gq (0≤Ub)
 (gq (Ub < (p72_0.length:Int))
 (nx109 Ub M6 M7 Wj)))
 (lf (1,Wj,Ub,M6,M7)))
def Agi [An A Sz](p72_0:List Ai)(p72_1:Aa)(rec:Int→Int→List ByteArray→List Bool→A)(Wj:Int)(Ub:Int)(M6:List ByteArray)(M7:List Bool):A:=U3 L p72_0 p72_1 rec Wj Ub M6 M7 (fun Ub M6 M7 Wj=>bd (Nz L (p72_0.getD (Int.toNat Ub) default) p72_1 M6 M7 (p72_0.getD (Int.toNat Ub) default)) fun o60=>Qm L Ub Wj rec o60)
def Jt(L:Nat)(p72_0:List Ai)(p72_1:Aa):Nat→Int→Int→List ByteArray→List Bool→Option Sz
 |0,_,_,_,_=>none
 |n+1,Wj,Ub,M6,M7=>Agi L p72_0 p72_1 (Jt L p72_0 p72_1 n) Wj Ub M6 M7
def Bo6(p72_0:List Ai)(p72_1:Aa):Prop:=LI (EV (Dt L) (L+24) 6 c95.w.l.u.l.l) [0,1,2,6,14,15,16] [1,3,4,5] (Bhp p72_0 p72_1) [.ret,.exit 0] (fun n v=>Jt L p72_0 p72_1 n v.1 v.2.1 v.2.2.1 v.2.2.2) K n
def Bdw(p72_0:List Ai)(Ub:Int)(Wj:Int)(p72_1:Aa)(M6:List ByteArray)(M7:List Bool):Bx:=(Cm Tryz.prog (Dt L) (EI (Dt L) (L+24) 6) 1 (List.drop 3 c95.w.l.u.l.l.w.l.l.u.l.ops) ⟨[(21,.agg (B3 (p72_0.getD (Int.toNat Ub) default))),(20,.clo 96 0 [.loc 3 0]),(2,.clo 96 0 [.loc 3 0]),(6,I Wj),(8,.loc 14 0),(14,.lst false (.t60 p72_0)),(15,I (p72_0.length:Int)),(16,I Ub),(17,B (decide (Ub < (p72_0.length:Int)))),(18,.ref (B3 (p72_0.getD (Int.toNat Ub) default))),(19,.agg (B3 (p72_0.getD (Int.toNat Ub) default)))],[(1,Ae p72_1),(3,[.mp 5]),(4,[.clo 73 0 [.loc 3 0]]),(5,[.mapO false false (.t9 M6) (.t4 M7)]),(14,(B3 (p72_0.getD (Int.toNat Ub) default)))],6⟩ (some 22) (fun st9=>(Bl (EV (Dt L) (L+24) 6 c95.w.l.u.l.l.w.l.l.u.r) (Ay 1 (Bl (EV (Dt L) (L+24) 6 c95.w.l.u.l.l.w.r) (I7 (Ly (EV (Dt L) (L+24) 6 c95.w.l.u.l.l) [0,1,2,6,14,15,16] [1,3,4,5] n) [0,1,2,6,14,15,16] [1,3,4,5] K)))) .normal st9))
theorem Bz3(p72_0:List Ai)(Ub:Int)(p72_1:Aa)(M6:List ByteArray)(M7:List Bool)(Wj:Int)(ih:Bo6 L n K p72_0 p72_1)(o60:Cs):A87 (p72_0.getD (Int.toNat Ub) default) p72_1 M6 M7 (p72_0.getD (Int.toNat Ub) default) (Bdw L n K p72_0 Ub Wj p72_1 M6 M7) o60=ob (Qm L Ub Wj (Jt L p72_0 p72_1 n) o60) (kX [.ret,.exit 0] (Bhp p72_0 p72_1) K):=eE (Qm L Ub Wj (fun Wj Ub M6 M7=>re (ih (Wj,Ub,M6,M7))) o60)
theorem B6q(p72_0:List Ai)(p72_1:Aa):∀n,Bo6 L n K p72_0 p72_1:=lE (fun _=>rfl) fun n v ih=>eE (U3 L p72_0 p72_1 (fun Wj Ub M6 M7=>re (ih (Wj,Ub,M6,M7))) v.1 v.2.1 v.2.2.1 v.2.2.2 (fun Ub M6 M7 Wj=>ho (Bxy L (Bdw L n K p72_0 Ub Wj p72_1 M6 M7) (p72_0.getD (Int.toNat Ub) default) p72_1 M6 M7 (p72_0.getD (Int.toNat Ub) default)) fun o60=>Bz3 L n K p72_0 Ub p72_1 M6 M7 Wj ih o60))
def A86(p72_0:List Ai)(p72_1:Aa)(p72_2:List ByteArray)(p72_3:List Bool)(k:Bx):Cs→Prop:=fun o=>k (I o.1) [(1,Ae p72_1),(3,[.mp 5]),(4,[.clo 73 0 [.loc 3 0]]),(5,[.mapO false false (.t9 o.2.1) (.t4 o.2.2)])]
def Aa9 [An A Cs](L:Nat)(o61:Nat×Tu4):A:=
 (sl o61.1 [(lf (o61.2.1,o61.2.2.2.1,o61.2.2.2.2)),
 (lf (0,o61.2.2.2.1,o61.2.2.2.2))])
def Bdx:Be:=(Ay 0 (Bl (EV (Dt L) (L+24) 6 c95.w.r) (E5 Tryz.prog (RS Tryz.f95) k)))
theorem Bz4(p72_0:List Ai)(p72_1:Aa)(p72_2:List ByteArray)(p72_3:List Bool)(o61:Nat×Tu4):kX [.ret,.exit 0] (Bhp p72_0 p72_1) (Bdx L k) o61=ob (Aa9 L o61) (A86 p72_0 p72_1 p72_2 p72_3 k):=eE (Aa9 L o61)
def Aj9 [An A Cs](L:Nat)(p72_0:List Ai)(p72_1:Aa)(p72_2:List ByteArray)(p72_3:List Bool)(nx110:A):A:=
 (cn (decide ((p72_0.length:Int) > 16))
 (lf (6,p72_2,p72_3))
 nx110)
def Aw8 [An A Cs](p72_0:List Ai)(p72_1:Aa)(p72_2:List ByteArray)(p72_3:List Bool):A:=Aj9 L p72_0 p72_1 p72_2 p72_3 (bd (Jt L p72_0 p72_1 (L+24) 0 0 p72_2 p72_3) fun o61=>Aa9 L o61)
def Adb(p72_0:List Ai)(p72_1:Aa)(p72_2:List ByteArray)(p72_3:List Bool):Option Cs:=Aw8 L p72_0 p72_1 p72_2 p72_3
theorem Bxx(p72_0:List Ai)(p72_1:Aa)(p72_2:List ByteArray)(p72_3:List Bool):YO (Dt L) (L+24) 7 95 [.lst false (.t60 p72_0),I 16,.clo 96 0 [.loc 3 0]] [(1,Ae p72_1),(3,[.mp 5]),(4,[.clo 73 0 [.loc 3 0]]),(5,[.mapO false false (.t9 p72_2) (.t4 p72_3)])] k=ob (Adb L p72_0 p72_1 p72_2 p72_3) (A86 p72_0 p72_1 p72_2 p72_3 k):=(Dc _ _ _ jn4 _ _ _ _ _ _ _).trans (eE (Aj9 L p72_0 p72_1 p72_2 p72_3 (ho (B6q L (Bdx L k) p72_0 p72_1 (L+24) (0,0,p72_2,p72_3)) fun o61=>Bz4 L k p72_0 p72_1 p72_2 p72_3 o61)))
def Btn(p79_0:List Bh)(p79_1:Aa)(p79_2:List ByteArray)(p79_3:List Bool)(v:Cw):St:=⟨[(0,.any),(1,.any),(2,.clo 100 0 [.loc 1 0]),(6,I v.1),(14,.lst false (.t133 p79_0)),(15,I (p79_0.length:Int)),(16,I v.2)],[(1,Ae p79_1),(3,[.mp 5]),(4,[.clo 73 0 [.loc 3 0]]),(5,[.mapO false false (.t9 p79_2) (.t4 p79_3)])],6⟩
def Zh [An A Cx](p79_0:List Bh)(p79_1:Aa)(p79_2:List ByteArray)(p79_3:List Bool)(rec:Int→Int→A)(Ao5:Int)(A5f:Int):A:=
 (cn (decide (A5f < (p79_0.length:Int)))
 (gq (0≤A5f)
 (gq (A5f < (p79_0.length:Int))
 (bd (Ud L p79_1 (p79_0.getD (Int.toNat A5f) default)) fun r63=>
 (cn (r63 != 0)
 (lf (0,r63,A5f))
 (rec Ao5 (Da (A5f+1)))))))
 (lf (1,Ao5,A5f)))
def Mb(L:Nat)(p79_0:List Bh)(p79_1:Aa)(p79_2:List ByteArray)(p79_3:List Bool):Nat→Int→Int→Option Cx
 |0,_,_=>none
 |n+1,Ao5,A5f=>Zh L p79_0 p79_1 p79_2 p79_3 (Mb L p79_0 p79_1 p79_2 p79_3 n) Ao5 A5f
theorem B6r(p79_0:List Bh)(p79_1:Aa)(p79_2:List ByteArray)(p79_3:List Bool):LP (EV (Dt L) (L+24) 6 c99.w.l.u.l.l) [0,1,2,6,14,15,16] [1,3,4,5] (Btn p79_0 p79_1 p79_2 p79_3) [.ret,.exit 0] (fun n v=>Mb L p79_0 p79_1 p79_2 p79_3 n v.1 v.2) K:=lE (fun _=>rfl) fun n v ih=>eE (Zh L p79_0 p79_1 p79_2 p79_3 (fun Ao5 A5f=>re (ih (Ao5,A5f))) v.1 v.2)
def A88(p79_0:List Bh)(p79_1:Aa)(p79_2:List ByteArray)(p79_3:List Bool)(k:Bx):Int→Prop:=fun o=>k (I o) [(1,Ae p79_1),(3,[.mp 5]),(4,[.clo 73 0 [.loc 3 0]]),(5,[.mapO false false (.t9 p79_2) (.t4 p79_3)])]
def Abb [An A Int](L:Nat)(o64:Nat×Cw):A:=
 (sl o64.1 [(lf o64.2.1),
 (lf 0)])
def Bdz:Be:=(Ay 0 (Bl (EV (Dt L) (L+24) 6 c99.w.r) (E5 Tryz.prog (RS Tryz.f99) k)))
theorem Bz6(p79_0:List Bh)(p79_1:Aa)(p79_2:List ByteArray)(p79_3:List Bool)(o64:Nat×Cw):kX [.ret,.exit 0] (Btn p79_0 p79_1 p79_2 p79_3) (Bdz L k) o64=ob (Abb L o64) (A88 p79_0 p79_1 p79_2 p79_3 k):=eE (Abb L o64)
def Aka [An A Int](L:Nat)(p79_0:List Bh)(p79_1:Aa)(p79_2:List ByteArray)(p79_3:List Bool)(nx113:A):A:=
 (cn (decide ((p79_0.length:Int) > 32))
 (lf 6)
 nx113)
def Aw9 [An A Int](p79_0:List Bh)(p79_1:Aa)(p79_2:List ByteArray)(p79_3:List Bool):A:=Aka L p79_0 p79_1 p79_2 p79_3 (bd (Mb L p79_0 p79_1 p79_2 p79_3 (L+24) 0 0) fun o64=>Abb L o64)
def Ade(p79_0:List Bh)(p79_1:Aa)(p79_2:List ByteArray)(p79_3:List Bool):Option Int:=Aw9 L p79_0 p79_1 p79_2 p79_3
theorem Bx0(p79_0:List Bh)(p79_1:Aa)(p79_2:List ByteArray)(p79_3:List Bool):YO (Dt L) (L+24) 7 99 [.lst false (.t133 p79_0),I 32,.clo 100 0 [.loc 1 0]] [(1,Ae p79_1),(3,[.mp 5]),(4,[.clo 73 0 [.loc 3 0]]),(5,[.mapO false false (.t9 p79_2) (.t4 p79_3)])] k=ob (Ade L p79_0 p79_1 p79_2 p79_3) (A88 p79_0 p79_1 p79_2 p79_3 k):=(Dc _ _ _ jn4 _ _ _ _ _ _ _).trans (eE (Aka L p79_0 p79_1 p79_2 p79_3 (ho (B6r L (Bdz L k) p79_0 p79_1 p79_2 p79_3 (L+24) (0,0)) fun o64=>Bz6 L k p79_0 p79_1 p79_2 p79_3 o64)))
def Acl(p1_0:Aa)(k:Bx):Cs→Prop:=fun o=>k (I o.1) [(1,Ae p1_0),(3,[.mp 5]),(4,[.clo 73 0 [.loc 3 0]]),(5,[.mapO false false (.t9 o.2.1) (.t4 o.2.2)])]
def Ux [An A Cs](o62:Cs)(p1_0:Aa)(o65:Int):A:=
 (cn (o65 != 0)
 (lf (o65,o62.2.1,o62.2.2))
 (gq (0≤11)
 (gq (11 < ((12:Nat):Int))
 (bd (Ag9 L p1_0) fun r66=>
 (cn (r66 != 0)
 (lf (r66,o62.2.1,o62.2.2))
 (lf (0,o62.2.1,o62.2.2)))))))
def Bd0(p1_0:Aa)(o62:Cs):Bx:=(Cm Tryz.prog (Dt L) (EI (Dt L) (L+24) 7) 1 (List.drop 4 c98.u.l.ops) ⟨[(4,.clo 100 0 [.loc 1 0]),(3,.lst false (.t133 p1_0.Starts)),(2,.loc 1 11),(0,.loc 1 0),(1,I 0)],[(1,Ae p1_0),(3,[.mp 5]),(4,[.clo 73 0 [.loc 3 0]]),(5,[.mapO false false (.t9 o62.2.1) (.t4 o62.2.2)])],6⟩ (some 5) (fun st9=>(Bl (EV (Dt L) (L+24) 7 c98.u.r) (E5 Tryz.prog (RS Tryz.f98) (Cm Tryz.prog (Dt L) (EI (Dt L) (L+24) 8) 1 (List.drop 2 c75.u.l.u.l.l.w.l.l.u.l.ops) ⟨[(12,.clo 98 0 [.loc 1 0]),(2,I 0),(4,.clo 98 0 [.loc 1 0]),(6,.sl false 110 1 [[.clo 76 0 [.loc 3 0,.loc 1 0]],[.clo 77 0 [.loc 1 0,.loc 3 0]],[.clo 83 0 [.loc 1 0,.loc 3 0]],[.clo 86 0 [.loc 1 0,.loc 3 0]],[.clo 89 0 [.loc 4 0,.loc 1 0]],[.clo 90 0 [.loc 4 0,.loc 1 0]],[.clo 91 0 [.loc 4 0,.loc 1 0]],[.clo 92 0 [.loc 4 0,.loc 1 0]],[.clo 93 0 [.loc 4 0,.loc 1 0]],[.clo 94 0 [.loc 1 0,.loc 3 0]],[.clo 98 0 [.loc 1 0]],[.clo 102 0 [.loc 1 0]]]),(7,I 12),(8,I 10),(9,B true),(10,.ref [.clo 98 0 [.loc 1 0]]),(11,.clo 98 0 [.loc 1 0])],[(1,Ae p1_0),(3,[.mp 5]),(4,[.clo 73 0 [.loc 3 0]]),(5,[.mapO false false (.t9 o62.2.1) (.t4 o62.2.2)])],6⟩ (some 13) (fun st9=>(Bl (EV (Dt L) (L+24) 8 c75.u.l.u.l.l.w.l.l.u.r) (Ay 1 (Bl (EV (Dt L) (L+24) 8 c75.u.l.u.l.l.w.r) (I7 (Ly (EV (Dt L) (L+24) 8 c75.u.l.u.l.l) [0,2,6,7,8] [1,3,4,5] (L+13)) [0,2,6,7,8] [1,3,4,5] (Ain L k))))) .normal st9)))) .normal st9))
theorem Bz7(p1_0:Aa)(o62:Cs)(o65:Int):A88 p1_0.Starts p1_0 o62.2.1 o62.2.2 (Bd0 L k p1_0 o62) o65=ob (Ux L o62 p1_0 o65) (Acl p1_0 k):=eE (Ux L o62 p1_0 o65)
def Aca [An A Cs](L:Nat)(p1_0:Aa)(o62:Cs)(nx114:Cs→A):A:=
 (cn (o62.1 != 0)
 (lf (o62.1,o62.2.1,o62.2.2))
 (gq (0≤10)
 (gq (10 < ((12:Nat):Int))
 (nx114 o62))))
def Aba [An A Cs](p1_0:Aa)(o62:Cs):A:=Aca L p1_0 o62 (fun o62=>bd (Ade L p1_0.Starts p1_0 o62.2.1 o62.2.2) fun o65=>Ux L o62 p1_0 o65)
def Bdy(p1_0:Aa)(o53:Cs):Bx:=(Cm Tryz.prog (Dt L) (EI (Dt L) (L+24) 7) 1 (List.drop 4 c94.u.l.ops) ⟨[(5,.clo 96 0 [.loc 3 0]),(4,.lst false (.t60 p1_0.Routines)),(3,.loc 1 10),(0,.loc 1 0),(1,.loc 3 0),(2,I 0)],[(1,Ae p1_0),(3,[.mp 5]),(4,[.clo 73 0 [.loc 3 0]]),(5,[.mapO false false (.t9 o53.2.1) (.t4 o53.2.2)])],6⟩ (some 6) (fun st9=>(Bl (EV (Dt L) (L+24) 7 c94.u.r) (E5 Tryz.prog (RS Tryz.f94) (Cm Tryz.prog (Dt L) (EI (Dt L) (L+24) 8) 1 (List.drop 2 c75.u.l.u.l.l.w.l.l.u.l.ops) ⟨[(12,.clo 94 0 [.loc 1 0,.loc 3 0]),(2,I 0),(4,.clo 94 0 [.loc 1 0,.loc 3 0]),(6,.sl false 110 1 [[.clo 76 0 [.loc 3 0,.loc 1 0]],[.clo 77 0 [.loc 1 0,.loc 3 0]],[.clo 83 0 [.loc 1 0,.loc 3 0]],[.clo 86 0 [.loc 1 0,.loc 3 0]],[.clo 89 0 [.loc 4 0,.loc 1 0]],[.clo 90 0 [.loc 4 0,.loc 1 0]],[.clo 91 0 [.loc 4 0,.loc 1 0]],[.clo 92 0 [.loc 4 0,.loc 1 0]],[.clo 93 0 [.loc 4 0,.loc 1 0]],[.clo 94 0 [.loc 1 0,.loc 3 0]],[.clo 98 0 [.loc 1 0]],[.clo 102 0 [.loc 1 0]]]),(7,I 12),(8,I 9),(9,B true),(10,.ref [.clo 94 0 [.loc 1 0,.loc 3 0]]),(11,.clo 94 0 [.loc 1 0,.loc 3 0])],[(1,Ae p1_0),(3,[.mp 5]),(4,[.clo 73 0 [.loc 3 0]]),(5,[.mapO false false (.t9 o53.2.1) (.t4 o53.2.2)])],6⟩ (some 13) (fun st9=>(Bl (EV (Dt L) (L+24) 8 c75.u.l.u.l.l.w.l.l.u.r) (Ay 1 (Bl (EV (Dt L) (L+24) 8 c75.u.l.u.l.l.w.r) (I7 (Ly (EV (Dt L) (L+24) 8 c75.u.l.u.l.l) [0,2,6,7,8] [1,3,4,5] (L+14)) [0,2,6,7,8] [1,3,4,5] (Ain L k))))) .normal st9)))) .normal st9))
theorem Bz5(p1_0:Aa)(o53:Cs)(o62:Cs):A86 p1_0.Routines p1_0 o53.2.1 o53.2.2 (Bdy L k p1_0 o53) o62=ob (Aba L p1_0 o62) (Acl p1_0 k):=eE (Aca L p1_0 o62 (fun o62=>ho (Bx0 L (Bd0 L k p1_0 o62) p1_0.Starts p1_0 o62.2.1 o62.2.2) fun o65=>Bz7 L k p1_0 o62 o65))
def Ab9 [An A Cs](L:Nat)(p1_0:Aa)(o53:Cs)(nx111:Cs→A):A:=
 (cn (o53.1 != 0)
 (lf (o53.1,o53.2.1,o53.2.2))
 (gq (0≤9)
 (gq (9 < ((12:Nat):Int))
 (nx111 o53))))
def Aa8 [An A Cs](p1_0:Aa)(o53:Cs):A:=Ab9 L p1_0 o53 (fun o53=>bd (Adb L p1_0.Routines p1_0 o53.2.1 o53.2.2) fun o62=>Aba L p1_0 o62)
def Bdu(p1_0:Aa)(o52:Cs):Bx:=(Cm Tryz.prog (Dt L) (EI (Dt L) (L+24) 6) 1 (List.drop 4 c73.u.l.ops) ⟨[(6,.clo 43 1 [.mp 5]),(5,.mp 5),(4,.lst false (.t9 p1_0.Counts)),(0,.lst false (.t9 p1_0.Counts)),(1,.loc 3 0),(3,I 0)],[(1,Ae p1_0),(3,[.mp 5]),(4,[.clo 73 0 [.loc 3 0]]),(5,[.mapO false false (.t9 o52.2.1) (.t4 o52.2.2)])],6⟩ (some 7) (fun st9=>(Bl (EV (Dt L) (L+24) 6 c73.u.r) (E5 Tryz.prog (RS Tryz.f73) (Cm Tryz.prog (Dt L) (EI (Dt L) (L+24) 7) 1 (List.drop 4 c93.u.l.ops) ⟨[(5,.lst false (.t9 p1_0.Counts)),(4,.loc 1 9),(3,.clo 73 0 [.loc 3 0]),(0,.loc 4 0),(1,.loc 1 0),(2,I 0)],[(1,Ae p1_0),(3,[.mp 5]),(4,[.clo 73 0 [.loc 3 0]]),(5,[.mapO false false (.t9 o52.2.1) (.t4 o52.2.2)])],6⟩ (some 6) (fun st9=>(Bl (EV (Dt L) (L+24) 7 c93.u.r) (E5 Tryz.prog (RS Tryz.f93) (Cm Tryz.prog (Dt L) (EI (Dt L) (L+24) 8) 1 (List.drop 2 c75.u.l.u.l.l.w.l.l.u.l.ops) ⟨[(12,.clo 93 0 [.loc 4 0,.loc 1 0]),(2,I 0),(4,.clo 93 0 [.loc 4 0,.loc 1 0]),(6,.sl false 110 1 [[.clo 76 0 [.loc 3 0,.loc 1 0]],[.clo 77 0 [.loc 1 0,.loc 3 0]],[.clo 83 0 [.loc 1 0,.loc 3 0]],[.clo 86 0 [.loc 1 0,.loc 3 0]],[.clo 89 0 [.loc 4 0,.loc 1 0]],[.clo 90 0 [.loc 4 0,.loc 1 0]],[.clo 91 0 [.loc 4 0,.loc 1 0]],[.clo 92 0 [.loc 4 0,.loc 1 0]],[.clo 93 0 [.loc 4 0,.loc 1 0]],[.clo 94 0 [.loc 1 0,.loc 3 0]],[.clo 98 0 [.loc 1 0]],[.clo 102 0 [.loc 1 0]]]),(7,I 12),(8,I 8),(9,B true),(10,.ref [.clo 93 0 [.loc 4 0,.loc 1 0]]),(11,.clo 93 0 [.loc 4 0,.loc 1 0])],[(1,Ae p1_0),(3,[.mp 5]),(4,[.clo 73 0 [.loc 3 0]]),(5,[.mapO false false (.t9 o52.2.1) (.t4 o52.2.2)])],6⟩ (some 13) (fun st9=>(Bl (EV (Dt L) (L+24) 8 c75.u.l.u.l.l.w.l.l.u.r) (Ay 1 (Bl (EV (Dt L) (L+24) 8 c75.u.l.u.l.l.w.r) (I7 (Ly (EV (Dt L) (L+24) 8 c75.u.l.u.l.l) [0,2,6,7,8] [1,3,4,5] (L+15)) [0,2,6,7,8] [1,3,4,5] (Ain L k))))) .normal st9)))) .normal st9)))) .normal st9))
theorem Bz1(p1_0:Aa)(o52:Cs)(o53:Cs):Am2 p1_0.Counts p1_0 o52.2.1 o52.2.2 (Bdu L k p1_0 o52) o53=ob (Aa8 L p1_0 o53) (Acl p1_0 k):=eE (Ab9 L p1_0 o53 (fun o53=>ho (Bxx L (Bdy L k p1_0 o53) p1_0.Routines p1_0 o53.2.1 o53.2.2) fun o62=>Bz5 L k p1_0 o53 o62))
def Ab7 [An A Cs](L:Nat)(p1_0:Aa)(o52:Cs)(nx102:Cs→A):A:=
 (cn (o52.1 != 0)
 (lf (o52.1,o52.2.1,o52.2.2))
 (gq (0≤8)
 (gq (8 < ((12:Nat):Int))
 (nx102 o52))))
def Aa7 [An A Cs](p1_0:Aa)(o52:Cs):A:=Ab7 L p1_0 o52 (fun o52=>bd (J6 L p1_0.Counts p1_0 o52.2.1 o52.2.2) fun o53=>Aa8 L p1_0 o53)
def Bdt(p1_0:Aa)(o51:Cs):Bx:=(Cm Tryz.prog (Dt L) (EI (Dt L) (L+24) 6) 1 (List.drop 4 c73.u.l.ops) ⟨[(6,.clo 43 1 [.mp 5]),(5,.mp 5),(4,.lst false (.t9 p1_0.Levels)),(0,.lst false (.t9 p1_0.Levels)),(1,.loc 3 0),(3,I 0)],[(1,Ae p1_0),(3,[.mp 5]),(4,[.clo 73 0 [.loc 3 0]]),(5,[.mapO false false (.t9 o51.2.1) (.t4 o51.2.2)])],6⟩ (some 7) (fun st9=>(Bl (EV (Dt L) (L+24) 6 c73.u.r) (E5 Tryz.prog (RS Tryz.f73) (Cm Tryz.prog (Dt L) (EI (Dt L) (L+24) 7) 1 (List.drop 4 c92.u.l.ops) ⟨[(5,.lst false (.t9 p1_0.Levels)),(4,.loc 1 8),(3,.clo 73 0 [.loc 3 0]),(0,.loc 4 0),(1,.loc 1 0),(2,I 0)],[(1,Ae p1_0),(3,[.mp 5]),(4,[.clo 73 0 [.loc 3 0]]),(5,[.mapO false false (.t9 o51.2.1) (.t4 o51.2.2)])],6⟩ (some 6) (fun st9=>(Bl (EV (Dt L) (L+24) 7 c92.u.r) (E5 Tryz.prog (RS Tryz.f92) (Cm Tryz.prog (Dt L) (EI (Dt L) (L+24) 8) 1 (List.drop 2 c75.u.l.u.l.l.w.l.l.u.l.ops) ⟨[(12,.clo 92 0 [.loc 4 0,.loc 1 0]),(2,I 0),(4,.clo 92 0 [.loc 4 0,.loc 1 0]),(6,.sl false 110 1 [[.clo 76 0 [.loc 3 0,.loc 1 0]],[.clo 77 0 [.loc 1 0,.loc 3 0]],[.clo 83 0 [.loc 1 0,.loc 3 0]],[.clo 86 0 [.loc 1 0,.loc 3 0]],[.clo 89 0 [.loc 4 0,.loc 1 0]],[.clo 90 0 [.loc 4 0,.loc 1 0]],[.clo 91 0 [.loc 4 0,.loc 1 0]],[.clo 92 0 [.loc 4 0,.loc 1 0]],[.clo 93 0 [.loc 4 0,.loc 1 0]],[.clo 94 0 [.loc 1 0,.loc 3 0]],[.clo 98 0 [.loc 1 0]],[.clo 102 0 [.loc 1 0]]]),(7,I 12),(8,I 7),(9,B true),(10,.ref [.clo 92 0 [.loc 4 0,.loc 1 0]]),(11,.clo 92 0 [.loc 4 0,.loc 1 0])],[(1,Ae p1_0),(3,[.mp 5]),(4,[.clo 73 0 [.loc 3 0]]),(5,[.mapO false false (.t9 o51.2.1) (.t4 o51.2.2)])],6⟩ (some 13) (fun st9=>(Bl (EV (Dt L) (L+24) 8 c75.u.l.u.l.l.w.l.l.u.r) (Ay 1 (Bl (EV (Dt L) (L+24) 8 c75.u.l.u.l.l.w.r) (I7 (Ly (EV (Dt L) (L+24) 8 c75.u.l.u.l.l) [0,2,6,7,8] [1,3,4,5] (L+16)) [0,2,6,7,8] [1,3,4,5] (Ain L k))))) .normal st9)))) .normal st9)))) .normal st9))
theorem Bz0(p1_0:Aa)(o51:Cs)(o52:Cs):Am2 p1_0.Levels p1_0 o51.2.1 o51.2.2 (Bdt L k p1_0 o51) o52=ob (Aa7 L p1_0 o52) (Acl p1_0 k):=eE (Ab7 L p1_0 o52 (fun o52=>ho (Ave L (Bdu L k p1_0 o52) p1_0.Counts p1_0 o52.2.1 o52.2.2) fun o53=>Bz1 L k p1_0 o52 o53))
def Ab6 [An A Cs](L:Nat)(p1_0:Aa)(o51:Cs)(nx101:Cs→A):A:=
 (cn (o51.1 != 0)
 (lf (o51.1,o51.2.1,o51.2.2))
 (gq (0≤7)
 (gq (7 < ((12:Nat):Int))
 (nx101 o51))))
def Aa6 [An A Cs](p1_0:Aa)(o51:Cs):A:=Ab6 L p1_0 o51 (fun o51=>bd (J6 L p1_0.Levels p1_0 o51.2.1 o51.2.2) fun o52=>Aa7 L p1_0 o52)
def Bds(p1_0:Aa)(o50:Cs):Bx:=(Cm Tryz.prog (Dt L) (EI (Dt L) (L+24) 6) 1 (List.drop 4 c73.u.l.ops) ⟨[(6,.clo 43 1 [.mp 5]),(5,.mp 5),(4,.lst false (.t9 p1_0.Tallies)),(0,.lst false (.t9 p1_0.Tallies)),(1,.loc 3 0),(3,I 0)],[(1,Ae p1_0),(3,[.mp 5]),(4,[.clo 73 0 [.loc 3 0]]),(5,[.mapO false false (.t9 o50.2.1) (.t4 o50.2.2)])],6⟩ (some 7) (fun st9=>(Bl (EV (Dt L) (L+24) 6 c73.u.r) (E5 Tryz.prog (RS Tryz.f73) (Cm Tryz.prog (Dt L) (EI (Dt L) (L+24) 7) 1 (List.drop 4 c91.u.l.ops) ⟨[(5,.lst false (.t9 p1_0.Tallies)),(4,.loc 1 7),(3,.clo 73 0 [.loc 3 0]),(0,.loc 4 0),(1,.loc 1 0),(2,I 0)],[(1,Ae p1_0),(3,[.mp 5]),(4,[.clo 73 0 [.loc 3 0]]),(5,[.mapO false false (.t9 o50.2.1) (.t4 o50.2.2)])],6⟩ (some 6) (fun st9=>(Bl (EV (Dt L) (L+24) 7 c91.u.r) (E5 Tryz.prog (RS Tryz.f91) (Cm Tryz.prog (Dt L) (EI (Dt L) (L+24) 8) 1 (List.drop 2 c75.u.l.u.l.l.w.l.l.u.l.ops) ⟨[(12,.clo 91 0 [.loc 4 0,.loc 1 0]),(2,I 0),(4,.clo 91 0 [.loc 4 0,.loc 1 0]),(6,.sl false 110 1 [[.clo 76 0 [.loc 3 0,.loc 1 0]],[.clo 77 0 [.loc 1 0,.loc 3 0]],[.clo 83 0 [.loc 1 0,.loc 3 0]],[.clo 86 0 [.loc 1 0,.loc 3 0]],[.clo 89 0 [.loc 4 0,.loc 1 0]],[.clo 90 0 [.loc 4 0,.loc 1 0]],[.clo 91 0 [.loc 4 0,.loc 1 0]],[.clo 92 0 [.loc 4 0,.loc 1 0]],[.clo 93 0 [.loc 4 0,.loc 1 0]],[.clo 94 0 [.loc 1 0,.loc 3 0]],[.clo 98 0 [.loc 1 0]],[.clo 102 0 [.loc 1 0]]]),(7,I 12),(8,I 6),(9,B true),(10,.ref [.clo 91 0 [.loc 4 0,.loc 1 0]]),(11,.clo 91 0 [.loc 4 0,.loc 1 0])],[(1,Ae p1_0),(3,[.mp 5]),(4,[.clo 73 0 [.loc 3 0]]),(5,[.mapO false false (.t9 o50.2.1) (.t4 o50.2.2)])],6⟩ (some 13) (fun st9=>(Bl (EV (Dt L) (L+24) 8 c75.u.l.u.l.l.w.l.l.u.r) (Ay 1 (Bl (EV (Dt L) (L+24) 8 c75.u.l.u.l.l.w.r) (I7 (Ly (EV (Dt L) (L+24) 8 c75.u.l.u.l.l) [0,2,6,7,8] [1,3,4,5] (L+17)) [0,2,6,7,8] [1,3,4,5] (Ain L k))))) .normal st9)))) .normal st9)))) .normal st9))
theorem Bzz(p1_0:Aa)(o50:Cs)(o51:Cs):Am2 p1_0.Tallies p1_0 o50.2.1 o50.2.2 (Bds L k p1_0 o50) o51=ob (Aa6 L p1_0 o51) (Acl p1_0 k):=eE (Ab6 L p1_0 o51 (fun o51=>ho (Ave L (Bdt L k p1_0 o51) p1_0.Levels p1_0 o51.2.1 o51.2.2) fun o52=>Bz0 L k p1_0 o51 o52))
def Ab5 [An A Cs](L:Nat)(p1_0:Aa)(o50:Cs)(nx100:Cs→A):A:=
 (cn (o50.1 != 0)
 (lf (o50.1,o50.2.1,o50.2.2))
 (gq (0≤6)
 (gq (6 < ((12:Nat):Int))
 (nx100 o50))))
def Adx [An A Cs](p1_0:Aa)(o50:Cs):A:=Ab5 L p1_0 o50 (fun o50=>bd (J6 L p1_0.Tallies p1_0 o50.2.1 o50.2.2) fun o51=>Aa6 L p1_0 o51)
def Blf(p1_0:Aa)(o49:Cs):Bx:=(Cm Tryz.prog (Dt L) (EI (Dt L) (L+24) 6) 1 (List.drop 4 c73.u.l.ops) ⟨[(6,.clo 43 1 [.mp 5]),(5,.mp 5),(4,.lst false (.t9 p1_0.Streams)),(0,.lst false (.t9 p1_0.Streams)),(1,.loc 3 0),(3,I 0)],[(1,Ae p1_0),(3,[.mp 5]),(4,[.clo 73 0 [.loc 3 0]]),(5,[.mapO false false (.t9 o49.2.1) (.t4 o49.2.2)])],6⟩ (some 7) (fun st9=>(Bl (EV (Dt L) (L+24) 6 c73.u.r) (E5 Tryz.prog (RS Tryz.f73) (Cm Tryz.prog (Dt L) (EI (Dt L) (L+24) 7) 1 (List.drop 4 c90.u.l.ops) ⟨[(5,.lst false (.t9 p1_0.Streams)),(4,.loc 1 6),(3,.clo 73 0 [.loc 3 0]),(0,.loc 4 0),(1,.loc 1 0),(2,I 0)],[(1,Ae p1_0),(3,[.mp 5]),(4,[.clo 73 0 [.loc 3 0]]),(5,[.mapO false false (.t9 o49.2.1) (.t4 o49.2.2)])],6⟩ (some 6) (fun st9=>(Bl (EV (Dt L) (L+24) 7 c90.u.r) (E5 Tryz.prog (RS Tryz.f90) (Cm Tryz.prog (Dt L) (EI (Dt L) (L+24) 8) 1 (List.drop 2 c75.u.l.u.l.l.w.l.l.u.l.ops) ⟨[(12,.clo 90 0 [.loc 4 0,.loc 1 0]),(2,I 0),(4,.clo 90 0 [.loc 4 0,.loc 1 0]),(6,.sl false 110 1 [[.clo 76 0 [.loc 3 0,.loc 1 0]],[.clo 77 0 [.loc 1 0,.loc 3 0]],[.clo 83 0 [.loc 1 0,.loc 3 0]],[.clo 86 0 [.loc 1 0,.loc 3 0]],[.clo 89 0 [.loc 4 0,.loc 1 0]],[.clo 90 0 [.loc 4 0,.loc 1 0]],[.clo 91 0 [.loc 4 0,.loc 1 0]],[.clo 92 0 [.loc 4 0,.loc 1 0]],[.clo 93 0 [.loc 4 0,.loc 1 0]],[.clo 94 0 [.loc 1 0,.loc 3 0]],[.clo 98 0 [.loc 1 0]],[.clo 102 0 [.loc 1 0]]]),(7,I 12),(8,I 5),(9,B true),(10,.ref [.clo 90 0 [.loc 4 0,.loc 1 0]]),(11,.clo 90 0 [.loc 4 0,.loc 1 0])],[(1,Ae p1_0),(3,[.mp 5]),(4,[.clo 73 0 [.loc 3 0]]),(5,[.mapO false false (.t9 o49.2.1) (.t4 o49.2.2)])],6⟩ (some 13) (fun st9=>(Bl (EV (Dt L) (L+24) 8 c75.u.l.u.l.l.w.l.l.u.r) (Ay 1 (Bl (EV (Dt L) (L+24) 8 c75.u.l.u.l.l.w.r) (I7 (Ly (EV (Dt L) (L+24) 8 c75.u.l.u.l.l) [0,2,6,7,8] [1,3,4,5] (L+18)) [0,2,6,7,8] [1,3,4,5] (Ain L k))))) .normal st9)))) .normal st9)))) .normal st9))
theorem B9w(p1_0:Aa)(o49:Cs)(o50:Cs):Am2 p1_0.Streams p1_0 o49.2.1 o49.2.2 (Blf L k p1_0 o49) o50=ob (Adx L p1_0 o50) (Acl p1_0 k):=eE (Ab5 L p1_0 o50 (fun o50=>ho (Ave L (Bds L k p1_0 o50) p1_0.Tallies p1_0 o50.2.1 o50.2.2) fun o51=>Bzz L k p1_0 o50 o51))
def Aeh [An A Cs](L:Nat)(p1_0:Aa)(o49:Cs)(nx99:Cs→A):A:=
 (cn (o49.1 != 0)
 (lf (o49.1,o49.2.1,o49.2.2))
 (gq (0≤5)
 (gq (5 < ((12:Nat):Int))
 (nx99 o49))))
def Adw [An A Cs](p1_0:Aa)(o49:Cs):A:=Aeh L p1_0 o49 (fun o49=>bd (J6 L p1_0.Streams p1_0 o49.2.1 o49.2.2) fun o50=>Adx L p1_0 o50)
def Ble(p1_0:Aa)(o42:Cs):Bx:=(Cm Tryz.prog (Dt L) (EI (Dt L) (L+24) 6) 1 (List.drop 4 c73.u.l.ops) ⟨[(6,.clo 43 1 [.mp 5]),(5,.mp 5),(4,.lst false (.t9 p1_0.Queues)),(0,.lst false (.t9 p1_0.Queues)),(1,.loc 3 0),(3,I 0)],[(1,Ae p1_0),(3,[.mp 5]),(4,[.clo 73 0 [.loc 3 0]]),(5,[.mapO false false (.t9 o42.2.1) (.t4 o42.2.2)])],6⟩ (some 7) (fun st9=>(Bl (EV (Dt L) (L+24) 6 c73.u.r) (E5 Tryz.prog (RS Tryz.f73) (Cm Tryz.prog (Dt L) (EI (Dt L) (L+24) 7) 1 (List.drop 4 c89.u.l.ops) ⟨[(5,.lst false (.t9 p1_0.Queues)),(4,.loc 1 5),(3,.clo 73 0 [.loc 3 0]),(0,.loc 4 0),(1,.loc 1 0),(2,I 0)],[(1,Ae p1_0),(3,[.mp 5]),(4,[.clo 73 0 [.loc 3 0]]),(5,[.mapO false false (.t9 o42.2.1) (.t4 o42.2.2)])],6⟩ (some 6) (fun st9=>(Bl (EV (Dt L) (L+24) 7 c89.u.r) (E5 Tryz.prog (RS Tryz.f89) (Cm Tryz.prog (Dt L) (EI (Dt L) (L+24) 8) 1 (List.drop 2 c75.u.l.u.l.l.w.l.l.u.l.ops) ⟨[(12,.clo 89 0 [.loc 4 0,.loc 1 0]),(2,I 0),(4,.clo 89 0 [.loc 4 0,.loc 1 0]),(6,.sl false 110 1 [[.clo 76 0 [.loc 3 0,.loc 1 0]],[.clo 77 0 [.loc 1 0,.loc 3 0]],[.clo 83 0 [.loc 1 0,.loc 3 0]],[.clo 86 0 [.loc 1 0,.loc 3 0]],[.clo 89 0 [.loc 4 0,.loc 1 0]],[.clo 90 0 [.loc 4 0,.loc 1 0]],[.clo 91 0 [.loc 4 0,.loc 1 0]],[.clo 92 0 [.loc 4 0,.loc 1 0]],[.clo 93 0 [.loc 4 0,.loc 1 0]],[.clo 94 0 [.loc 1 0,.loc 3 0]],[.clo 98 0 [.loc 1 0]],[.clo 102 0 [.loc 1 0]]]),(7,I 12),(8,I 4),(9,B true),(10,.ref [.clo 89 0 [.loc 4 0,.loc 1 0]]),(11,.clo 89 0 [.loc 4 0,.loc 1 0])],[(1,Ae p1_0),(3,[.mp 5]),(4,[.clo 73 0 [.loc 3 0]]),(5,[.mapO false false (.t9 o42.2.1) (.t4 o42.2.2)])],6⟩ (some 13) (fun st9=>(Bl (EV (Dt L) (L+24) 8 c75.u.l.u.l.l.w.l.l.u.r) (Ay 1 (Bl (EV (Dt L) (L+24) 8 c75.u.l.u.l.l.w.r) (I7 (Ly (EV (Dt L) (L+24) 8 c75.u.l.u.l.l) [0,2,6,7,8] [1,3,4,5] (L+19)) [0,2,6,7,8] [1,3,4,5] (Ain L k))))) .normal st9)))) .normal st9)))) .normal st9))
theorem B9v(p1_0:Aa)(o42:Cs)(o49:Cs):Am2 p1_0.Queues p1_0 o42.2.1 o42.2.2 (Ble L k p1_0 o42) o49=ob (Adw L p1_0 o49) (Acl p1_0 k):=eE (Aeh L p1_0 o49 (fun o49=>ho (Ave L (Blf L k p1_0 o49) p1_0.Streams p1_0 o49.2.1 o49.2.2) fun o50=>B9w L k p1_0 o49 o50))
def Aeg [An A Cs](L:Nat)(p1_0:Aa)(o42:Cs)(nx98:Cs→A):A:=
 (cn (o42.1 != 0)
 (lf (o42.1,o42.2.1,o42.2.2))
 (gq (0≤4)
 (gq (4 < ((12:Nat):Int))
 (nx98 o42))))
def Adu [An A Cs](p1_0:Aa)(o42:Cs):A:=Aeg L p1_0 o42 (fun o42=>bd (J6 L p1_0.Queues p1_0 o42.2.1 o42.2.2) fun o49=>Adw L p1_0 o49)
def Blb(p1_0:Aa)(o31:Cs):Bx:=(Cm Tryz.prog (Dt L) (EI (Dt L) (L+24) 7) 1 (List.drop 4 c86.u.l.ops) ⟨[(5,.clo 88 0 [.loc 3 0]),(4,.lst false (.t127 p1_0.Belts)),(3,.loc 1 4),(0,.loc 1 0),(1,.loc 3 0),(2,I 0)],[(1,Ae p1_0),(3,[.mp 5]),(4,[.clo 73 0 [.loc 3 0]]),(5,[.mapO false false (.t9 o31.2.1) (.t4 o31.2.2)])],6⟩ (some 6) (fun st9=>(Bl (EV (Dt L) (L+24) 7 c86.u.r) (E5 Tryz.prog (RS Tryz.f86) (Cm Tryz.prog (Dt L) (EI (Dt L) (L+24) 8) 1 (List.drop 2 c75.u.l.u.l.l.w.l.l.u.l.ops) ⟨[(12,.clo 86 0 [.loc 1 0,.loc 3 0]),(2,I 0),(4,.clo 86 0 [.loc 1 0,.loc 3 0]),(6,.sl false 110 1 [[.clo 76 0 [.loc 3 0,.loc 1 0]],[.clo 77 0 [.loc 1 0,.loc 3 0]],[.clo 83 0 [.loc 1 0,.loc 3 0]],[.clo 86 0 [.loc 1 0,.loc 3 0]],[.clo 89 0 [.loc 4 0,.loc 1 0]],[.clo 90 0 [.loc 4 0,.loc 1 0]],[.clo 91 0 [.loc 4 0,.loc 1 0]],[.clo 92 0 [.loc 4 0,.loc 1 0]],[.clo 93 0 [.loc 4 0,.loc 1 0]],[.clo 94 0 [.loc 1 0,.loc 3 0]],[.clo 98 0 [.loc 1 0]],[.clo 102 0 [.loc 1 0]]]),(7,I 12),(8,I 3),(9,B true),(10,.ref [.clo 86 0 [.loc 1 0,.loc 3 0]]),(11,.clo 86 0 [.loc 1 0,.loc 3 0])],[(1,Ae p1_0),(3,[.mp 5]),(4,[.clo 73 0 [.loc 3 0]]),(5,[.mapO false false (.t9 o31.2.1) (.t4 o31.2.2)])],6⟩ (some 13) (fun st9=>(Bl (EV (Dt L) (L+24) 8 c75.u.l.u.l.l.w.l.l.u.r) (Ay 1 (Bl (EV (Dt L) (L+24) 8 c75.u.l.u.l.l.w.r) (I7 (Ly (EV (Dt L) (L+24) 8 c75.u.l.u.l.l) [0,2,6,7,8] [1,3,4,5] (L+20)) [0,2,6,7,8] [1,3,4,5] (Ain L k))))) .normal st9)))) .normal st9))
theorem B9s(p1_0:Aa)(o31:Cs)(o42:Cs):A84 p1_0.Belts p1_0 o31.2.1 o31.2.2 (Blb L k p1_0 o31) o42=ob (Adu L p1_0 o42) (Acl p1_0 k):=eE (Aeg L p1_0 o42 (fun o42=>ho (Ave L (Ble L k p1_0 o42) p1_0.Queues p1_0 o42.2.1 o42.2.2) fun o49=>B9v L k p1_0 o42 o49))
def Aef [An A Cs](L:Nat)(p1_0:Aa)(o31:Cs)(nx93:Cs→A):A:=
 (cn (o31.1 != 0)
 (lf (o31.1,o31.2.1,o31.2.2))
 (gq (0≤3)
 (gq (3 < ((12:Nat):Int))
 (nx93 o31))))
def Ads [An A Cs](p1_0:Aa)(o31:Cs):A:=Aef L p1_0 o31 (fun o31=>bd (Ac9 L p1_0.Belts p1_0 o31.2.1 o31.2.2) fun o42=>Adu L p1_0 o42)
def Bk7(p1_0:Aa)(o21:Cs):Bx:=(Cm Tryz.prog (Dt L) (EI (Dt L) (L+24) 7) 1 (List.drop 4 c83.u.l.ops) ⟨[(5,.clo 85 0 [.loc 3 0]),(4,.lst false (.t123 p1_0.Stores)),(3,.loc 1 3),(0,.loc 1 0),(1,.loc 3 0),(2,I 0)],[(1,Ae p1_0),(3,[.mp 5]),(4,[.clo 73 0 [.loc 3 0]]),(5,[.mapO false false (.t9 o21.2.1) (.t4 o21.2.2)])],6⟩ (some 6) (fun st9=>(Bl (EV (Dt L) (L+24) 7 c83.u.r) (E5 Tryz.prog (RS Tryz.f83) (Cm Tryz.prog (Dt L) (EI (Dt L) (L+24) 8) 1 (List.drop 2 c75.u.l.u.l.l.w.l.l.u.l.ops) ⟨[(12,.clo 83 0 [.loc 1 0,.loc 3 0]),(2,I 0),(4,.clo 83 0 [.loc 1 0,.loc 3 0]),(6,.sl false 110 1 [[.clo 76 0 [.loc 3 0,.loc 1 0]],[.clo 77 0 [.loc 1 0,.loc 3 0]],[.clo 83 0 [.loc 1 0,.loc 3 0]],[.clo 86 0 [.loc 1 0,.loc 3 0]],[.clo 89 0 [.loc 4 0,.loc 1 0]],[.clo 90 0 [.loc 4 0,.loc 1 0]],[.clo 91 0 [.loc 4 0,.loc 1 0]],[.clo 92 0 [.loc 4 0,.loc 1 0]],[.clo 93 0 [.loc 4 0,.loc 1 0]],[.clo 94 0 [.loc 1 0,.loc 3 0]],[.clo 98 0 [.loc 1 0]],[.clo 102 0 [.loc 1 0]]]),(7,I 12),(8,I 2),(9,B true),(10,.ref [.clo 83 0 [.loc 1 0,.loc 3 0]]),(11,.clo 83 0 [.loc 1 0,.loc 3 0])],[(1,Ae p1_0),(3,[.mp 5]),(4,[.clo 73 0 [.loc 3 0]]),(5,[.mapO false false (.t9 o21.2.1) (.t4 o21.2.2)])],6⟩ (some 13) (fun st9=>(Bl (EV (Dt L) (L+24) 8 c75.u.l.u.l.l.w.l.l.u.r) (Ay 1 (Bl (EV (Dt L) (L+24) 8 c75.u.l.u.l.l.w.r) (I7 (Ly (EV (Dt L) (L+24) 8 c75.u.l.u.l.l) [0,2,6,7,8] [1,3,4,5] (L+21)) [0,2,6,7,8] [1,3,4,5] (Ain L k))))) .normal st9)))) .normal st9))
theorem B9o(p1_0:Aa)(o21:Cs)(o31:Cs):A82 p1_0.Stores p1_0 o21.2.1 o21.2.2 (Bk7 L k p1_0 o21) o31=ob (Ads L p1_0 o31) (Acl p1_0 k):=eE (Aef L p1_0 o31 (fun o31=>ho (Bxt L (Blb L k p1_0 o31) p1_0.Belts p1_0 o31.2.1 o31.2.2) fun o42=>B9s L k p1_0 o31 o42))
def Aed [An A Cs](L:Nat)(p1_0:Aa)(o21:Cs)(nx84:Cs→A):A:=
 (cn (o21.1 != 0)
 (lf (o21.1,o21.2.1,o21.2.2))
 (gq (0≤2)
 (gq (2 < ((12:Nat):Int))
 (nx84 o21))))
def Adq [An A Cs](p1_0:Aa)(o21:Cs):A:=Aed L p1_0 o21 (fun o21=>bd (Ac7 L p1_0.Stores p1_0 o21.2.1 o21.2.2) fun o31=>Ads L p1_0 o31)
def Bk3(p1_0:Aa)(o10:Cs):Bx:=(Cm Tryz.prog (Dt L) (EI (Dt L) (L+24) 7) 1 (List.drop 4 c77.u.l.ops) ⟨[(5,.clo 79 0 [.loc 3 0,.loc 1 0]),(4,.lst false (.t116 p1_0.Resources)),(3,.loc 1 2),(0,.loc 1 0),(1,.loc 3 0),(2,I 0)],[(1,Ae p1_0),(3,[.mp 5]),(4,[.clo 73 0 [.loc 3 0]]),(5,[.mapO false false (.t9 o10.2.1) (.t4 o10.2.2)])],6⟩ (some 6) (fun st9=>(Bl (EV (Dt L) (L+24) 7 c77.u.r) (E5 Tryz.prog (RS Tryz.f77) (Cm Tryz.prog (Dt L) (EI (Dt L) (L+24) 8) 1 (List.drop 2 c75.u.l.u.l.l.w.l.l.u.l.ops) ⟨[(12,.clo 77 0 [.loc 1 0,.loc 3 0]),(2,I 0),(4,.clo 77 0 [.loc 1 0,.loc 3 0]),(6,.sl false 110 1 [[.clo 76 0 [.loc 3 0,.loc 1 0]],[.clo 77 0 [.loc 1 0,.loc 3 0]],[.clo 83 0 [.loc 1 0,.loc 3 0]],[.clo 86 0 [.loc 1 0,.loc 3 0]],[.clo 89 0 [.loc 4 0,.loc 1 0]],[.clo 90 0 [.loc 4 0,.loc 1 0]],[.clo 91 0 [.loc 4 0,.loc 1 0]],[.clo 92 0 [.loc 4 0,.loc 1 0]],[.clo 93 0 [.loc 4 0,.loc 1 0]],[.clo 94 0 [.loc 1 0,.loc 3 0]],[.clo 98 0 [.loc 1 0]],[.clo 102 0 [.loc 1 0]]]),(7,I 12),(8,I 1),(9,B true),(10,.ref [.clo 77 0 [.loc 1 0,.loc 3 0]]),(11,.clo 77 0 [.loc 1 0,.loc 3 0])],[(1,Ae p1_0),(3,[.mp 5]),(4,[.clo 73 0 [.loc 3 0]]),(5,[.mapO false false (.t9 o10.2.1) (.t4 o10.2.2)])],6⟩ (some 13) (fun st9=>(Bl (EV (Dt L) (L+24) 8 c75.u.l.u.l.l.w.l.l.u.r) (Ay 1 (Bl (EV (Dt L) (L+24) 8 c75.u.l.u.l.l.w.r) (I7 (Ly (EV (Dt L) (L+24) 8 c75.u.l.u.l.l) [0,2,6,7,8] [1,3,4,5] (L+22)) [0,2,6,7,8] [1,3,4,5] (Ain L k))))) .normal st9)))) .normal st9))
theorem B9k(p1_0:Aa)(o10:Cs)(o21:Cs):A80 p1_0.Resources p1_0 o10.2.1 o10.2.2 (Bk3 L k p1_0 o10) o21=ob (Adq L p1_0 o21) (Acl p1_0 k):=eE (Aed L p1_0 o21 (fun o21=>ho (Bxq L (Bk7 L k p1_0 o21) p1_0.Stores p1_0 o21.2.1 o21.2.2) fun o31=>B9o L k p1_0 o21 o31))
def Aeb [An A Cs](L:Nat)(p1_0:Aa)(o10:Cs)(nx75:Cs→A):A:=
 (cn (o10.1 != 0)
 (lf (o10.1,o10.2.1,o10.2.2))
 (gq (0≤1)
 (gq (1 < ((12:Nat):Int))
 (nx75 o10))))
def Ado [An A Cs](p1_0:Aa)(o10:Cs):A:=Aeb L p1_0 o10 (fun o10=>bd (Ac5 L p1_0.Resources p1_0 o10.2.1 o10.2.2) fun o21=>Adq L p1_0 o21)
def Bkz(p1_0:Aa):Bx:=(Cm Tryz.prog (Dt L) (EI (Dt L) (L+24) 6) 1 (List.drop 4 c40.u.l.ops) ⟨[(7,.clo 72 1 [.mp 5]),(6,.mp 5),(5,.lst false (.t57 p1_0.Vars)),(0,.mp 5),(1,.lst false (.t57 p1_0.Vars)),(4,I 0)],[(1,Ae p1_0),(3,[.mp 5]),(4,[.clo 73 0 [.loc 3 0]]),(5,[.mapO false false (.t9 []) (.t4 [])])],6⟩ (some 8) (fun st9=>(Bl (EV (Dt L) (L+24) 6 c40.u.r) (E5 Tryz.prog (RS Tryz.f40) (Cm Tryz.prog (Dt L) (EI (Dt L) (L+24) 7) 1 (List.drop 4 c76.u.l.ops) ⟨[(5,.lst false (.t57 p1_0.Vars)),(4,.loc 1 1),(3,.mp 5),(0,.loc 3 0),(1,.loc 1 0),(2,I 0)],[(1,Ae p1_0),(3,[.mp 5]),(4,[.clo 73 0 [.loc 3 0]]),(5,[.mapO false false (.t9 []) (.t4 [])])],6⟩ (some 6) (fun st9=>(Bl (EV (Dt L) (L+24) 7 c76.u.r) (E5 Tryz.prog (RS Tryz.f76) (Cm Tryz.prog (Dt L) (EI (Dt L) (L+24) 8) 1 (List.drop 2 c75.u.l.u.l.l.w.l.l.u.l.ops) ⟨[(12,.clo 76 0 [.loc 3 0,.loc 1 0]),(2,I 0),(4,.clo 76 0 [.loc 3 0,.loc 1 0]),(6,.sl false 110 1 [[.clo 76 0 [.loc 3 0,.loc 1 0]],[.clo 77 0 [.loc 1 0,.loc 3 0]],[.clo 83 0 [.loc 1 0,.loc 3 0]],[.clo 86 0 [.loc 1 0,.loc 3 0]],[.clo 89 0 [.loc 4 0,.loc 1 0]],[.clo 90 0 [.loc 4 0,.loc 1 0]],[.clo 91 0 [.loc 4 0,.loc 1 0]],[.clo 92 0 [.loc 4 0,.loc 1 0]],[.clo 93 0 [.loc 4 0,.loc 1 0]],[.clo 94 0 [.loc 1 0,.loc 3 0]],[.clo 98 0 [.loc 1 0]],[.clo 102 0 [.loc 1 0]]]),(7,I 12),(8,I 0),(9,B true),(10,.ref [.clo 76 0 [.loc 3 0,.loc 1 0]]),(11,.clo 76 0 [.loc 3 0,.loc 1 0])],[(1,Ae p1_0),(3,[.mp 5]),(4,[.clo 73 0 [.loc 3 0]]),(5,[.mapO false false (.t9 []) (.t4 [])])],6⟩ (some 13) (fun st9=>(Bl (EV (Dt L) (L+24) 8 c75.u.l.u.l.l.w.l.l.u.r) (Ay 1 (Bl (EV (Dt L) (L+24) 8 c75.u.l.u.l.l.w.r) (I7 (Ly (EV (Dt L) (L+24) 8 c75.u.l.u.l.l) [0,2,6,7,8] [1,3,4,5] (L+23)) [0,2,6,7,8] [1,3,4,5] (Ain L k))))) .normal st9)))) .normal st9)))) .normal st9))
theorem B9g(p1_0:Aa)(o10:Cs):A8y p1_0.Vars p1_0 (Bkz L k p1_0) o10=ob (Ado L p1_0 o10) (Acl p1_0 k):=eE (Aeb L p1_0 o10 (fun o10=>ho (Bxn L (Bk3 L k p1_0 o10) p1_0.Resources p1_0 o10.2.1 o10.2.2) fun o21=>B9k L k p1_0 o10 o21))
def Ad9 [An A Cs](L:Nat)(p1_0:Aa)(nx66:A):A:=
 (gq (0≤0)
 (gq (0 < ((12:Nat):Int))
 nx66))
def Aoq [An A Cs](p1_0:Aa):A:=Ad9 L p1_0 (bd (Ac3 L p1_0.Vars p1_0) fun o10=>Ado L p1_0 o10)
def Za(p1_0:Aa):Option Cs:=Aoq L p1_0
theorem B5i(p1_0:Aa):YO (Dt L) (L+24) 9 75 [.sl false 110 1 [[.clo 76 0 [.loc 3 0,.loc 1 0]],[.clo 77 0 [.loc 1 0,.loc 3 0]],[.clo 83 0 [.loc 1 0,.loc 3 0]],[.clo 86 0 [.loc 1 0,.loc 3 0]],[.clo 89 0 [.loc 4 0,.loc 1 0]],[.clo 90 0 [.loc 4 0,.loc 1 0]],[.clo 91 0 [.loc 4 0,.loc 1 0]],[.clo 92 0 [.loc 4 0,.loc 1 0]],[.clo 93 0 [.loc 4 0,.loc 1 0]],[.clo 94 0 [.loc 1 0,.loc 3 0]],[.clo 98 0 [.loc 1 0]],[.clo 102 0 [.loc 1 0]]]] [(1,Ae p1_0),(3,[.mp 5]),(4,[.clo 73 0 [.loc 3 0]]),(5,[.mapO false false (.t9 []) (.t4 [])])] k=ob (Za L p1_0) (Acl p1_0 k):=(Dc _ _ _ jn4 _ _ _ _ _ _ _).trans (eE (Ad9 L p1_0 (ho (Bxk L (Bkz L k p1_0) p1_0.Vars p1_0) fun o10=>B9g L k p1_0 o10)))
def Qn [An A Int](L:Nat)(o67:Cs):A:=
 (lf o67.1)
def Bd1(a0:Aa):Bx:=(Cm Tryz.prog (Dt L) (EI (Dt L) (L+24) 9) 1 (List.drop 14 c44.w.u.l.ops) ⟨[(19,.sl true 110 1 [[.clo 76 0 [.loc 3 0,.loc 1 0]],[.clo 77 0 [.loc 1 0,.loc 3 0]],[.clo 83 0 [.loc 1 0,.loc 3 0]],[.clo 86 0 [.loc 1 0,.loc 3 0]],[.clo 89 0 [.loc 4 0,.loc 1 0]],[.clo 90 0 [.loc 4 0,.loc 1 0]],[.clo 91 0 [.loc 4 0,.loc 1 0]],[.clo 92 0 [.loc 4 0,.loc 1 0]],[.clo 93 0 [.loc 4 0,.loc 1 0]],[.clo 94 0 [.loc 1 0,.loc 3 0]],[.clo 98 0 [.loc 1 0]],[.clo 102 0 [.loc 1 0]]]),(18,.clo 102 0 [.loc 1 0]),(17,.clo 98 0 [.loc 1 0]),(16,.clo 94 0 [.loc 1 0,.loc 3 0]),(15,.clo 93 0 [.loc 4 0,.loc 1 0]),(14,.clo 92 0 [.loc 4 0,.loc 1 0]),(13,.clo 91 0 [.loc 4 0,.loc 1 0]),(12,.clo 90 0 [.loc 4 0,.loc 1 0]),(11,.clo 89 0 [.loc 4 0,.loc 1 0]),(10,.clo 86 0 [.loc 1 0,.loc 3 0]),(9,.clo 83 0 [.loc 1 0,.loc 3 0]),(8,.clo 77 0 [.loc 1 0,.loc 3 0]),(7,.clo 76 0 [.loc 3 0,.loc 1 0]),(1,.loc 1 0),(2,I 0),(3,.loc 3 0),(4,.loc 4 0)],[(1,Ae a0),(3,[.mp 5]),(4,[.clo 73 0 [.loc 3 0]]),(5,[.mapO false false (.t9 []) (.t4 [])])],0⟩ (some 20) (fun st9=>(Bl (EV (Dt L) (L+24) 9 c44.w.u.r) (C8 Tryz.prog (RS Tryz.f44) kk)) .normal st9))
theorem Bz8(a0:Aa)(o67:Cs):Acl a0 (Bd1 L kk a0) o67=ob (Qn L o67) (Cj2 kk):=eE (Qn L o67)
def U4 [An A Int](L:Nat)(a0:Aa)(nx115:A):A:=
 nx115
def Auq [An A Int](a0:Aa):A:=U4 L a0 (bd (Za L a0) fun o67=>Qn L o67)
def Aha(a0:Aa):Option Int:=Auq L a0
def X44:Gk:=E1 I 44 C0 (Aha L) fun a0 r h=>hF Tryz.func44 (C:=Dt L) (oS _) (L+24) (fun kk=>eE (U4 L a0 (ho (B5i L (Bd1 L kk a0) a0) fun o67=>Bz8 L kk a0 o67))) h
end Go.Proofs.YtogleahbpobaiaaGreat.Ev
