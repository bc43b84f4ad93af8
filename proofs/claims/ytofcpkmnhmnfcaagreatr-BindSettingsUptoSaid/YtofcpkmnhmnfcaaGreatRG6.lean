import Derived.Test.YtofcpkmnhmnfcaaGreatRG3
import Derived.Test.YtofcpkmnhmnfcaaGreatRG4
import Derived.Test.YtofcpkmnhmnfcaaGreatRG5
namespace Go.Proofs.YtofcpkmnhmnfcaaGreatR.Ev
open Go An
set_option maxRecDepth 100000
set_option maxHeartbeats 4000000
set_option linter.unusedVariables false
set_option linter.unusedSimpArgs false
set_option linter.unnecessarySimpa false
noncomputable section
variable {A:Type} (L n:Nat) (kk:Cz) (K:Ax) (k:Bk)
def c66:=CC Tryz.f66
def c97:=CC Tryz.f97
def c98:=CC Tryz.f98
def c99:=CC Tryz.f99
def Bly:=CC Tryz.f100
def Ou:=CC Tryz.f101
def Cc6:=CC Tryz.f102
def Cc7:=CC Tryz.f103
def Blz:=CC Tryz.f104
def B4y:=CC Tryz.f105
def Cc9:=CC Tryz.f109
def Bl0:=CC Tryz.f110
def B4z:=CC Tryz.f111
def Cda:=CC Tryz.f112
def Bl1:=CC Tryz.f113
def B40:=CC Tryz.f114
def Cdb:=CC Tryz.f115
def Cdc:=CC Tryz.f116
def Cdd:=CC Tryz.f117
def Cde:=CC Tryz.f118
def Cdf:=CC Tryz.f119
def Cdg:=CC Tryz.f120
def Bl2:=CC Tryz.f121
def B41:=CC Tryz.f122
def Cdh:=CC Tryz.f124
def Cdi:=CC Tryz.f125
def c70:=CC Tryz.f70
def Dj:Ba:=oL [X65 L,Bc2 L,Cbg L,Cbh L,Cbi L,Cbj L,Cbk L,Bul L,Bum L]
def Aex:Ax:=(Av 0 (Bb (EV (Dj L) (L+24) 8 Ou.u.r) (Dz Tryz.prog (RS Tryz.f101) k)))
def Be5(p47_0:ByteArray)(p47_1:Aa)(p47_2:List ByteArray)(p47_3:List Bool)(p47_4:Ag)(p47_5:Ag)(k:Bk):Cv→Prop:=fun o=>k (I o.1) [(1,(Af p47_1)),(3,[.mp 5]),(4,[.clo 99 0 [.loc 3 0]]),(5,[.mapO false false (.t9 o.2.1) (.t4 o.2.2)]),(14,(B5 p47_4)),(18,(B5 p47_5))]
def Ajb [An A Cv](p47_0:ByteArray)(p47_1:Aa)(p47_2:List ByteArray)(p47_3:List Bool)(p47_4:Ag)(p47_5:Ag):A:=
 (bd (C9 L p47_0) fun r1=>
 (cn (r1 != 0)
 (lf (r1,p47_2,p47_3))
 (fq (p47_2.findIdx? fun b=>p47_0 == b) (fun i2=>
 (cn (p47_3.getD i2 default)
 (lf (4,p47_2,p47_3))
 (fq (p47_2.findIdx? fun b=>p47_0 == b) (fun i3=>
 (lf (0,p47_2,(p47_3.set i3 true))))
 (lf (0,(p47_2++ [p47_0]),(p47_3++ [true]))))))
 (fq (p47_2.findIdx? fun b=>p47_0 == b) (fun i4=>
 (lf (0,p47_2,(p47_3.set i4 true))))
 (lf (0,(p47_2++ [p47_0]),(p47_3++ [true])))))))
def y5(p47_0:ByteArray)(p47_1:Aa)(p47_2:List ByteArray)(p47_3:List Bool)(p47_4:Ag)(p47_5:Ag):Option Cv:=Ajb L p47_0 p47_1 p47_2 p47_3 p47_4 p47_5
theorem Bxh(p47_0:ByteArray)(p47_1:Aa)(p47_2:List ByteArray)(p47_3:List Bool)(p47_4:Ag)(p47_5:Ag):YO (Dj L) (L+24) 4 69 [.mp 5,S p47_0] [(1,(Af p47_1)),(3,[.mp 5]),(4,[.clo 99 0 [.loc 3 0]]),(5,[.mapO false false (.t9 p47_2) (.t4 p47_3)]),(14,(B5 p47_4)),(18,(B5 p47_5))] k=ob (y5 L p47_0 p47_1 p47_2 p47_3 p47_4 p47_5) (Be5 p47_0 p47_1 p47_2 p47_3 p47_4 p47_5 k):=(C3 _ _ _ jn4 _ _ _ _ _ _ _).trans (eE (Ajb L p47_0 p47_1 p47_2 p47_3 p47_4 p47_5))
def A61(p45_0:Ag)(p45_1:Aa)(p45_2:List ByteArray)(p45_3:List Bool)(p45_4:Ag)(k:Bk):Cv→Prop:=fun o=>k (I o.1) [(1,(Af p45_1)),(3,[.mp 5]),(4,[.clo 99 0 [.loc 3 0]]),(5,[.mapO false false (.t9 o.2.1) (.t4 o.2.2)]),(14,(B5 p45_4)),(18,(B5 p45_0))]
def Wt [An A Cv](p45_0:Ag)(o5:Cv):A:=
 (cn (o5.1 != 0)
 (lf (o5.1,o5.2.1,o5.2.2))
 (bd (K6 L p45_0.Type_) fun r6=>
 (cn (!r6)
 (lf (1,o5.2.1,o5.2.2))
 (bd (Si L p45_0.Type_ p45_0.N) fun r7=>
 (cn (!r7)
 (lf (2,o5.2.1,o5.2.2))
 (lf (0,o5.2.1,o5.2.2)))))))
def Bh7(p45_0:Ag)(p45_1:Aa)(p45_2:List ByteArray)(p45_3:List Bool)(p45_4:Ag):Bk:=(Bz Tryz.prog (Dj L) (EI (Dj L) (L+24) 4) 1 (List.drop 4 c98.u.l.l.ops) ⟨[(8,S p45_0.Name),(7,.loc 18 0),(6,.mp 5),(0,.mp 5),(3,.loc 18 0),(4,I 0)],[(1,(Af p45_1)),(3,[.mp 5]),(4,[.clo 99 0 [.loc 3 0]]),(5,[.mapO false false (.t9 p45_2) (.t4 p45_3)]),(14,(B5 p45_4)),(18,(B5 p45_0))],15⟩ (some 9) (fun st9=>(Bb (EV (Dj L) (L+24) 4 c98.u.l.r) (Bb (EV (Dj L) (L+24) 4 c98.u.r) (Dz Tryz.prog (RS Tryz.f98) k))) .normal st9))
theorem B9z(p45_0:Ag)(p45_1:Aa)(p45_2:List ByteArray)(p45_3:List Bool)(p45_4:Ag)(o5:Cv):Be5 p45_0.Name p45_1 p45_2 p45_3 p45_4 p45_0 (Bh7 L k p45_0 p45_1 p45_2 p45_3 p45_4) o5=ob (Wt L p45_0 o5) (A61 p45_0 p45_1 p45_2 p45_3 p45_4 k):=eE (Wt L p45_0 o5)
def Aja [An A Cv](p45_0:Ag)(p45_1:Aa)(p45_2:List ByteArray)(p45_3:List Bool)(p45_4:Ag):A:=(bd (y5 L p45_0.Name p45_1 p45_2 p45_3 p45_4 p45_0) fun o5=>Wt L p45_0 o5)
def Nl(p45_0:Ag)(p45_1:Aa)(p45_2:List ByteArray)(p45_3:List Bool)(p45_4:Ag):Option Cv:=Aja L p45_0 p45_1 p45_2 p45_3 p45_4
theorem Bxg(p45_0:Ag)(p45_1:Aa)(p45_2:List ByteArray)(p45_3:List Bool)(p45_4:Ag):YO (Dj L) (L+24) 5 98 [.mp 5,.agg (B5 p45_0)] [(1,(Af p45_1)),(3,[.mp 5]),(4,[.clo 99 0 [.loc 3 0]]),(5,[.mapO false false (.t9 p45_2) (.t4 p45_3)]),(14,(B5 p45_4))] k=ob (Nl L p45_0 p45_1 p45_2 p45_3 p45_4) (A61 p45_0 p45_1 p45_2 p45_3 p45_4 k):=(C3 _ _ _ jn4 _ _ _ _ _ _ _).trans (eE ((ho (Bxh L (Bh7 L k p45_0 p45_1 p45_2 p45_3 p45_4) p45_0.Name p45_1 p45_2 p45_3 p45_4 p45_0) fun o5=>B9z L k p45_0 p45_1 p45_2 p45_3 p45_4 o5)))
def Bed(p41_0:List Ag)(p41_1:Aa)(v:Tu5):St:=⟨[(0,.any),(1,.any),(2,.clo 98 1 [.mp 5]),(6,I v.1),(14,lv (.t39 p41_0)),(15,I (p41_0.length:Int)),(16,I v.2.1)],[(1,(Af p41_1)),(3,[.mp 5]),(4,[.clo 99 0 [.loc 3 0]]),(5,[.mapO false false (.t9 v.2.2.1) (.t4 v.2.2.2)])],6⟩
def Rz [An A Se](L:Nat)(Ai:Int)(Al:Int)(rec:Int→Int→List ByteArray→List Bool→A)(o8:Cv):A:=
 (cn (o8.1 != 0)
 (lf (0,o8.1,Ai,o8.2.1,o8.2.2))
 (rec Al (B6 (Ai+1)) o8.2.1 o8.2.2))
def W7 [An A Se](L:Nat)(p41_0:List Ag)(p41_1:Aa)(rec:Int→Int→List ByteArray→List Bool→A)(Al:Int)(Ai:Int)(De:List ByteArray)(Df:List Bool)(nx64:Int→(List ByteArray)→(List Bool)→Int→A):A:=
 (lw Ai p41_0
 (nx64 Ai De Df Al)
 (lf (1,Al,Ai,De,Df)))
def Ac4 [An A Se](p41_0:List Ag)(p41_1:Aa)(rec:Int→Int→List ByteArray→List Bool→A)(Al:Int)(Ai:Int)(De:List ByteArray)(Df:List Bool):A:=W7 L p41_0 p41_1 rec Al Ai De Df (fun Ai De Df Al=>bd (Nl L (p41_0.getD (Int.toNat Ai) default) p41_1 De Df (p41_0.getD (Int.toNat Ai) default)) fun o8=>Rz L Ai Al rec o8)
def Jv(L:Nat)(p41_0:List Ag)(p41_1:Aa):Nat→Int→Int→List ByteArray→List Bool→Option Se
 |0,_,_,_,_=>none
 |n+1,Al,Ai,De,Df=>Ac4 L p41_0 p41_1 (Jv L p41_0 p41_1 n) Al Ai De Df
def Bnh(p41_0:List Ag)(p41_1:Aa):Prop:=LI (EV (Dj L) (L+24) 5 c97.w.l.u.l.l) [0,1,2,6,14,15,16] [1,3,4,5] (Bed p41_0 p41_1) [.ret,.exit 0] (fun n v=>Jv L p41_0 p41_1 n v.1 v.2.1 v.2.2.1 v.2.2.2) K n
def Bh8(p41_0:List Ag)(Ai:Int)(Al:Int)(p41_1:Aa)(De:List ByteArray)(Df:List Bool):Bk:=(Bz Tryz.prog (Dj L) (EI (Dj L) (L+24) 5) 1 (List.drop 3 c97.w.l.u.l.l.w.l.l.u.l.ops) ⟨[(21,.agg (B5 (p41_0.getD (Int.toNat Ai) default))),(20,.clo 98 1 [.mp 5]),(2,.clo 98 1 [.mp 5]),(6,I Al),(8,.loc 14 0),(14,lv (.t39 p41_0)),(15,I (p41_0.length:Int)),(16,I Ai),(17,B (decide (Ai < (p41_0.length:Int)))),(18,.ref (B5 (p41_0.getD (Int.toNat Ai) default))),(19,.agg (B5 (p41_0.getD (Int.toNat Ai) default)))],[(1,(Af p41_1)),(3,[.mp 5]),(4,[.clo 99 0 [.loc 3 0]]),(5,[.mapO false false (.t9 De) (.t4 Df)]),(14,(B5 (p41_0.getD (Int.toNat Ai) default)))],6⟩ (some 22) (fun st9=>(Bb (EV (Dj L) (L+24) 5 c97.w.l.u.l.l.w.l.l.u.r) (Av 1 (Bb (EV (Dj L) (L+24) 5 c97.w.l.u.l.l.w.r) (Gj (Ix (EV (Dj L) (L+24) 5 c97.w.l.u.l.l) [0,1,2,6,14,15,16] [1,3,4,5] n) [0,1,2,6,14,15,16] [1,3,4,5] K)))) .normal st9))
theorem B90(p41_0:List Ag)(Ai:Int)(p41_1:Aa)(De:List ByteArray)(Df:List Bool)(Al:Int)(ih:Bnh L n K p41_0 p41_1)(o8:Cv):A61 (p41_0.getD (Int.toNat Ai) default) p41_1 De Df (p41_0.getD (Int.toNat Ai) default) (Bh8 L n K p41_0 Ai Al p41_1 De Df) o8=ob (Rz L Ai Al (Jv L p41_0 p41_1 n) o8) (kX [.ret,.exit 0] (Bed p41_0 p41_1) K):=eE (Rz L Ai Al (fun Al Ai De Df=>re (ih (Al,Ai,De,Df))) o8)
theorem B61(p41_0:List Ag)(p41_1:Aa):∀n,Bnh L n K p41_0 p41_1:=lE (fun _=>rfl) fun n v ih=>eE (W7 L p41_0 p41_1 (fun Al Ai De Df=>re (ih (Al,Ai,De,Df))) v.1 v.2.1 v.2.2.1 v.2.2.2 (fun Ai De Df Al=>ho (Bxg L (Bh8 L n K p41_0 Ai Al p41_1 De Df) (p41_0.getD (Int.toNat Ai) default) p41_1 De Df (p41_0.getD (Int.toNat Ai) default)) fun o8=>B90 L n K p41_0 Ai p41_1 De Df Al ih o8))
def A60(p41_0:List Ag)(p41_1:Aa)(k:Bk):Cv→Prop:=fun o=>k (I o.1) [(1,(Af p41_1)),(3,[.mp 5]),(4,[.clo 99 0 [.loc 3 0]]),(5,[.mapO false false (.t9 o.2.1) (.t4 o.2.2)])]
def Aao [An A Cv](L:Nat)(o9:Nat×Tu5):A:=
 (sl o9.1 [(lf (o9.2.1,o9.2.2.2.1,o9.2.2.2.2)),
 (lf (0,o9.2.2.2.1,o9.2.2.2.2))])
def Bh9:Ax:=(Av 0 (Bb (EV (Dj L) (L+24) 5 c97.w.r) (Dz Tryz.prog (RS Tryz.f97) k)))
theorem B91(p41_0:List Ag)(p41_1:Aa)(o9:Nat×Tu5):kX [.ret,.exit 0] (Bed p41_0 p41_1) (Bh9 L k) o9=ob (Aao L o9) (A60 p41_0 p41_1 k):=eE (Aao L o9)
def Aj0 [An A Cv](L:Nat)(p41_0:List Ag)(p41_1:Aa)(nx65:A):A:=
 (cn (decide ((p41_0.length:Int) > 32))
 (lf (6,[],[]))
 nx65)
def Avt [An A Cv](p41_0:List Ag)(p41_1:Aa):A:=Aj0 L p41_0 p41_1 (bd (Jv L p41_0 p41_1 (L+24) 0 0 [] []) fun o9=>Aao L o9)
def x9(p41_0:List Ag)(p41_1:Aa):Option Cv:=Avt L p41_0 p41_1
theorem Bxf(p41_0:List Ag)(p41_1:Aa):YO (Dj L) (L+24) 6 97 [lv (.t39 p41_0),I 32,.clo 98 1 [.mp 5]] [(1,(Af p41_1)),(3,[.mp 5]),(4,[.clo 99 0 [.loc 3 0]]),(5,[.mapO false false (.t9 []) (.t4 [])])] k=ob (x9 L p41_0 p41_1) (A60 p41_0 p41_1 k):=(C3 _ _ _ jn4 _ _ _ _ _ _ _).trans (eE (Aj0 L p41_0 p41_1 (ho (B61 L (Bh9 L k) p41_0 p41_1 (L+24) (0,0,[],[])) fun o9=>B91 L k p41_0 p41_1 o9)))
def Be6(p54_0:ByteArray)(p54_1:Aa)(p54_2:List ByteArray)(p54_3:List Bool)(p54_4:Ah)(p54_5:Ah)(k:Bk):Cv→Prop:=fun o=>k (I o.1) [(1,(Af p54_1)),(3,[.mp 5]),(4,[.clo 99 0 [.loc 3 0]]),(5,[.mapO false false (.t9 o.2.1) (.t4 o.2.2)]),(14,(Br p54_4)),(18,(Br p54_5))]
def Ajd [An A Cv](p54_0:ByteArray)(p54_1:Aa)(p54_2:List ByteArray)(p54_3:List Bool)(p54_4:Ah)(p54_5:Ah):A:=
 (bd (C9 L p54_0) fun r11=>
 (cn (r11 != 0)
 (lf (r11,p54_2,p54_3))
 (fq (p54_2.findIdx? fun b=>p54_0 == b) (fun i12=>
 (cn (p54_3.getD i12 default)
 (lf (4,p54_2,p54_3))
 (fq (p54_2.findIdx? fun b=>p54_0 == b) (fun i13=>
 (lf (0,p54_2,(p54_3.set i13 true))))
 (lf (0,(p54_2++ [p54_0]),(p54_3++ [true]))))))
 (fq (p54_2.findIdx? fun b=>p54_0 == b) (fun i14=>
 (lf (0,p54_2,(p54_3.set i14 true))))
 (lf (0,(p54_2++ [p54_0]),(p54_3++ [true])))))))
def y7(p54_0:ByteArray)(p54_1:Aa)(p54_2:List ByteArray)(p54_3:List Bool)(p54_4:Ah)(p54_5:Ah):Option Cv:=Ajd L p54_0 p54_1 p54_2 p54_3 p54_4 p54_5
theorem Bxk(p54_0:ByteArray)(p54_1:Aa)(p54_2:List ByteArray)(p54_3:List Bool)(p54_4:Ah)(p54_5:Ah):YO (Dj L) (L+24) 5 69 [.mp 5,S p54_0] [(1,(Af p54_1)),(3,[.mp 5]),(4,[.clo 99 0 [.loc 3 0]]),(5,[.mapO false false (.t9 p54_2) (.t4 p54_3)]),(14,(Br p54_4)),(18,(Br p54_5))] k=ob (y7 L p54_0 p54_1 p54_2 p54_3 p54_4 p54_5) (Be6 p54_0 p54_1 p54_2 p54_3 p54_4 p54_5 k):=(C3 _ _ _ jn4 _ _ _ _ _ _ _).trans (eE (Ajd L p54_0 p54_1 p54_2 p54_3 p54_4 p54_5))
def A63(p52_0:Ah)(p52_1:Aa)(p52_2:List ByteArray)(p52_3:List Bool)(p52_4:Ah)(k:Bk):Cv→Prop:=fun o=>k (I o.1) [(1,(Af p52_1)),(3,[.mp 5]),(4,[.clo 99 0 [.loc 3 0]]),(5,[.mapO false false (.t9 o.2.1) (.t4 o.2.2)]),(14,(Br p52_4)),(18,(Br p52_0))]
def Wu [An A Cv](p52_0:Ah)(p52_1:Aa)(o15:Cv):A:=
 (cn (o15.1 != 0)
 (lf (o15.1,o15.2.1,o15.2.2))
 (bd (Be L p52_0.Units 0 1000) fun r16=>
 (cn (!r16)
 (lf (2,o15.2.1,o15.2.2))
 (bd (Vs L p52_0) fun r17=>
 (cn (r17 != 0)
 (lf (r17,o15.2.1,o15.2.2))
 (bd (Vr L p52_1 p52_0.Fault) fun r18=>
 (lf (r18,o15.2.1,o15.2.2))))))))
def Bib(p52_0:Ah)(p52_1:Aa)(p52_2:List ByteArray)(p52_3:List Bool)(p52_4:Ah):Bk:=(Bz Tryz.prog (Dj L) (EI (Dj L) (L+24) 5) 1 (List.drop 4 B4y.u.l.l.ops) ⟨[(9,S p52_0.Name),(8,.loc 18 0),(7,.mp 5),(1,.loc 3 0),(2,.loc 1 0),(3,.loc 18 0),(4,I 0)],[(1,(Af p52_1)),(3,[.mp 5]),(4,[.clo 99 0 [.loc 3 0]]),(5,[.mapO false false (.t9 p52_2) (.t4 p52_3)]),(14,(Br p52_4)),(18,(Br p52_0))],15⟩ (some 10) (fun st9=>(Bb (EV (Dj L) (L+24) 5 B4y.u.l.r) (Bb (EV (Dj L) (L+24) 5 B4y.u.r) (Dz Tryz.prog (RS Tryz.f105) k))) .normal st9))
theorem B93(p52_0:Ah)(p52_1:Aa)(p52_2:List ByteArray)(p52_3:List Bool)(p52_4:Ah)(o15:Cv):Be6 p52_0.Name p52_1 p52_2 p52_3 p52_4 p52_0 (Bib L k p52_0 p52_1 p52_2 p52_3 p52_4) o15=ob (Wu L p52_0 p52_1 o15) (A63 p52_0 p52_1 p52_2 p52_3 p52_4 k):=eE (Wu L p52_0 p52_1 o15)
def Ajc [An A Cv](p52_0:Ah)(p52_1:Aa)(p52_2:List ByteArray)(p52_3:List Bool)(p52_4:Ah):A:=(bd (y7 L p52_0.Name p52_1 p52_2 p52_3 p52_4 p52_0) fun o15=>Wu L p52_0 p52_1 o15)
def Nm(p52_0:Ah)(p52_1:Aa)(p52_2:List ByteArray)(p52_3:List Bool)(p52_4:Ah):Option Cv:=Ajc L p52_0 p52_1 p52_2 p52_3 p52_4
theorem Bxj(p52_0:Ah)(p52_1:Aa)(p52_2:List ByteArray)(p52_3:List Bool)(p52_4:Ah):YO (Dj L) (L+24) 6 105 [.agg (Br p52_0),.loc 3 0,.loc 1 0] [(1,(Af p52_1)),(3,[.mp 5]),(4,[.clo 99 0 [.loc 3 0]]),(5,[.mapO false false (.t9 p52_2) (.t4 p52_3)]),(14,(Br p52_4))] k=ob (Nm L p52_0 p52_1 p52_2 p52_3 p52_4) (A63 p52_0 p52_1 p52_2 p52_3 p52_4 k):=(C3 _ _ _ jn4 _ _ _ _ _ _ _).trans (eE ((ho (Bxk L (Bib L k p52_0 p52_1 p52_2 p52_3 p52_4) p52_0.Name p52_1 p52_2 p52_3 p52_4 p52_0) fun o15=>B93 L k p52_0 p52_1 p52_2 p52_3 p52_4 o15)))
def Bee(p48_0:List Ah)(p48_1:Aa)(v:Tu5):St:=⟨[(0,.any),(1,.any),(2,.clo 105 0 [.loc 3 0,.loc 1 0]),(6,I v.1),(14,lv (.t110 p48_0)),(15,I (p48_0.length:Int)),(16,I v.2.1)],[(1,(Af p48_1)),(3,[.mp 5]),(4,[.clo 99 0 [.loc 3 0]]),(5,[.mapO false false (.t9 v.2.2.1) (.t4 v.2.2.2)])],6⟩
def R1 [An A Se](L:Nat)(Bu:Int)(Bl:Int)(rec:Int→Int→List ByteArray→List Bool→A)(o19:Cv):A:=
 (cn (o19.1 != 0)
 (lf (0,o19.1,Bu,o19.2.1,o19.2.2))
 (rec Bl (B6 (Bu+1)) o19.2.1 o19.2.2))
def W8 [An A Se](L:Nat)(p48_0:List Ah)(p48_1:Aa)(rec:Int→Int→List ByteArray→List Bool→A)(Bl:Int)(Bu:Int)(Mt:List ByteArray)(Mu:List Bool)(nx73:Int→(List ByteArray)→(List Bool)→Int→A):A:=
 (lw Bu p48_0
 (nx73 Bu Mt Mu Bl)
 (lf (1,Bl,Bu,Mt,Mu)))
def Ac5 [An A Se](p48_0:List Ah)(p48_1:Aa)(rec:Int→Int→List ByteArray→List Bool→A)(Bl:Int)(Bu:Int)(Mt:List ByteArray)(Mu:List Bool):A:=W8 L p48_0 p48_1 rec Bl Bu Mt Mu (fun Bu Mt Mu Bl=>bd (Nm L (p48_0.getD (Int.toNat Bu) default) p48_1 Mt Mu (p48_0.getD (Int.toNat Bu) default)) fun o19=>R1 L Bu Bl rec o19)
def Jw(L:Nat)(p48_0:List Ah)(p48_1:Aa):Nat→Int→Int→List ByteArray→List Bool→Option Se
 |0,_,_,_,_=>none
 |n+1,Bl,Bu,Mt,Mu=>Ac5 L p48_0 p48_1 (Jw L p48_0 p48_1 n) Bl Bu Mt Mu
def Bni(p48_0:List Ah)(p48_1:Aa):Prop:=LI (EV (Dj L) (L+24) 6 Blz.w.l.u.l.l) [0,1,2,6,14,15,16] [1,3,4,5] (Bee p48_0 p48_1) [.ret,.exit 0] (fun n v=>Jw L p48_0 p48_1 n v.1 v.2.1 v.2.2.1 v.2.2.2) K n
def Bic(p48_0:List Ah)(Bu:Int)(Bl:Int)(p48_1:Aa)(Mt:List ByteArray)(Mu:List Bool):Bk:=(Bz Tryz.prog (Dj L) (EI (Dj L) (L+24) 6) 1 (List.drop 3 Blz.w.l.u.l.l.w.l.l.u.l.ops) ⟨[(21,.agg (Br (p48_0.getD (Int.toNat Bu) default))),(20,.clo 105 0 [.loc 3 0,.loc 1 0]),(2,.clo 105 0 [.loc 3 0,.loc 1 0]),(6,I Bl),(8,.loc 14 0),(14,lv (.t110 p48_0)),(15,I (p48_0.length:Int)),(16,I Bu),(17,B (decide (Bu < (p48_0.length:Int)))),(18,.ref (Br (p48_0.getD (Int.toNat Bu) default))),(19,.agg (Br (p48_0.getD (Int.toNat Bu) default)))],[(1,(Af p48_1)),(3,[.mp 5]),(4,[.clo 99 0 [.loc 3 0]]),(5,[.mapO false false (.t9 Mt) (.t4 Mu)]),(14,(Br (p48_0.getD (Int.toNat Bu) default)))],6⟩ (some 22) (fun st9=>(Bb (EV (Dj L) (L+24) 6 Blz.w.l.u.l.l.w.l.l.u.r) (Av 1 (Bb (EV (Dj L) (L+24) 6 Blz.w.l.u.l.l.w.r) (Gj (Ix (EV (Dj L) (L+24) 6 Blz.w.l.u.l.l) [0,1,2,6,14,15,16] [1,3,4,5] n) [0,1,2,6,14,15,16] [1,3,4,5] K)))) .normal st9))
theorem B94(p48_0:List Ah)(Bu:Int)(p48_1:Aa)(Mt:List ByteArray)(Mu:List Bool)(Bl:Int)(ih:Bni L n K p48_0 p48_1)(o19:Cv):A63 (p48_0.getD (Int.toNat Bu) default) p48_1 Mt Mu (p48_0.getD (Int.toNat Bu) default) (Bic L n K p48_0 Bu Bl p48_1 Mt Mu) o19=ob (R1 L Bu Bl (Jw L p48_0 p48_1 n) o19) (kX [.ret,.exit 0] (Bee p48_0 p48_1) K):=eE (R1 L Bu Bl (fun Bl Bu Mt Mu=>re (ih (Bl,Bu,Mt,Mu))) o19)
theorem B62(p48_0:List Ah)(p48_1:Aa):∀n,Bni L n K p48_0 p48_1:=lE (fun _=>rfl) fun n v ih=>eE (W8 L p48_0 p48_1 (fun Bl Bu Mt Mu=>re (ih (Bl,Bu,Mt,Mu))) v.1 v.2.1 v.2.2.1 v.2.2.2 (fun Bu Mt Mu Bl=>ho (Bxj L (Bic L n K p48_0 Bu Bl p48_1 Mt Mu) (p48_0.getD (Int.toNat Bu) default) p48_1 Mt Mu (p48_0.getD (Int.toNat Bu) default)) fun o19=>B94 L n K p48_0 Bu p48_1 Mt Mu Bl ih o19))
def A62(p48_0:List Ah)(p48_1:Aa)(p48_2:List ByteArray)(p48_3:List Bool)(k:Bk):Cv→Prop:=fun o=>k (I o.1) [(1,(Af p48_1)),(3,[.mp 5]),(4,[.clo 99 0 [.loc 3 0]]),(5,[.mapO false false (.t9 o.2.1) (.t4 o.2.2)])]
def Aaq [An A Cv](L:Nat)(o20:Nat×Tu5):A:=
 (sl o20.1 [(lf (o20.2.1,o20.2.2.2.1,o20.2.2.2.2)),
 (lf (0,o20.2.2.2.1,o20.2.2.2.2))])
def Bid:Ax:=(Av 0 (Bb (EV (Dj L) (L+24) 6 Blz.w.r) (Dz Tryz.prog (RS Tryz.f104) k)))
theorem B95(p48_0:List Ah)(p48_1:Aa)(p48_2:List ByteArray)(p48_3:List Bool)(o20:Nat×Tu5):kX [.ret,.exit 0] (Bee p48_0 p48_1) (Bid L k) o20=ob (Aaq L o20) (A62 p48_0 p48_1 p48_2 p48_3 k):=eE (Aaq L o20)
def Aj1 [An A Cv](L:Nat)(p48_0:List Ah)(p48_1:Aa)(p48_2:List ByteArray)(p48_3:List Bool)(nx74:A):A:=
 (cn (decide ((p48_0.length:Int) > 32))
 (lf (6,p48_2,p48_3))
 nx74)
def Avu [An A Cv](p48_0:List Ah)(p48_1:Aa)(p48_2:List ByteArray)(p48_3:List Bool):A:=Aj1 L p48_0 p48_1 p48_2 p48_3 (bd (Jw L p48_0 p48_1 (L+24) 0 0 p48_2 p48_3) fun o20=>Aaq L o20)
def y6(p48_0:List Ah)(p48_1:Aa)(p48_2:List ByteArray)(p48_3:List Bool):Option Cv:=Avu L p48_0 p48_1 p48_2 p48_3
theorem Bxi(p48_0:List Ah)(p48_1:Aa)(p48_2:List ByteArray)(p48_3:List Bool):YO (Dj L) (L+24) 7 104 [lv (.t110 p48_0),I 32,.clo 105 0 [.loc 3 0,.loc 1 0]] [(1,(Af p48_1)),(3,[.mp 5]),(4,[.clo 99 0 [.loc 3 0]]),(5,[.mapO false false (.t9 p48_2) (.t4 p48_3)])] k=ob (y6 L p48_0 p48_1 p48_2 p48_3) (A62 p48_0 p48_1 p48_2 p48_3 k):=(C3 _ _ _ jn4 _ _ _ _ _ _ _).trans (eE (Aj1 L p48_0 p48_1 p48_2 p48_3 (ho (B62 L (Bid L k) p48_0 p48_1 (L+24) (0,0,p48_2,p48_3)) fun o20=>B95 L k p48_0 p48_1 p48_2 p48_3 o20)))
def Be7(p61_0:ByteArray)(p61_1:Aa)(p61_2:List ByteArray)(p61_3:List Bool)(p61_4:Ar)(p61_5:Ar)(k:Bk):Cv→Prop:=fun o=>k (I o.1) [(1,(Af p61_1)),(3,[.mp 5]),(4,[.clo 99 0 [.loc 3 0]]),(5,[.mapO false false (.t9 o.2.1) (.t4 o.2.2)]),(14,(C7 p61_4)),(17,(C7 p61_5))]
def Ajf [An A Cv](p61_0:ByteArray)(p61_1:Aa)(p61_2:List ByteArray)(p61_3:List Bool)(p61_4:Ar)(p61_5:Ar):A:=
 (bd (C9 L p61_0) fun r22=>
 (cn (r22 != 0)
 (lf (r22,p61_2,p61_3))
 (fq (p61_2.findIdx? fun b=>p61_0 == b) (fun i23=>
 (cn (p61_3.getD i23 default)
 (lf (4,p61_2,p61_3))
 (fq (p61_2.findIdx? fun b=>p61_0 == b) (fun i24=>
 (lf (0,p61_2,(p61_3.set i24 true))))
 (lf (0,(p61_2++ [p61_0]),(p61_3++ [true]))))))
 (fq (p61_2.findIdx? fun b=>p61_0 == b) (fun i25=>
 (lf (0,p61_2,(p61_3.set i25 true))))
 (lf (0,(p61_2++ [p61_0]),(p61_3++ [true])))))))
def y9(p61_0:ByteArray)(p61_1:Aa)(p61_2:List ByteArray)(p61_3:List Bool)(p61_4:Ar)(p61_5:Ar):Option Cv:=Ajf L p61_0 p61_1 p61_2 p61_3 p61_4 p61_5
theorem Bxn(p61_0:ByteArray)(p61_1:Aa)(p61_2:List ByteArray)(p61_3:List Bool)(p61_4:Ar)(p61_5:Ar):YO (Dj L) (L+24) 5 69 [.mp 5,S p61_0] [(1,(Af p61_1)),(3,[.mp 5]),(4,[.clo 99 0 [.loc 3 0]]),(5,[.mapO false false (.t9 p61_2) (.t4 p61_3)]),(14,(C7 p61_4)),(17,(C7 p61_5))] k=ob (y9 L p61_0 p61_1 p61_2 p61_3 p61_4 p61_5) (Be7 p61_0 p61_1 p61_2 p61_3 p61_4 p61_5 k):=(C3 _ _ _ jn4 _ _ _ _ _ _ _).trans (eE (Ajf L p61_0 p61_1 p61_2 p61_3 p61_4 p61_5))
def A65(p59_0:Ar)(p59_1:Aa)(p59_2:List ByteArray)(p59_3:List Bool)(p59_4:Ar)(k:Bk):Cv→Prop:=fun o=>k (I o.1) [(1,(Af p59_1)),(3,[.mp 5]),(4,[.clo 99 0 [.loc 3 0]]),(5,[.mapO false false (.t9 o.2.1) (.t4 o.2.2)]),(14,(C7 p59_4)),(17,(C7 p59_0))]
def Wv [An A Cv](p59_0:Ar)(o26:Cv):A:=
 (cn (o26.1 != 0)
 (lf (o26.1,o26.2.1,o26.2.2))
 (bd (Be L p59_0.Room 1 1000) fun r27=>
 (cn (!r27)
 (lf (2,o26.2.1,o26.2.2))
 (jp (.cn (decide (p59_0.Policy < 1))
 (.lf true)
 (.lf (decide (p59_0.Policy > 3)))) (fun b28=>
 (cn b28
 (lf (1,o26.2.1,o26.2.2))
 (lf (0,o26.2.1,o26.2.2))))))))
def Bif(p59_0:Ar)(p59_1:Aa)(p59_2:List ByteArray)(p59_3:List Bool)(p59_4:Ar):Bk:=(Bz Tryz.prog (Dj L) (EI (Dj L) (L+24) 5) 1 (List.drop 4 B4z.u.l.l.ops) ⟨[(7,S p59_0.Name),(6,.loc 17 0),(5,.mp 5),(1,.loc 3 0),(2,.loc 17 0),(3,I 0)],[(1,(Af p59_1)),(3,[.mp 5]),(4,[.clo 99 0 [.loc 3 0]]),(5,[.mapO false false (.t9 p59_2) (.t4 p59_3)]),(14,(C7 p59_4)),(17,(C7 p59_0))],15⟩ (some 8) (fun st9=>(Bb (EV (Dj L) (L+24) 5 B4z.u.l.r) (Bb (EV (Dj L) (L+24) 5 B4z.u.r) (Dz Tryz.prog (RS Tryz.f111) k))) .normal st9))
theorem B97(p59_0:Ar)(p59_1:Aa)(p59_2:List ByteArray)(p59_3:List Bool)(p59_4:Ar)(o26:Cv):Be7 p59_0.Name p59_1 p59_2 p59_3 p59_4 p59_0 (Bif L k p59_0 p59_1 p59_2 p59_3 p59_4) o26=ob (Wv L p59_0 o26) (A65 p59_0 p59_1 p59_2 p59_3 p59_4 k):=eE (Wv L p59_0 o26)
def Aje [An A Cv](p59_0:Ar)(p59_1:Aa)(p59_2:List ByteArray)(p59_3:List Bool)(p59_4:Ar):A:=(bd (y9 L p59_0.Name p59_1 p59_2 p59_3 p59_4 p59_0) fun o26=>Wv L p59_0 o26)
def Nn(p59_0:Ar)(p59_1:Aa)(p59_2:List ByteArray)(p59_3:List Bool)(p59_4:Ar):Option Cv:=Aje L p59_0 p59_1 p59_2 p59_3 p59_4
theorem Bxm(p59_0:Ar)(p59_1:Aa)(p59_2:List ByteArray)(p59_3:List Bool)(p59_4:Ar):YO (Dj L) (L+24) 6 111 [.agg (C7 p59_0),.loc 3 0] [(1,(Af p59_1)),(3,[.mp 5]),(4,[.clo 99 0 [.loc 3 0]]),(5,[.mapO false false (.t9 p59_2) (.t4 p59_3)]),(14,(C7 p59_4))] k=ob (Nn L p59_0 p59_1 p59_2 p59_3 p59_4) (A65 p59_0 p59_1 p59_2 p59_3 p59_4 k):=(C3 _ _ _ jn4 _ _ _ _ _ _ _).trans (eE ((ho (Bxn L (Bif L k p59_0 p59_1 p59_2 p59_3 p59_4) p59_0.Name p59_1 p59_2 p59_3 p59_4 p59_0) fun o26=>B97 L k p59_0 p59_1 p59_2 p59_3 p59_4 o26)))
def Bef(p55_0:List Ar)(p55_1:Aa)(v:Tu5):St:=⟨[(0,.any),(1,.any),(2,.clo 111 0 [.loc 3 0]),(6,I v.1),(14,lv (.t113 p55_0)),(15,I (p55_0.length:Int)),(16,I v.2.1)],[(1,(Af p55_1)),(3,[.mp 5]),(4,[.clo 99 0 [.loc 3 0]]),(5,[.mapO false false (.t9 v.2.2.1) (.t4 v.2.2.2)])],6⟩
def R2 [An A Se](L:Nat)(C5:Int)(E8:Int)(rec:Int→Int→List ByteArray→List Bool→A)(o29:Cv):A:=
 (cn (o29.1 != 0)
 (lf (0,o29.1,C5,o29.2.1,o29.2.2))
 (rec E8 (B6 (C5+1)) o29.2.1 o29.2.2))
def W9 [An A Se](L:Nat)(p55_0:List Ar)(p55_1:Aa)(rec:Int→Int→List ByteArray→List Bool→A)(E8:Int)(C5:Int)(H8:List ByteArray)(Mv:List Bool)(nx82:Int→(List ByteArray)→(List Bool)→Int→A):A:=
 (lw C5 p55_0
 (nx82 C5 H8 Mv E8)
 (lf (1,E8,C5,H8,Mv)))
def Ac6 [An A Se](p55_0:List Ar)(p55_1:Aa)(rec:Int→Int→List ByteArray→List Bool→A)(E8:Int)(C5:Int)(H8:List ByteArray)(Mv:List Bool):A:=W9 L p55_0 p55_1 rec E8 C5 H8 Mv (fun C5 H8 Mv E8=>bd (Nn L (p55_0.getD (Int.toNat C5) default) p55_1 H8 Mv (p55_0.getD (Int.toNat C5) default)) fun o29=>R2 L C5 E8 rec o29)
def Jx(L:Nat)(p55_0:List Ar)(p55_1:Aa):Nat→Int→Int→List ByteArray→List Bool→Option Se
 |0,_,_,_,_=>none
 |n+1,E8,C5,H8,Mv=>Ac6 L p55_0 p55_1 (Jx L p55_0 p55_1 n) E8 C5 H8 Mv
def Bnj(p55_0:List Ar)(p55_1:Aa):Prop:=LI (EV (Dj L) (L+24) 6 Bl0.w.l.u.l.l) [0,1,2,6,14,15,16] [1,3,4,5] (Bef p55_0 p55_1) [.ret,.exit 0] (fun n v=>Jx L p55_0 p55_1 n v.1 v.2.1 v.2.2.1 v.2.2.2) K n
def Big(p55_0:List Ar)(C5:Int)(E8:Int)(p55_1:Aa)(H8:List ByteArray)(Mv:List Bool):Bk:=(Bz Tryz.prog (Dj L) (EI (Dj L) (L+24) 6) 1 (List.drop 3 Bl0.w.l.u.l.l.w.l.l.u.l.ops) ⟨[(21,.agg (C7 (p55_0.getD (Int.toNat C5) default))),(20,.clo 111 0 [.loc 3 0]),(2,.clo 111 0 [.loc 3 0]),(6,I E8),(8,.loc 14 0),(14,lv (.t113 p55_0)),(15,I (p55_0.length:Int)),(16,I C5),(17,B (decide (C5 < (p55_0.length:Int)))),(18,.ref (C7 (p55_0.getD (Int.toNat C5) default))),(19,.agg (C7 (p55_0.getD (Int.toNat C5) default)))],[(1,(Af p55_1)),(3,[.mp 5]),(4,[.clo 99 0 [.loc 3 0]]),(5,[.mapO false false (.t9 H8) (.t4 Mv)]),(14,(C7 (p55_0.getD (Int.toNat C5) default)))],6⟩ (some 22) (fun st9=>(Bb (EV (Dj L) (L+24) 6 Bl0.w.l.u.l.l.w.l.l.u.r) (Av 1 (Bb (EV (Dj L) (L+24) 6 Bl0.w.l.u.l.l.w.r) (Gj (Ix (EV (Dj L) (L+24) 6 Bl0.w.l.u.l.l) [0,1,2,6,14,15,16] [1,3,4,5] n) [0,1,2,6,14,15,16] [1,3,4,5] K)))) .normal st9))
theorem B98(p55_0:List Ar)(C5:Int)(p55_1:Aa)(H8:List ByteArray)(Mv:List Bool)(E8:Int)(ih:Bnj L n K p55_0 p55_1)(o29:Cv):A65 (p55_0.getD (Int.toNat C5) default) p55_1 H8 Mv (p55_0.getD (Int.toNat C5) default) (Big L n K p55_0 C5 E8 p55_1 H8 Mv) o29=ob (R2 L C5 E8 (Jx L p55_0 p55_1 n) o29) (kX [.ret,.exit 0] (Bef p55_0 p55_1) K):=eE (R2 L C5 E8 (fun E8 C5 H8 Mv=>re (ih (E8,C5,H8,Mv))) o29)
theorem B63(p55_0:List Ar)(p55_1:Aa):∀n,Bnj L n K p55_0 p55_1:=lE (fun _=>rfl) fun n v ih=>eE (W9 L p55_0 p55_1 (fun E8 C5 H8 Mv=>re (ih (E8,C5,H8,Mv))) v.1 v.2.1 v.2.2.1 v.2.2.2 (fun C5 H8 Mv E8=>ho (Bxm L (Big L n K p55_0 C5 E8 p55_1 H8 Mv) (p55_0.getD (Int.toNat C5) default) p55_1 H8 Mv (p55_0.getD (Int.toNat C5) default)) fun o29=>B98 L n K p55_0 C5 p55_1 H8 Mv E8 ih o29))
def A64(p55_0:List Ar)(p55_1:Aa)(p55_2:List ByteArray)(p55_3:List Bool)(k:Bk):Cv→Prop:=fun o=>k (I o.1) [(1,(Af p55_1)),(3,[.mp 5]),(4,[.clo 99 0 [.loc 3 0]]),(5,[.mapO false false (.t9 o.2.1) (.t4 o.2.2)])]
def Aas [An A Cv](L:Nat)(o30:Nat×Tu5):A:=
 (sl o30.1 [(lf (o30.2.1,o30.2.2.2.1,o30.2.2.2.2)),
 (lf (0,o30.2.2.2.1,o30.2.2.2.2))])
def Bih:Ax:=(Av 0 (Bb (EV (Dj L) (L+24) 6 Bl0.w.r) (Dz Tryz.prog (RS Tryz.f110) k)))
theorem B99(p55_0:List Ar)(p55_1:Aa)(p55_2:List ByteArray)(p55_3:List Bool)(o30:Nat×Tu5):kX [.ret,.exit 0] (Bef p55_0 p55_1) (Bih L k) o30=ob (Aas L o30) (A64 p55_0 p55_1 p55_2 p55_3 k):=eE (Aas L o30)
def Aj2 [An A Cv](L:Nat)(p55_0:List Ar)(p55_1:Aa)(p55_2:List ByteArray)(p55_3:List Bool)(nx83:A):A:=
 (cn (decide ((p55_0.length:Int) > 32))
 (lf (6,p55_2,p55_3))
 nx83)
def Avv [An A Cv](p55_0:List Ar)(p55_1:Aa)(p55_2:List ByteArray)(p55_3:List Bool):A:=Aj2 L p55_0 p55_1 p55_2 p55_3 (bd (Jx L p55_0 p55_1 (L+24) 0 0 p55_2 p55_3) fun o30=>Aas L o30)
def y8(p55_0:List Ar)(p55_1:Aa)(p55_2:List ByteArray)(p55_3:List Bool):Option Cv:=Avv L p55_0 p55_1 p55_2 p55_3
theorem Bxl(p55_0:List Ar)(p55_1:Aa)(p55_2:List ByteArray)(p55_3:List Bool):YO (Dj L) (L+24) 7 110 [lv (.t113 p55_0),I 32,.clo 111 0 [.loc 3 0]] [(1,(Af p55_1)),(3,[.mp 5]),(4,[.clo 99 0 [.loc 3 0]]),(5,[.mapO false false (.t9 p55_2) (.t4 p55_3)])] k=ob (y8 L p55_0 p55_1 p55_2 p55_3) (A64 p55_0 p55_1 p55_2 p55_3 k):=(C3 _ _ _ jn4 _ _ _ _ _ _ _).trans (eE (Aj2 L p55_0 p55_1 p55_2 p55_3 (ho (B63 L (Bih L k) p55_0 p55_1 (L+24) (0,0,p55_2,p55_3)) fun o30=>B99 L k p55_0 p55_1 p55_2 p55_3 o30)))
def Be8(p68_0:ByteArray)(p68_1:Aa)(p68_2:List ByteArray)(p68_3:List Bool)(p68_4:Aw)(p68_5:Aw)(k:Bk):Cv→Prop:=fun o=>k (I o.1) [(1,(Af p68_1)),(3,[.mp 5]),(4,[.clo 99 0 [.loc 3 0]]),(5,[.mapO false false (.t9 o.2.1) (.t4 o.2.2)]),(14,(Dd p68_4)),(17,(Dd p68_5))]
def Ajh [An A Cv](p68_0:ByteArray)(p68_1:Aa)(p68_2:List ByteArray)(p68_3:List Bool)(p68_4:Aw)(p68_5:Aw):A:=
 (bd (C9 L p68_0) fun r32=>
 (cn (r32 != 0)
 (lf (r32,p68_2,p68_3))
 (fq (p68_2.findIdx? fun b=>p68_0 == b) (fun i33=>
 (cn (p68_3.getD i33 default)
 (lf (4,p68_2,p68_3))
 (fq (p68_2.findIdx? fun b=>p68_0 == b) (fun i34=>
 (lf (0,p68_2,(p68_3.set i34 true))))
 (lf (0,(p68_2++ [p68_0]),(p68_3++ [true]))))))
 (fq (p68_2.findIdx? fun b=>p68_0 == b) (fun i35=>
 (lf (0,p68_2,(p68_3.set i35 true))))
 (lf (0,(p68_2++ [p68_0]),(p68_3++ [true])))))))
def z7(p68_0:ByteArray)(p68_1:Aa)(p68_2:List ByteArray)(p68_3:List Bool)(p68_4:Aw)(p68_5:Aw):Option Cv:=Ajh L p68_0 p68_1 p68_2 p68_3 p68_4 p68_5
theorem Bxq(p68_0:ByteArray)(p68_1:Aa)(p68_2:List ByteArray)(p68_3:List Bool)(p68_4:Aw)(p68_5:Aw):YO (Dj L) (L+24) 5 69 [.mp 5,S p68_0] [(1,(Af p68_1)),(3,[.mp 5]),(4,[.clo 99 0 [.loc 3 0]]),(5,[.mapO false false (.t9 p68_2) (.t4 p68_3)]),(14,(Dd p68_4)),(17,(Dd p68_5))] k=ob (z7 L p68_0 p68_1 p68_2 p68_3 p68_4 p68_5) (Be8 p68_0 p68_1 p68_2 p68_3 p68_4 p68_5 k):=(C3 _ _ _ jn4 _ _ _ _ _ _ _).trans (eE (Ajh L p68_0 p68_1 p68_2 p68_3 p68_4 p68_5))
def A67(p66_0:Aw)(p66_1:Aa)(p66_2:List ByteArray)(p66_3:List Bool)(p66_4:Aw)(k:Bk):Cv→Prop:=fun o=>k (I o.1) [(1,(Af p66_1)),(3,[.mp 5]),(4,[.clo 99 0 [.loc 3 0]]),(5,[.mapO false false (.t9 o.2.1) (.t4 o.2.2)]),(14,(Dd p66_4)),(17,(Dd p66_0))]
def Ww [An A Cv](p66_0:Aw)(o36:Cv):A:=
 (cn (o36.1 != 0)
 (lf (o36.1,o36.2.1,o36.2.2))
 (bd (Be L p66_0.Length 1 1000) fun r37=>
 (jb (.cn (!r37)
 (.lf true)
 (.bd (Be L p66_0.Step 1 1000) fun r39=>
 (.lf (!r39)))) (fun b38=>
 (cn b38
 (lf (2,o36.2.1,o36.2.2))
 (lf (0,o36.2.1,o36.2.2)))))))
def Bij(p66_0:Aw)(p66_1:Aa)(p66_2:List ByteArray)(p66_3:List Bool)(p66_4:Aw):Bk:=(Bz Tryz.prog (Dj L) (EI (Dj L) (L+24) 5) 1 (List.drop 4 B40.u.l.l.ops) ⟨[(7,S p66_0.Name),(6,.loc 17 0),(5,.mp 5),(1,.loc 3 0),(2,.loc 17 0),(3,I 0)],[(1,(Af p66_1)),(3,[.mp 5]),(4,[.clo 99 0 [.loc 3 0]]),(5,[.mapO false false (.t9 p66_2) (.t4 p66_3)]),(14,(Dd p66_4)),(17,(Dd p66_0))],15⟩ (some 8) (fun st9=>(Bb (EV (Dj L) (L+24) 5 B40.u.l.r) (Bb (EV (Dj L) (L+24) 5 B40.u.r) (Dz Tryz.prog (RS Tryz.f114) k))) .normal st9))
theorem Cab(p66_0:Aw)(p66_1:Aa)(p66_2:List ByteArray)(p66_3:List Bool)(p66_4:Aw)(o36:Cv):Be8 p66_0.Name p66_1 p66_2 p66_3 p66_4 p66_0 (Bij L k p66_0 p66_1 p66_2 p66_3 p66_4) o36=ob (Ww L p66_0 o36) (A67 p66_0 p66_1 p66_2 p66_3 p66_4 k):=eE (Ww L p66_0 o36)
def Ajg [An A Cv](p66_0:Aw)(p66_1:Aa)(p66_2:List ByteArray)(p66_3:List Bool)(p66_4:Aw):A:=(bd (z7 L p66_0.Name p66_1 p66_2 p66_3 p66_4 p66_0) fun o36=>Ww L p66_0 o36)
def No(p66_0:Aw)(p66_1:Aa)(p66_2:List ByteArray)(p66_3:List Bool)(p66_4:Aw):Option Cv:=Ajg L p66_0 p66_1 p66_2 p66_3 p66_4
theorem Bxp(p66_0:Aw)(p66_1:Aa)(p66_2:List ByteArray)(p66_3:List Bool)(p66_4:Aw):YO (Dj L) (L+24) 6 114 [.agg (Dd p66_0),.loc 3 0] [(1,(Af p66_1)),(3,[.mp 5]),(4,[.clo 99 0 [.loc 3 0]]),(5,[.mapO false false (.t9 p66_2) (.t4 p66_3)]),(14,(Dd p66_4))] k=ob (No L p66_0 p66_1 p66_2 p66_3 p66_4) (A67 p66_0 p66_1 p66_2 p66_3 p66_4 k):=(C3 _ _ _ jn4 _ _ _ _ _ _ _).trans (eE ((ho (Bxq L (Bij L k p66_0 p66_1 p66_2 p66_3 p66_4) p66_0.Name p66_1 p66_2 p66_3 p66_4 p66_0) fun o36=>Cab L k p66_0 p66_1 p66_2 p66_3 p66_4 o36)))
def Beg(p62_0:List Aw)(p62_1:Aa)(v:Tu5):St:=⟨[(0,.any),(1,.any),(2,.clo 114 0 [.loc 3 0]),(6,I v.1),(14,lv (.t115 p62_0)),(15,I (p62_0.length:Int)),(16,I v.2.1)],[(1,(Af p62_1)),(3,[.mp 5]),(4,[.clo 99 0 [.loc 3 0]]),(5,[.mapO false false (.t9 v.2.2.1) (.t4 v.2.2.2)])],6⟩
def R3 [An A Se](L:Nat)(Ob:Int)(Iw:Int)(rec:Int→Int→List ByteArray→List Bool→A)(o40:Cv):A:=
 (cn (o40.1 != 0)
 (lf (0,o40.1,Ob,o40.2.1,o40.2.2))
 (rec Iw (B6 (Ob+1)) o40.2.1 o40.2.2))
def Xa [An A Se](L:Nat)(p62_0:List Aw)(p62_1:Aa)(rec:Int→Int→List ByteArray→List Bool→A)(Iw:Int)(Ob:Int)(Mw:List ByteArray)(H9:List Bool)(nx91:Int→(List ByteArray)→(List Bool)→Int→A):A:=
 (lw Ob p62_0
 (nx91 Ob Mw H9 Iw)
 (lf (1,Iw,Ob,Mw,H9)))
def Ac7 [An A Se](p62_0:List Aw)(p62_1:Aa)(rec:Int→Int→List ByteArray→List Bool→A)(Iw:Int)(Ob:Int)(Mw:List ByteArray)(H9:List Bool):A:=Xa L p62_0 p62_1 rec Iw Ob Mw H9 (fun Ob Mw H9 Iw=>bd (No L (p62_0.getD (Int.toNat Ob) default) p62_1 Mw H9 (p62_0.getD (Int.toNat Ob) default)) fun o40=>R3 L Ob Iw rec o40)
def Jy(L:Nat)(p62_0:List Aw)(p62_1:Aa):Nat→Int→Int→List ByteArray→List Bool→Option Se
 |0,_,_,_,_=>none
 |n+1,Iw,Ob,Mw,H9=>Ac7 L p62_0 p62_1 (Jy L p62_0 p62_1 n) Iw Ob Mw H9
def Bnk(p62_0:List Aw)(p62_1:Aa):Prop:=LI (EV (Dj L) (L+24) 6 Bl1.w.l.u.l.l) [0,1,2,6,14,15,16] [1,3,4,5] (Beg p62_0 p62_1) [.ret,.exit 0] (fun n v=>Jy L p62_0 p62_1 n v.1 v.2.1 v.2.2.1 v.2.2.2) K n
def Bik(p62_0:List Aw)(Ob:Int)(Iw:Int)(p62_1:Aa)(Mw:List ByteArray)(H9:List Bool):Bk:=(Bz Tryz.prog (Dj L) (EI (Dj L) (L+24) 6) 1 (List.drop 3 Bl1.w.l.u.l.l.w.l.l.u.l.ops) ⟨[(21,.agg (Dd (p62_0.getD (Int.toNat Ob) default))),(20,.clo 114 0 [.loc 3 0]),(2,.clo 114 0 [.loc 3 0]),(6,I Iw),(8,.loc 14 0),(14,lv (.t115 p62_0)),(15,I (p62_0.length:Int)),(16,I Ob),(17,B (decide (Ob < (p62_0.length:Int)))),(18,.ref (Dd (p62_0.getD (Int.toNat Ob) default))),(19,.agg (Dd (p62_0.getD (Int.toNat Ob) default)))],[(1,(Af p62_1)),(3,[.mp 5]),(4,[.clo 99 0 [.loc 3 0]]),(5,[.mapO false false (.t9 Mw) (.t4 H9)]),(14,(Dd (p62_0.getD (Int.toNat Ob) default)))],6⟩ (some 22) (fun st9=>(Bb (EV (Dj L) (L+24) 6 Bl1.w.l.u.l.l.w.l.l.u.r) (Av 1 (Bb (EV (Dj L) (L+24) 6 Bl1.w.l.u.l.l.w.r) (Gj (Ix (EV (Dj L) (L+24) 6 Bl1.w.l.u.l.l) [0,1,2,6,14,15,16] [1,3,4,5] n) [0,1,2,6,14,15,16] [1,3,4,5] K)))) .normal st9))
theorem Cac(p62_0:List Aw)(Ob:Int)(p62_1:Aa)(Mw:List ByteArray)(H9:List Bool)(Iw:Int)(ih:Bnk L n K p62_0 p62_1)(o40:Cv):A67 (p62_0.getD (Int.toNat Ob) default) p62_1 Mw H9 (p62_0.getD (Int.toNat Ob) default) (Bik L n K p62_0 Ob Iw p62_1 Mw H9) o40=ob (R3 L Ob Iw (Jy L p62_0 p62_1 n) o40) (kX [.ret,.exit 0] (Beg p62_0 p62_1) K):=eE (R3 L Ob Iw (fun Iw Ob Mw H9=>re (ih (Iw,Ob,Mw,H9))) o40)
theorem B64(p62_0:List Aw)(p62_1:Aa):∀n,Bnk L n K p62_0 p62_1:=lE (fun _=>rfl) fun n v ih=>eE (Xa L p62_0 p62_1 (fun Iw Ob Mw H9=>re (ih (Iw,Ob,Mw,H9))) v.1 v.2.1 v.2.2.1 v.2.2.2 (fun Ob Mw H9 Iw=>ho (Bxp L (Bik L n K p62_0 Ob Iw p62_1 Mw H9) (p62_0.getD (Int.toNat Ob) default) p62_1 Mw H9 (p62_0.getD (Int.toNat Ob) default)) fun o40=>Cac L n K p62_0 Ob p62_1 Mw H9 Iw ih o40))
def A66(p62_0:List Aw)(p62_1:Aa)(p62_2:List ByteArray)(p62_3:List Bool)(k:Bk):Cv→Prop:=fun o=>k (I o.1) [(1,(Af p62_1)),(3,[.mp 5]),(4,[.clo 99 0 [.loc 3 0]]),(5,[.mapO false false (.t9 o.2.1) (.t4 o.2.2)])]
def Aau [An A Cv](L:Nat)(o41:Nat×Tu5):A:=
 (sl o41.1 [(lf (o41.2.1,o41.2.2.2.1,o41.2.2.2.2)),
 (lf (0,o41.2.2.2.1,o41.2.2.2.2))])
def Bil:Ax:=(Av 0 (Bb (EV (Dj L) (L+24) 6 Bl1.w.r) (Dz Tryz.prog (RS Tryz.f113) k)))
theorem Cad(p62_0:List Aw)(p62_1:Aa)(p62_2:List ByteArray)(p62_3:List Bool)(o41:Nat×Tu5):kX [.ret,.exit 0] (Beg p62_0 p62_1) (Bil L k) o41=ob (Aau L o41) (A66 p62_0 p62_1 p62_2 p62_3 k):=eE (Aau L o41)
def Aj3 [An A Cv](L:Nat)(p62_0:List Aw)(p62_1:Aa)(p62_2:List ByteArray)(p62_3:List Bool)(nx92:A):A:=
 (cn (decide ((p62_0.length:Int) > 32))
 (lf (6,p62_2,p62_3))
 nx92)
def Avw [An A Cv](p62_0:List Aw)(p62_1:Aa)(p62_2:List ByteArray)(p62_3:List Bool):A:=Aj3 L p62_0 p62_1 p62_2 p62_3 (bd (Jy L p62_0 p62_1 (L+24) 0 0 p62_2 p62_3) fun o41=>Aau L o41)
def z6(p62_0:List Aw)(p62_1:Aa)(p62_2:List ByteArray)(p62_3:List Bool):Option Cv:=Avw L p62_0 p62_1 p62_2 p62_3
theorem Bxo(p62_0:List Aw)(p62_1:Aa)(p62_2:List ByteArray)(p62_3:List Bool):YO (Dj L) (L+24) 7 113 [lv (.t115 p62_0),I 32,.clo 114 0 [.loc 3 0]] [(1,(Af p62_1)),(3,[.mp 5]),(4,[.clo 99 0 [.loc 3 0]]),(5,[.mapO false false (.t9 p62_2) (.t4 p62_3)])] k=ob (z6 L p62_0 p62_1 p62_2 p62_3) (A66 p62_0 p62_1 p62_2 p62_3 k):=(C3 _ _ _ jn4 _ _ _ _ _ _ _).trans (eE (Aj3 L p62_0 p62_1 p62_2 p62_3 (ho (B64 L (Bil L k) p62_0 p62_1 (L+24) (0,0,p62_2,p62_3)) fun o41=>Cad L k p62_0 p62_1 p62_2 p62_3 o41)))
def Be9(p71_0:ByteArray)(p71_1:Aa)(p71_2:List ByteArray)(p71_3:List Bool)(k:Bk):Cv→Prop:=fun o=>k (I o.1) [(1,(Af p71_1)),(3,[.mp 5]),(4,[.clo 99 0 [.loc 3 0]]),(5,[.mapO false false (.t9 o.2.1) (.t4 o.2.2)])]
def Aji [An A Cv](p71_0:ByteArray)(p71_1:Aa)(p71_2:List ByteArray)(p71_3:List Bool):A:=
 (bd (C9 L p71_0) fun r43=>
 (cn (r43 != 0)
 (lf (r43,p71_2,p71_3))
 (fq (p71_2.findIdx? fun b=>p71_0 == b) (fun i44=>
 (cn (p71_3.getD i44 default)
 (lf (4,p71_2,p71_3))
 (fq (p71_2.findIdx? fun b=>p71_0 == b) (fun i45=>
 (lf (0,p71_2,(p71_3.set i45 true))))
 (lf (0,(p71_2++ [p71_0]),(p71_3++ [true]))))))
 (fq (p71_2.findIdx? fun b=>p71_0 == b) (fun i46=>
 (lf (0,p71_2,(p71_3.set i46 true))))
 (lf (0,(p71_2++ [p71_0]),(p71_3++ [true])))))))
def Np(p71_0:ByteArray)(p71_1:Aa)(p71_2:List ByteArray)(p71_3:List Bool):Option Cv:=Aji L p71_0 p71_1 p71_2 p71_3
theorem Bxr(p71_0:ByteArray)(p71_1:Aa)(p71_2:List ByteArray)(p71_3:List Bool):YO (Dj L) (L+24) 5 69 [.mp 5,S p71_0] [(1,(Af p71_1)),(3,[.mp 5]),(4,[.clo 99 0 [.loc 3 0]]),(5,[.mapO false false (.t9 p71_2) (.t4 p71_3)])] k=ob (Np L p71_0 p71_1 p71_2 p71_3) (Be9 p71_0 p71_1 p71_2 p71_3 k):=(C3 _ _ _ jn4 _ _ _ _ _ _ _).trans (eE (Aji L p71_0 p71_1 p71_2 p71_3))
def Beh(p69_0:List ByteArray)(p69_1:Aa)(v:Tu5):St:=⟨[(0,.any),(1,.any),(2,.clo 69 1 [.mp 5]),(6,I v.1),(14,lv (.t9 p69_0)),(15,I (p69_0.length:Int)),(16,I v.2.1)],[(1,(Af p69_1)),(3,[.mp 5]),(4,[.clo 99 0 [.loc 3 0]]),(5,[.mapO false false (.t9 v.2.2.1) (.t4 v.2.2.2)])],6⟩
def R4 [An A Se](L:Nat)(Oo:Int)(Lf:Int)(rec:Int→Int→List ByteArray→List Bool→A)(o47:Cv):A:=
 (cn (o47.1 != 0)
 (lf (0,o47.1,Oo,o47.2.1,o47.2.2))
 (rec Lf (B6 (Oo+1)) o47.2.1 o47.2.2))
def Xb [An A Se](L:Nat)(p69_0:List ByteArray)(p69_1:Aa)(rec:Int→Int→List ByteArray→List Bool→A)(Lf:Int)(Oo:Int)(Mx:List ByteArray)(My:List Bool)(nx96:Int→(List ByteArray)→(List Bool)→Int→A):A:=
 (lw Oo p69_0
 (nx96 Oo Mx My Lf)
 (lf (1,Lf,Oo,Mx,My)))
def Ac8 [An A Se](p69_0:List ByteArray)(p69_1:Aa)(rec:Int→Int→List ByteArray→List Bool→A)(Lf:Int)(Oo:Int)(Mx:List ByteArray)(My:List Bool):A:=Xb L p69_0 p69_1 rec Lf Oo Mx My (fun Oo Mx My Lf=>bd (Np L (p69_0.getD (Int.toNat Oo) default) p69_1 Mx My) fun o47=>R4 L Oo Lf rec o47)
def Jz(L:Nat)(p69_0:List ByteArray)(p69_1:Aa):Nat→Int→Int→List ByteArray→List Bool→Option Se
 |0,_,_,_,_=>none
 |n+1,Lf,Oo,Mx,My=>Ac8 L p69_0 p69_1 (Jz L p69_0 p69_1 n) Lf Oo Mx My
def Bnl(p69_0:List ByteArray)(p69_1:Aa):Prop:=LI (EV (Dj L) (L+24) 5 Bly.w.l.u.l.l) [0,1,2,6,14,15,16] [1,3,4,5] (Beh p69_0 p69_1) [.ret,.exit 0] (fun n v=>Jz L p69_0 p69_1 n v.1 v.2.1 v.2.2.1 v.2.2.2) K n
def Bin(p69_0:List ByteArray)(Oo:Int)(Lf:Int)(p69_1:Aa)(Mx:List ByteArray)(My:List Bool):Bk:=(Bz Tryz.prog (Dj L) (EI (Dj L) (L+24) 5) 1 (List.drop 3 Bly.w.l.u.l.l.w.l.l.u.l.ops) ⟨[(21,S (p69_0.getD (Int.toNat Oo) default)),(20,.clo 69 1 [.mp 5]),(2,.clo 69 1 [.mp 5]),(6,I Lf),(8,S (p69_0.getD (Int.toNat Oo) default)),(14,lv (.t9 p69_0)),(15,I (p69_0.length:Int)),(16,I Oo),(17,B (decide (Oo < (p69_0.length:Int)))),(18,.ref [S (p69_0.getD (Int.toNat Oo) default)]),(19,S (p69_0.getD (Int.toNat Oo) default))],[(1,(Af p69_1)),(3,[.mp 5]),(4,[.clo 99 0 [.loc 3 0]]),(5,[.mapO false false (.t9 Mx) (.t4 My)])],6⟩ (some 22) (fun st9=>(Bb (EV (Dj L) (L+24) 5 Bly.w.l.u.l.l.w.l.l.u.r) (Av 1 (Bb (EV (Dj L) (L+24) 5 Bly.w.l.u.l.l.w.r) (Gj (Ix (EV (Dj L) (L+24) 5 Bly.w.l.u.l.l) [0,1,2,6,14,15,16] [1,3,4,5] n) [0,1,2,6,14,15,16] [1,3,4,5] K)))) .normal st9))
theorem Caf(p69_0:List ByteArray)(Oo:Int)(p69_1:Aa)(Mx:List ByteArray)(My:List Bool)(Lf:Int)(ih:Bnl L n K p69_0 p69_1)(o47:Cv):Be9 (p69_0.getD (Int.toNat Oo) default) p69_1 Mx My (Bin L n K p69_0 Oo Lf p69_1 Mx My) o47=ob (R4 L Oo Lf (Jz L p69_0 p69_1 n) o47) (kX [.ret,.exit 0] (Beh p69_0 p69_1) K):=eE (R4 L Oo Lf (fun Lf Oo Mx My=>re (ih (Lf,Oo,Mx,My))) o47)
theorem B65(p69_0:List ByteArray)(p69_1:Aa):∀n,Bnl L n K p69_0 p69_1:=lE (fun _=>rfl) fun n v ih=>eE (Xb L p69_0 p69_1 (fun Lf Oo Mx My=>re (ih (Lf,Oo,Mx,My))) v.1 v.2.1 v.2.2.1 v.2.2.2 (fun Oo Mx My Lf=>ho (Bxr L (Bin L n K p69_0 Oo Lf p69_1 Mx My) (p69_0.getD (Int.toNat Oo) default) p69_1 Mx My) fun o47=>Caf L n K p69_0 Oo p69_1 Mx My Lf ih o47))
def Akf(p69_0:List ByteArray)(p69_1:Aa)(p69_2:List ByteArray)(p69_3:List Bool)(k:Bk):Cv→Prop:=fun o=>k (I o.1) [(1,(Af p69_1)),(3,[.mp 5]),(4,[.clo 99 0 [.loc 3 0]]),(5,[.mapO false false (.t9 o.2.1) (.t4 o.2.2)])]
def Aaw [An A Cv](L:Nat)(o48:Nat×Tu5):A:=
 (sl o48.1 [(lf (o48.2.1,o48.2.2.2.1,o48.2.2.2.2)),
 (lf (0,o48.2.2.2.1,o48.2.2.2.2))])
def Bio:Ax:=(Av 0 (Bb (EV (Dj L) (L+24) 5 Bly.w.r) (Dz Tryz.prog (RS Tryz.f100) k)))
theorem Cag(p69_0:List ByteArray)(p69_1:Aa)(p69_2:List ByteArray)(p69_3:List Bool)(o48:Nat×Tu5):kX [.ret,.exit 0] (Beh p69_0 p69_1) (Bio L k) o48=ob (Aaw L o48) (Akf p69_0 p69_1 p69_2 p69_3 k):=eE (Aaw L o48)
def Aj4 [An A Cv](L:Nat)(p69_0:List ByteArray)(p69_1:Aa)(p69_2:List ByteArray)(p69_3:List Bool)(nx97:A):A:=
 (cn (decide ((p69_0.length:Int) > 32))
 (lf (6,p69_2,p69_3))
 nx97)
def Avx [An A Cv](p69_0:List ByteArray)(p69_1:Aa)(p69_2:List ByteArray)(p69_3:List Bool):A:=Aj4 L p69_0 p69_1 p69_2 p69_3 (bd (Jz L p69_0 p69_1 (L+24) 0 0 p69_2 p69_3) fun o48=>Aaw L o48)
def Kj(p69_0:List ByteArray)(p69_1:Aa)(p69_2:List ByteArray)(p69_3:List Bool):Option Cv:=Avx L p69_0 p69_1 p69_2 p69_3
theorem At4(p69_0:List ByteArray)(p69_1:Aa)(p69_2:List ByteArray)(p69_3:List Bool):YO (Dj L) (L+24) 6 100 [lv (.t9 p69_0),I 32,.clo 69 1 [.mp 5]] [(1,(Af p69_1)),(3,[.mp 5]),(4,[.clo 99 0 [.loc 3 0]]),(5,[.mapO false false (.t9 p69_2) (.t4 p69_3)])] k=ob (Kj L p69_0 p69_1 p69_2 p69_3) (Akf p69_0 p69_1 p69_2 p69_3 k):=(C3 _ _ _ jn4 _ _ _ _ _ _ _).trans (eE (Aj4 L p69_0 p69_1 p69_2 p69_3 (ho (B65 L (Bio L k) p69_0 p69_1 (L+24) (0,0,p69_2,p69_3)) fun o48=>Cag L k p69_0 p69_1 p69_2 p69_3 o48)))
def Bfa(p78_0:ByteArray)(p78_1:Aa)(p78_2:List ByteArray)(p78_3:List Bool)(p78_4:Ap)(p78_5:Ap)(k:Bk):Cv→Prop:=fun o=>k (I o.1) [(1,(Af p78_1)),(3,[.mp 5]),(4,[.clo 99 0 [.loc 3 0]]),(5,[.mapO false false (.t9 o.2.1) (.t4 o.2.2)]),(14,(Cs p78_4)),(17,(Cs p78_5))]
def Ajk [An A Cv](p78_0:ByteArray)(p78_1:Aa)(p78_2:List ByteArray)(p78_3:List Bool)(p78_4:Ap)(p78_5:Ap):A:=
 (bd (C9 L p78_0) fun r54=>
 (cn (r54 != 0)
 (lf (r54,p78_2,p78_3))
 (fq (p78_2.findIdx? fun b=>p78_0 == b) (fun i55=>
 (cn (p78_3.getD i55 default)
 (lf (4,p78_2,p78_3))
 (fq (p78_2.findIdx? fun b=>p78_0 == b) (fun i56=>
 (lf (0,p78_2,(p78_3.set i56 true))))
 (lf (0,(p78_2++ [p78_0]),(p78_3++ [true]))))))
 (fq (p78_2.findIdx? fun b=>p78_0 == b) (fun i57=>
 (lf (0,p78_2,(p78_3.set i57 true))))
 (lf (0,(p78_2++ [p78_0]),(p78_3++ [true])))))))
def Aaa(p78_0:ByteArray)(p78_1:Aa)(p78_2:List ByteArray)(p78_3:List Bool)(p78_4:Ap)(p78_5:Ap):Option Cv:=Ajk L p78_0 p78_1 p78_2 p78_3 p78_4 p78_5
theorem Bxu(p78_0:ByteArray)(p78_1:Aa)(p78_2:List ByteArray)(p78_3:List Bool)(p78_4:Ap)(p78_5:Ap):YO (Dj L) (L+24) 5 69 [.mp 5,S p78_0] [(1,(Af p78_1)),(3,[.mp 5]),(4,[.clo 99 0 [.loc 3 0]]),(5,[.mapO false false (.t9 p78_2) (.t4 p78_3)]),(14,(Cs p78_4)),(17,(Cs p78_5))] k=ob (Aaa L p78_0 p78_1 p78_2 p78_3 p78_4 p78_5) (Bfa p78_0 p78_1 p78_2 p78_3 p78_4 p78_5 k):=(C3 _ _ _ jn4 _ _ _ _ _ _ _).trans (eE (Ajk L p78_0 p78_1 p78_2 p78_3 p78_4 p78_5))
def A69(p76_0:Ap)(p76_1:Aa)(p76_2:List ByteArray)(p76_3:List Bool)(p76_4:Ap)(k:Bk):Cv→Prop:=fun o=>k (I o.1) [(1,(Af p76_1)),(3,[.mp 5]),(4,[.clo 99 0 [.loc 3 0]]),(5,[.mapO false false (.t9 o.2.1) (.t4 o.2.2)]),(14,(Cs p76_4)),(17,(Cs p76_0))]
def Un [An A Cv](p76_0:Ap)(o58:Cv):A:=
 (cn (o58.1 != 0)
 (lf (o58.1,o58.2.1,o58.2.2))
 (bd (X3 L p76_0) fun r59=>
 (lf (r59,o58.2.1,o58.2.2))))
def Bau(p76_0:Ap)(p76_1:Aa)(p76_2:List ByteArray)(p76_3:List Bool)(p76_4:Ap):Bk:=(Bz Tryz.prog (Dj L) (EI (Dj L) (L+24) 5) 1 (List.drop 4 B41.u.l.l.ops) ⟨[(7,S p76_0.Name),(6,.loc 17 0),(5,.mp 5),(1,.loc 3 0),(2,.loc 17 0),(3,I 0)],[(1,(Af p76_1)),(3,[.mp 5]),(4,[.clo 99 0 [.loc 3 0]]),(5,[.mapO false false (.t9 p76_2) (.t4 p76_3)]),(14,(Cs p76_4)),(17,(Cs p76_0))],15⟩ (some 8) (fun st9=>(Bb (EV (Dj L) (L+24) 5 B41.u.l.r) (Bb (EV (Dj L) (L+24) 5 B41.u.r) (Dz Tryz.prog (RS Tryz.f122) k))) .normal st9))
theorem B0b(p76_0:Ap)(p76_1:Aa)(p76_2:List ByteArray)(p76_3:List Bool)(p76_4:Ap)(o58:Cv):Bfa p76_0.Name p76_1 p76_2 p76_3 p76_4 p76_0 (Bau L k p76_0 p76_1 p76_2 p76_3 p76_4) o58=ob (Un L p76_0 o58) (A69 p76_0 p76_1 p76_2 p76_3 p76_4 k):=eE (Un L p76_0 o58)
def Ajj [An A Cv](p76_0:Ap)(p76_1:Aa)(p76_2:List ByteArray)(p76_3:List Bool)(p76_4:Ap):A:=(bd (Aaa L p76_0.Name p76_1 p76_2 p76_3 p76_4 p76_0) fun o58=>Un L p76_0 o58)
def Nq(p76_0:Ap)(p76_1:Aa)(p76_2:List ByteArray)(p76_3:List Bool)(p76_4:Ap):Option Cv:=Ajj L p76_0 p76_1 p76_2 p76_3 p76_4
theorem Bxt(p76_0:Ap)(p76_1:Aa)(p76_2:List ByteArray)(p76_3:List Bool)(p76_4:Ap):YO (Dj L) (L+24) 6 122 [.agg (Cs p76_0),.loc 3 0] [(1,(Af p76_1)),(3,[.mp 5]),(4,[.clo 99 0 [.loc 3 0]]),(5,[.mapO false false (.t9 p76_2) (.t4 p76_3)]),(14,(Cs p76_4))] k=ob (Nq L p76_0 p76_1 p76_2 p76_3 p76_4) (A69 p76_0 p76_1 p76_2 p76_3 p76_4 k):=(C3 _ _ _ jn4 _ _ _ _ _ _ _).trans (eE ((ho (Bxu L (Bau L k p76_0 p76_1 p76_2 p76_3 p76_4) p76_0.Name p76_1 p76_2 p76_3 p76_4 p76_0) fun o58=>B0b L k p76_0 p76_1 p76_2 p76_3 p76_4 o58)))
def Bei(p72_0:List Ap)(p72_1:Aa)(v:Tu5):St:=⟨[(0,.any),(1,.any),(2,.clo 122 0 [.loc 3 0]),(6,I v.1),(14,lv (.t58 p72_0)),(15,I (p72_0.length:Int)),(16,I v.2.1)],[(1,(Af p72_1)),(3,[.mp 5]),(4,[.clo 99 0 [.loc 3 0]]),(5,[.mapO false false (.t9 v.2.2.1) (.t4 v.2.2.2)])],6⟩
def Qa [An A Se](L:Nat)(Oc:Int)(Lg:Int)(rec:Int→Int→List ByteArray→List Bool→A)(o60:Cv):A:=
 (cn (o60.1 != 0)
 (lf (0,o60.1,Oc,o60.2.1,o60.2.2))
 (rec Lg (B6 (Oc+1)) o60.2.1 o60.2.2))
def U1 [An A Se](L:Nat)(p72_0:List Ap)(p72_1:Aa)(rec:Int→Int→List ByteArray→List Bool→A)(Lg:Int)(Oc:Int)(Mz:List ByteArray)(M3:List Bool)(nx109:Int→(List ByteArray)→(List Bool)→Int→A):A:=
 (lw Oc p72_0
 (nx109 Oc Mz M3 Lg)
 (lf (1,Lg,Oc,Mz,M3)))
def Ac9 [An A Se](p72_0:List Ap)(p72_1:Aa)(rec:Int→Int→List ByteArray→List Bool→A)(Lg:Int)(Oc:Int)(Mz:List ByteArray)(M3:List Bool):A:=U1 L p72_0 p72_1 rec Lg Oc Mz M3 (fun Oc Mz M3 Lg=>bd (Nq L (p72_0.getD (Int.toNat Oc) default) p72_1 Mz M3 (p72_0.getD (Int.toNat Oc) default)) fun o60=>Qa L Oc Lg rec o60)
def J0(L:Nat)(p72_0:List Ap)(p72_1:Aa):Nat→Int→Int→List ByteArray→List Bool→Option Se
 |0,_,_,_,_=>none
 |n+1,Lg,Oc,Mz,M3=>Ac9 L p72_0 p72_1 (J0 L p72_0 p72_1 n) Lg Oc Mz M3
def Bnm(p72_0:List Ap)(p72_1:Aa):Prop:=LI (EV (Dj L) (L+24) 6 Bl2.w.l.u.l.l) [0,1,2,6,14,15,16] [1,3,4,5] (Bei p72_0 p72_1) [.ret,.exit 0] (fun n v=>J0 L p72_0 p72_1 n v.1 v.2.1 v.2.2.1 v.2.2.2) K n
def Bav(p72_0:List Ap)(Oc:Int)(Lg:Int)(p72_1:Aa)(Mz:List ByteArray)(M3:List Bool):Bk:=(Bz Tryz.prog (Dj L) (EI (Dj L) (L+24) 6) 1 (List.drop 3 Bl2.w.l.u.l.l.w.l.l.u.l.ops) ⟨[(21,.agg (Cs (p72_0.getD (Int.toNat Oc) default))),(20,.clo 122 0 [.loc 3 0]),(2,.clo 122 0 [.loc 3 0]),(6,I Lg),(8,.loc 14 0),(14,lv (.t58 p72_0)),(15,I (p72_0.length:Int)),(16,I Oc),(17,B (decide (Oc < (p72_0.length:Int)))),(18,.ref (Cs (p72_0.getD (Int.toNat Oc) default))),(19,.agg (Cs (p72_0.getD (Int.toNat Oc) default)))],[(1,(Af p72_1)),(3,[.mp 5]),(4,[.clo 99 0 [.loc 3 0]]),(5,[.mapO false false (.t9 Mz) (.t4 M3)]),(14,(Cs (p72_0.getD (Int.toNat Oc) default)))],6⟩ (some 22) (fun st9=>(Bb (EV (Dj L) (L+24) 6 Bl2.w.l.u.l.l.w.l.l.u.r) (Av 1 (Bb (EV (Dj L) (L+24) 6 Bl2.w.l.u.l.l.w.r) (Gj (Ix (EV (Dj L) (L+24) 6 Bl2.w.l.u.l.l) [0,1,2,6,14,15,16] [1,3,4,5] n) [0,1,2,6,14,15,16] [1,3,4,5] K)))) .normal st9))
theorem B0c(p72_0:List Ap)(Oc:Int)(p72_1:Aa)(Mz:List ByteArray)(M3:List Bool)(Lg:Int)(ih:Bnm L n K p72_0 p72_1)(o60:Cv):A69 (p72_0.getD (Int.toNat Oc) default) p72_1 Mz M3 (p72_0.getD (Int.toNat Oc) default) (Bav L n K p72_0 Oc Lg p72_1 Mz M3) o60=ob (Qa L Oc Lg (J0 L p72_0 p72_1 n) o60) (kX [.ret,.exit 0] (Bei p72_0 p72_1) K):=eE (Qa L Oc Lg (fun Lg Oc Mz M3=>re (ih (Lg,Oc,Mz,M3))) o60)
theorem B66(p72_0:List Ap)(p72_1:Aa):∀n,Bnm L n K p72_0 p72_1:=lE (fun _=>rfl) fun n v ih=>eE (U1 L p72_0 p72_1 (fun Lg Oc Mz M3=>re (ih (Lg,Oc,Mz,M3))) v.1 v.2.1 v.2.2.1 v.2.2.2 (fun Oc Mz M3 Lg=>ho (Bxt L (Bav L n K p72_0 Oc Lg p72_1 Mz M3) (p72_0.getD (Int.toNat Oc) default) p72_1 Mz M3 (p72_0.getD (Int.toNat Oc) default)) fun o60=>B0c L n K p72_0 Oc p72_1 Mz M3 Lg ih o60))
def A68(p72_0:List Ap)(p72_1:Aa)(p72_2:List ByteArray)(p72_3:List Bool)(k:Bk):Cv→Prop:=fun o=>k (I o.1) [(1,(Af p72_1)),(3,[.mp 5]),(4,[.clo 99 0 [.loc 3 0]]),(5,[.mapO false false (.t9 o.2.1) (.t4 o.2.2)])]
def m7 [An A Cv](L:Nat)(o61:Nat×Tu5):A:=
 (sl o61.1 [(lf (o61.2.1,o61.2.2.2.1,o61.2.2.2.2)),
 (lf (0,o61.2.2.2.1,o61.2.2.2.2))])
def Baw:Ax:=(Av 0 (Bb (EV (Dj L) (L+24) 6 Bl2.w.r) (Dz Tryz.prog (RS Tryz.f121) k)))
theorem B0d(p72_0:List Ap)(p72_1:Aa)(p72_2:List ByteArray)(p72_3:List Bool)(o61:Nat×Tu5):kX [.ret,.exit 0] (Bei p72_0 p72_1) (Baw L k) o61=ob (m7 L o61) (A68 p72_0 p72_1 p72_2 p72_3 k):=eE (m7 L o61)
def Ahg [An A Cv](L:Nat)(p72_0:List Ap)(p72_1:Aa)(p72_2:List ByteArray)(p72_3:List Bool)(nx110:A):A:=
 (cn (decide ((p72_0.length:Int) > 16))
 (lf (6,p72_2,p72_3))
 nx110)
def Avy [An A Cv](p72_0:List Ap)(p72_1:Aa)(p72_2:List ByteArray)(p72_3:List Bool):A:=Ahg L p72_0 p72_1 p72_2 p72_3 (bd (J0 L p72_0 p72_1 (L+24) 0 0 p72_2 p72_3) fun o61=>m7 L o61)
def z8(p72_0:List Ap)(p72_1:Aa)(p72_2:List ByteArray)(p72_3:List Bool):Option Cv:=Avy L p72_0 p72_1 p72_2 p72_3
theorem Bxs(p72_0:List Ap)(p72_1:Aa)(p72_2:List ByteArray)(p72_3:List Bool):YO (Dj L) (L+24) 7 121 [lv (.t58 p72_0),I 16,.clo 122 0 [.loc 3 0]] [(1,(Af p72_1)),(3,[.mp 5]),(4,[.clo 99 0 [.loc 3 0]]),(5,[.mapO false false (.t9 p72_2) (.t4 p72_3)])] k=ob (z8 L p72_0 p72_1 p72_2 p72_3) (A68 p72_0 p72_1 p72_2 p72_3 k):=(C3 _ _ _ jn4 _ _ _ _ _ _ _).trans (eE (Ahg L p72_0 p72_1 p72_2 p72_3 (ho (B66 L (Baw L k) p72_0 p72_1 (L+24) (0,0,p72_2,p72_3)) fun o61=>B0d L k p72_0 p72_1 p72_2 p72_3 o61)))
def Bs0(p79_0:List Bt)(p79_1:Aa)(p79_2:List ByteArray)(p79_3:List Bool)(v:Co):St:=⟨[(0,.any),(1,.any),(2,.clo 126 0 [.loc 1 0]),(6,I v.1),(14,lv (.t119 p79_0)),(15,I (p79_0.length:Int)),(16,I v.2)],[(1,(Af p79_1)),(3,[.mp 5]),(4,[.clo 99 0 [.loc 3 0]]),(5,[.mapO false false (.t9 p79_2) (.t4 p79_3)])],6⟩
def Yl [An A B7](p79_0:List Bt)(p79_1:Aa)(p79_2:List ByteArray)(p79_3:List Bool)(rec:Int→Int→A)(Al8:Int)(A8z:Int):A:=
 (lw A8z p79_0
 (bd (Tr L p79_1 (p79_0.getD (Int.toNat A8z) default)) fun r63=>
 (cn (r63 != 0)
 (lf (0,r63,A8z))
 (rec Al8 (B6 (A8z+1)))))
 (lf (1,Al8,A8z)))
def L6(L:Nat)(p79_0:List Bt)(p79_1:Aa)(p79_2:List ByteArray)(p79_3:List Bool):Nat→Int→Int→Option B7
 |0,_,_=>none
 |n+1,Al8,A8z=>Yl L p79_0 p79_1 p79_2 p79_3 (L6 L p79_0 p79_1 p79_2 p79_3 n) Al8 A8z
theorem B67(p79_0:List Bt)(p79_1:Aa)(p79_2:List ByteArray)(p79_3:List Bool):LP (EV (Dj L) (L+24) 6 Cdi.w.l.u.l.l) [0,1,2,6,14,15,16] [1,3,4,5] (Bs0 p79_0 p79_1 p79_2 p79_3) [.ret,.exit 0] (fun n v=>L6 L p79_0 p79_1 p79_2 p79_3 n v.1 v.2) K:=lE (fun _=>rfl) fun n v ih=>eE (Yl L p79_0 p79_1 p79_2 p79_3 (fun Al8 A8z=>re (ih (Al8,A8z))) v.1 v.2)
def A7a(p79_0:List Bt)(p79_1:Aa)(p79_2:List ByteArray)(p79_3:List Bool)(k:Bk):Int→Prop:=fun o=>k (I o) [(1,(Af p79_1)),(3,[.mp 5]),(4,[.clo 99 0 [.loc 3 0]]),(5,[.mapO false false (.t9 p79_2) (.t4 p79_3)])]
def m9 [An A Int](L:Nat)(o64:Nat×Co):A:=
 (sl o64.1 [(lf o64.2.1),
 (lf 0)])
def Bay:Ax:=(Av 0 (Bb (EV (Dj L) (L+24) 6 Cdi.w.r) (Dz Tryz.prog (RS Tryz.f125) k)))
theorem B0f(p79_0:List Bt)(p79_1:Aa)(p79_2:List ByteArray)(p79_3:List Bool)(o64:Nat×Co):kX [.ret,.exit 0] (Bs0 p79_0 p79_1 p79_2 p79_3) (Bay L k) o64=ob (m9 L o64) (A7a p79_0 p79_1 p79_2 p79_3 k):=eE (m9 L o64)
def Ahh [An A Int](L:Nat)(p79_0:List Bt)(p79_1:Aa)(p79_2:List ByteArray)(p79_3:List Bool)(nx113:A):A:=
 (cn (decide ((p79_0.length:Int) > 32))
 (lf 6)
 nx113)
def Avz [An A Int](p79_0:List Bt)(p79_1:Aa)(p79_2:List ByteArray)(p79_3:List Bool):A:=Ahh L p79_0 p79_1 p79_2 p79_3 (bd (L6 L p79_0 p79_1 p79_2 p79_3 (L+24) 0 0) fun o64=>m9 L o64)
def Aab(p79_0:List Bt)(p79_1:Aa)(p79_2:List ByteArray)(p79_3:List Bool):Option Int:=Avz L p79_0 p79_1 p79_2 p79_3
theorem Bxv(p79_0:List Bt)(p79_1:Aa)(p79_2:List ByteArray)(p79_3:List Bool):YO (Dj L) (L+24) 7 125 [lv (.t119 p79_0),I 32,.clo 126 0 [.loc 1 0]] [(1,(Af p79_1)),(3,[.mp 5]),(4,[.clo 99 0 [.loc 3 0]]),(5,[.mapO false false (.t9 p79_2) (.t4 p79_3)])] k=ob (Aab L p79_0 p79_1 p79_2 p79_3) (A7a p79_0 p79_1 p79_2 p79_3 k):=(C3 _ _ _ jn4 _ _ _ _ _ _ _).trans (eE (Ahh L p79_0 p79_1 p79_2 p79_3 (ho (B67 L (Bay L k) p79_0 p79_1 p79_2 p79_3 (L+24) (0,0)) fun o64=>B0f L k p79_0 p79_1 p79_2 p79_3 o64)))
def u7(p1_0:Aa)(k:Bk):Cv→Prop:=fun o=>k (I o.1) [(1,(Af p1_0)),(3,[.mp 5]),(4,[.clo 99 0 [.loc 3 0]]),(5,[.mapO false false (.t9 o.2.1) (.t4 o.2.2)])]
def Uo [An A Cv](o62:Cv)(p1_0:Aa)(o65:Int):A:=
 (cn (o65 != 0)
 (lf (o65,o62.2.1,o62.2.2))
 (gq ((0:Int)≤11)
 (gq (11 < ((12:Nat):Int))
 (bd (Ads L p1_0) fun r66=>
 (cn (r66 != 0)
 (lf (r66,o62.2.1,o62.2.2))
 (lf (0,o62.2.1,o62.2.2)))))))
def Baz(p1_0:Aa)(o62:Cv):Bk:=(Bz Tryz.prog (Dj L) (EI (Dj L) (L+24) 7) 1 (List.drop 4 Cdh.u.l.ops) ⟨[(4,.clo 126 0 [.loc 1 0]),(3,lv (.t119 p1_0.Starts)),(2,.loc 1 11),(0,.loc 1 0),(1,I 0)],[(1,(Af p1_0)),(3,[.mp 5]),(4,[.clo 99 0 [.loc 3 0]]),(5,[.mapO false false (.t9 o62.2.1) (.t4 o62.2.2)])],6⟩ (some 5) (fun st9=>(Bb (EV (Dj L) (L+24) 7 Cdh.u.r) (Dz Tryz.prog (RS Tryz.f124) (Bz Tryz.prog (Dj L) (EI (Dj L) (L+24) 8) 1 (List.drop 2 Ou.u.l.u.l.l.w.l.l.u.l.ops) ⟨[(12,.clo 124 0 [.loc 1 0]),(2,I 0),(4,.clo 124 0 [.loc 1 0]),(6,.sl false 178 1 [[.clo 102 0 [.loc 3 0,.loc 1 0]],[.clo 103 0 [.loc 1 0,.loc 3 0]],[.clo 109 0 [.loc 1 0,.loc 3 0]],[.clo 112 0 [.loc 1 0,.loc 3 0]],[.clo 115 0 [.loc 4 0,.loc 1 0]],[.clo 116 0 [.loc 4 0,.loc 1 0]],[.clo 117 0 [.loc 4 0,.loc 1 0]],[.clo 118 0 [.loc 4 0,.loc 1 0]],[.clo 119 0 [.loc 4 0,.loc 1 0]],[.clo 120 0 [.loc 1 0,.loc 3 0]],[.clo 124 0 [.loc 1 0]],[.clo 128 0 [.loc 1 0]]]),(7,I 12),(8,I 10),(9,B true),(10,.ref [.clo 124 0 [.loc 1 0]]),(11,.clo 124 0 [.loc 1 0])],[(1,(Af p1_0)),(3,[.mp 5]),(4,[.clo 99 0 [.loc 3 0]]),(5,[.mapO false false (.t9 o62.2.1) (.t4 o62.2.2)])],6⟩ (some 13) (fun st9=>(Bb (EV (Dj L) (L+24) 8 Ou.u.l.u.l.l.w.l.l.u.r) (Av 1 (Bb (EV (Dj L) (L+24) 8 Ou.u.l.u.l.l.w.r) (Gj (Ix (EV (Dj L) (L+24) 8 Ou.u.l.u.l.l) [0,2,6,7,8] [1,3,4,5] (L+13)) [0,2,6,7,8] [1,3,4,5] (Aex L k))))) .normal st9)))) .normal st9))
theorem B0g(p1_0:Aa)(o62:Cv)(o65:Int):A7a p1_0.Starts p1_0 o62.2.1 o62.2.2 (Baz L k p1_0 o62) o65=ob (Uo L o62 p1_0 o65) (u7 p1_0 k):=eE (Uo L o62 p1_0 o65)
def s8 [An A Cv](L:Nat)(p1_0:Aa)(o62:Cv)(nx114:Cv→A):A:=
 (cn (o62.1 != 0)
 (lf (o62.1,o62.2.1,o62.2.2))
 (gq ((0:Int)≤10)
 (gq (10 < ((12:Nat):Int))
 (nx114 o62))))
def m8 [An A Cv](p1_0:Aa)(o62:Cv):A:=s8 L p1_0 o62 (fun o62=>bd (Aab L p1_0.Starts p1_0 o62.2.1 o62.2.2) fun o65=>Uo L o62 p1_0 o65)
def Bax(p1_0:Aa)(o53:Cv):Bk:=(Bz Tryz.prog (Dj L) (EI (Dj L) (L+24) 7) 1 (List.drop 4 Cdg.u.l.ops) ⟨[(5,.clo 122 0 [.loc 3 0]),(4,lv (.t58 p1_0.Routines)),(3,.loc 1 10),(0,.loc 1 0),(1,.loc 3 0),(2,I 0)],[(1,(Af p1_0)),(3,[.mp 5]),(4,[.clo 99 0 [.loc 3 0]]),(5,[.mapO false false (.t9 o53.2.1) (.t4 o53.2.2)])],6⟩ (some 6) (fun st9=>(Bb (EV (Dj L) (L+24) 7 Cdg.u.r) (Dz Tryz.prog (RS Tryz.f120) (Bz Tryz.prog (Dj L) (EI (Dj L) (L+24) 8) 1 (List.drop 2 Ou.u.l.u.l.l.w.l.l.u.l.ops) ⟨[(12,.clo 120 0 [.loc 1 0,.loc 3 0]),(2,I 0),(4,.clo 120 0 [.loc 1 0,.loc 3 0]),(6,.sl false 178 1 [[.clo 102 0 [.loc 3 0,.loc 1 0]],[.clo 103 0 [.loc 1 0,.loc 3 0]],[.clo 109 0 [.loc 1 0,.loc 3 0]],[.clo 112 0 [.loc 1 0,.loc 3 0]],[.clo 115 0 [.loc 4 0,.loc 1 0]],[.clo 116 0 [.loc 4 0,.loc 1 0]],[.clo 117 0 [.loc 4 0,.loc 1 0]],[.clo 118 0 [.loc 4 0,.loc 1 0]],[.clo 119 0 [.loc 4 0,.loc 1 0]],[.clo 120 0 [.loc 1 0,.loc 3 0]],[.clo 124 0 [.loc 1 0]],[.clo 128 0 [.loc 1 0]]]),(7,I 12),(8,I 9),(9,B true),(10,.ref [.clo 120 0 [.loc 1 0,.loc 3 0]]),(11,.clo 120 0 [.loc 1 0,.loc 3 0])],[(1,(Af p1_0)),(3,[.mp 5]),(4,[.clo 99 0 [.loc 3 0]]),(5,[.mapO false false (.t9 o53.2.1) (.t4 o53.2.2)])],6⟩ (some 13) (fun st9=>(Bb (EV (Dj L) (L+24) 8 Ou.u.l.u.l.l.w.l.l.u.r) (Av 1 (Bb (EV (Dj L) (L+24) 8 Ou.u.l.u.l.l.w.r) (Gj (Ix (EV (Dj L) (L+24) 8 Ou.u.l.u.l.l) [0,2,6,7,8] [1,3,4,5] (L+14)) [0,2,6,7,8] [1,3,4,5] (Aex L k))))) .normal st9)))) .normal st9))
theorem B0e(p1_0:Aa)(o53:Cv)(o62:Cv):A68 p1_0.Routines p1_0 o53.2.1 o53.2.2 (Bax L k p1_0 o53) o62=ob (m8 L p1_0 o62) (u7 p1_0 k):=eE (s8 L p1_0 o62 (fun o62=>ho (Bxv L (Baz L k p1_0 o62) p1_0.Starts p1_0 o62.2.1 o62.2.2) fun o65=>B0g L k p1_0 o62 o65))
def s7 [An A Cv](L:Nat)(p1_0:Aa)(o53:Cv)(nx111:Cv→A):A:=
 (cn (o53.1 != 0)
 (lf (o53.1,o53.2.1,o53.2.2))
 (gq ((0:Int)≤9)
 (gq (9 < ((12:Nat):Int))
 (nx111 o53))))
def m6 [An A Cv](p1_0:Aa)(o53:Cv):A:=s7 L p1_0 o53 (fun o53=>bd (z8 L p1_0.Routines p1_0 o53.2.1 o53.2.2) fun o62=>m8 L p1_0 o62)
def Bat(p1_0:Aa)(o52:Cv):Bk:=(Bz Tryz.prog (Dj L) (EI (Dj L) (L+24) 6) 1 (List.drop 4 c99.u.l.ops) ⟨[(6,.clo 69 1 [.mp 5]),(5,.mp 5),(4,lv (.t9 p1_0.Counts)),(0,lv (.t9 p1_0.Counts)),(1,.loc 3 0),(3,I 0)],[(1,(Af p1_0)),(3,[.mp 5]),(4,[.clo 99 0 [.loc 3 0]]),(5,[.mapO false false (.t9 o52.2.1) (.t4 o52.2.2)])],6⟩ (some 7) (fun st9=>(Bb (EV (Dj L) (L+24) 6 c99.u.r) (Dz Tryz.prog (RS Tryz.f99) (Bz Tryz.prog (Dj L) (EI (Dj L) (L+24) 7) 1 (List.drop 4 Cdf.u.l.ops) ⟨[(5,lv (.t9 p1_0.Counts)),(4,.loc 1 9),(3,.clo 99 0 [.loc 3 0]),(0,.loc 4 0),(1,.loc 1 0),(2,I 0)],[(1,(Af p1_0)),(3,[.mp 5]),(4,[.clo 99 0 [.loc 3 0]]),(5,[.mapO false false (.t9 o52.2.1) (.t4 o52.2.2)])],6⟩ (some 6) (fun st9=>(Bb (EV (Dj L) (L+24) 7 Cdf.u.r) (Dz Tryz.prog (RS Tryz.f119) (Bz Tryz.prog (Dj L) (EI (Dj L) (L+24) 8) 1 (List.drop 2 Ou.u.l.u.l.l.w.l.l.u.l.ops) ⟨[(12,.clo 119 0 [.loc 4 0,.loc 1 0]),(2,I 0),(4,.clo 119 0 [.loc 4 0,.loc 1 0]),(6,.sl false 178 1 [[.clo 102 0 [.loc 3 0,.loc 1 0]],[.clo 103 0 [.loc 1 0,.loc 3 0]],[.clo 109 0 [.loc 1 0,.loc 3 0]],[.clo 112 0 [.loc 1 0,.loc 3 0]],[.clo 115 0 [.loc 4 0,.loc 1 0]],[.clo 116 0 [.loc 4 0,.loc 1 0]],[.clo 117 0 [.loc 4 0,.loc 1 0]],[.clo 118 0 [.loc 4 0,.loc 1 0]],[.clo 119 0 [.loc 4 0,.loc 1 0]],[.clo 120 0 [.loc 1 0,.loc 3 0]],[.clo 124 0 [.loc 1 0]],[.clo 128 0 [.loc 1 0]]]),(7,I 12),(8,I 8),(9,B true),(10,.ref [.clo 119 0 [.loc 4 0,.loc 1 0]]),(11,.clo 119 0 [.loc 4 0,.loc 1 0])],[(1,(Af p1_0)),(3,[.mp 5]),(4,[.clo 99 0 [.loc 3 0]]),(5,[.mapO false false (.t9 o52.2.1) (.t4 o52.2.2)])],6⟩ (some 13) (fun st9=>(Bb (EV (Dj L) (L+24) 8 Ou.u.l.u.l.l.w.l.l.u.r) (Av 1 (Bb (EV (Dj L) (L+24) 8 Ou.u.l.u.l.l.w.r) (Gj (Ix (EV (Dj L) (L+24) 8 Ou.u.l.u.l.l) [0,2,6,7,8] [1,3,4,5] (L+15)) [0,2,6,7,8] [1,3,4,5] (Aex L k))))) .normal st9)))) .normal st9)))) .normal st9))
theorem B0a(p1_0:Aa)(o52:Cv)(o53:Cv):Akf p1_0.Counts p1_0 o52.2.1 o52.2.2 (Bat L k p1_0 o52) o53=ob (m6 L p1_0 o53) (u7 p1_0 k):=eE (s7 L p1_0 o53 (fun o53=>ho (Bxs L (Bax L k p1_0 o53) p1_0.Routines p1_0 o53.2.1 o53.2.2) fun o62=>B0e L k p1_0 o53 o62))
def r0 [An A Cv](L:Nat)(p1_0:Aa)(o52:Cv)(nx102:Cv→A):A:=
 (cn (o52.1 != 0)
 (lf (o52.1,o52.2.1,o52.2.2))
 (gq ((0:Int)≤8)
 (gq (8 < ((12:Nat):Int))
 (nx102 o52))))
def m5 [An A Cv](p1_0:Aa)(o52:Cv):A:=r0 L p1_0 o52 (fun o52=>bd (Kj L p1_0.Counts p1_0 o52.2.1 o52.2.2) fun o53=>m6 L p1_0 o53)
def Bas(p1_0:Aa)(o51:Cv):Bk:=(Bz Tryz.prog (Dj L) (EI (Dj L) (L+24) 6) 1 (List.drop 4 c99.u.l.ops) ⟨[(6,.clo 69 1 [.mp 5]),(5,.mp 5),(4,lv (.t9 p1_0.Levels)),(0,lv (.t9 p1_0.Levels)),(1,.loc 3 0),(3,I 0)],[(1,(Af p1_0)),(3,[.mp 5]),(4,[.clo 99 0 [.loc 3 0]]),(5,[.mapO false false (.t9 o51.2.1) (.t4 o51.2.2)])],6⟩ (some 7) (fun st9=>(Bb (EV (Dj L) (L+24) 6 c99.u.r) (Dz Tryz.prog (RS Tryz.f99) (Bz Tryz.prog (Dj L) (EI (Dj L) (L+24) 7) 1 (List.drop 4 Cde.u.l.ops) ⟨[(5,lv (.t9 p1_0.Levels)),(4,.loc 1 8),(3,.clo 99 0 [.loc 3 0]),(0,.loc 4 0),(1,.loc 1 0),(2,I 0)],[(1,(Af p1_0)),(3,[.mp 5]),(4,[.clo 99 0 [.loc 3 0]]),(5,[.mapO false false (.t9 o51.2.1) (.t4 o51.2.2)])],6⟩ (some 6) (fun st9=>(Bb (EV (Dj L) (L+24) 7 Cde.u.r) (Dz Tryz.prog (RS Tryz.f118) (Bz Tryz.prog (Dj L) (EI (Dj L) (L+24) 8) 1 (List.drop 2 Ou.u.l.u.l.l.w.l.l.u.l.ops) ⟨[(12,.clo 118 0 [.loc 4 0,.loc 1 0]),(2,I 0),(4,.clo 118 0 [.loc 4 0,.loc 1 0]),(6,.sl false 178 1 [[.clo 102 0 [.loc 3 0,.loc 1 0]],[.clo 103 0 [.loc 1 0,.loc 3 0]],[.clo 109 0 [.loc 1 0,.loc 3 0]],[.clo 112 0 [.loc 1 0,.loc 3 0]],[.clo 115 0 [.loc 4 0,.loc 1 0]],[.clo 116 0 [.loc 4 0,.loc 1 0]],[.clo 117 0 [.loc 4 0,.loc 1 0]],[.clo 118 0 [.loc 4 0,.loc 1 0]],[.clo 119 0 [.loc 4 0,.loc 1 0]],[.clo 120 0 [.loc 1 0,.loc 3 0]],[.clo 124 0 [.loc 1 0]],[.clo 128 0 [.loc 1 0]]]),(7,I 12),(8,I 7),(9,B true),(10,.ref [.clo 118 0 [.loc 4 0,.loc 1 0]]),(11,.clo 118 0 [.loc 4 0,.loc 1 0])],[(1,(Af p1_0)),(3,[.mp 5]),(4,[.clo 99 0 [.loc 3 0]]),(5,[.mapO false false (.t9 o51.2.1) (.t4 o51.2.2)])],6⟩ (some 13) (fun st9=>(Bb (EV (Dj L) (L+24) 8 Ou.u.l.u.l.l.w.l.l.u.r) (Av 1 (Bb (EV (Dj L) (L+24) 8 Ou.u.l.u.l.l.w.r) (Gj (Ix (EV (Dj L) (L+24) 8 Ou.u.l.u.l.l) [0,2,6,7,8] [1,3,4,5] (L+16)) [0,2,6,7,8] [1,3,4,5] (Aex L k))))) .normal st9)))) .normal st9)))) .normal st9))
theorem Bz9(p1_0:Aa)(o51:Cv)(o52:Cv):Akf p1_0.Levels p1_0 o51.2.1 o51.2.2 (Bas L k p1_0 o51) o52=ob (m5 L p1_0 o52) (u7 p1_0 k):=eE (r0 L p1_0 o52 (fun o52=>ho (At4 L (Bat L k p1_0 o52) p1_0.Counts p1_0 o52.2.1 o52.2.2) fun o53=>B0a L k p1_0 o52 o53))
def q9 [An A Cv](L:Nat)(p1_0:Aa)(o51:Cv)(nx101:Cv→A):A:=
 (cn (o51.1 != 0)
 (lf (o51.1,o51.2.1,o51.2.2))
 (gq ((0:Int)≤7)
 (gq (7 < ((12:Nat):Int))
 (nx101 o51))))
def m4 [An A Cv](p1_0:Aa)(o51:Cv):A:=q9 L p1_0 o51 (fun o51=>bd (Kj L p1_0.Levels p1_0 o51.2.1 o51.2.2) fun o52=>m5 L p1_0 o52)
def Bar(p1_0:Aa)(o50:Cv):Bk:=(Bz Tryz.prog (Dj L) (EI (Dj L) (L+24) 6) 1 (List.drop 4 c99.u.l.ops) ⟨[(6,.clo 69 1 [.mp 5]),(5,.mp 5),(4,lv (.t9 p1_0.Tallies)),(0,lv (.t9 p1_0.Tallies)),(1,.loc 3 0),(3,I 0)],[(1,(Af p1_0)),(3,[.mp 5]),(4,[.clo 99 0 [.loc 3 0]]),(5,[.mapO false false (.t9 o50.2.1) (.t4 o50.2.2)])],6⟩ (some 7) (fun st9=>(Bb (EV (Dj L) (L+24) 6 c99.u.r) (Dz Tryz.prog (RS Tryz.f99) (Bz Tryz.prog (Dj L) (EI (Dj L) (L+24) 7) 1 (List.drop 4 Cdd.u.l.ops) ⟨[(5,lv (.t9 p1_0.Tallies)),(4,.loc 1 7),(3,.clo 99 0 [.loc 3 0]),(0,.loc 4 0),(1,.loc 1 0),(2,I 0)],[(1,(Af p1_0)),(3,[.mp 5]),(4,[.clo 99 0 [.loc 3 0]]),(5,[.mapO false false (.t9 o50.2.1) (.t4 o50.2.2)])],6⟩ (some 6) (fun st9=>(Bb (EV (Dj L) (L+24) 7 Cdd.u.r) (Dz Tryz.prog (RS Tryz.f117) (Bz Tryz.prog (Dj L) (EI (Dj L) (L+24) 8) 1 (List.drop 2 Ou.u.l.u.l.l.w.l.l.u.l.ops) ⟨[(12,.clo 117 0 [.loc 4 0,.loc 1 0]),(2,I 0),(4,.clo 117 0 [.loc 4 0,.loc 1 0]),(6,.sl false 178 1 [[.clo 102 0 [.loc 3 0,.loc 1 0]],[.clo 103 0 [.loc 1 0,.loc 3 0]],[.clo 109 0 [.loc 1 0,.loc 3 0]],[.clo 112 0 [.loc 1 0,.loc 3 0]],[.clo 115 0 [.loc 4 0,.loc 1 0]],[.clo 116 0 [.loc 4 0,.loc 1 0]],[.clo 117 0 [.loc 4 0,.loc 1 0]],[.clo 118 0 [.loc 4 0,.loc 1 0]],[.clo 119 0 [.loc 4 0,.loc 1 0]],[.clo 120 0 [.loc 1 0,.loc 3 0]],[.clo 124 0 [.loc 1 0]],[.clo 128 0 [.loc 1 0]]]),(7,I 12),(8,I 6),(9,B true),(10,.ref [.clo 117 0 [.loc 4 0,.loc 1 0]]),(11,.clo 117 0 [.loc 4 0,.loc 1 0])],[(1,(Af p1_0)),(3,[.mp 5]),(4,[.clo 99 0 [.loc 3 0]]),(5,[.mapO false false (.t9 o50.2.1) (.t4 o50.2.2)])],6⟩ (some 13) (fun st9=>(Bb (EV (Dj L) (L+24) 8 Ou.u.l.u.l.l.w.l.l.u.r) (Av 1 (Bb (EV (Dj L) (L+24) 8 Ou.u.l.u.l.l.w.r) (Gj (Ix (EV (Dj L) (L+24) 8 Ou.u.l.u.l.l) [0,2,6,7,8] [1,3,4,5] (L+17)) [0,2,6,7,8] [1,3,4,5] (Aex L k))))) .normal st9)))) .normal st9)))) .normal st9))
theorem Bz8(p1_0:Aa)(o50:Cv)(o51:Cv):Akf p1_0.Tallies p1_0 o50.2.1 o50.2.2 (Bar L k p1_0 o50) o51=ob (m4 L p1_0 o51) (u7 p1_0 k):=eE (q9 L p1_0 o51 (fun o51=>ho (At4 L (Bas L k p1_0 o51) p1_0.Levels p1_0 o51.2.1 o51.2.2) fun o52=>Bz9 L k p1_0 o51 o52))
def q8 [An A Cv](L:Nat)(p1_0:Aa)(o50:Cv)(nx100:Cv→A):A:=
 (cn (o50.1 != 0)
 (lf (o50.1,o50.2.1,o50.2.2))
 (gq ((0:Int)≤6)
 (gq (6 < ((12:Nat):Int))
 (nx100 o50))))
def Aay [An A Cv](p1_0:Aa)(o50:Cv):A:=q8 L p1_0 o50 (fun o50=>bd (Kj L p1_0.Tallies p1_0 o50.2.1 o50.2.2) fun o51=>m4 L p1_0 o51)
def Biq(p1_0:Aa)(o49:Cv):Bk:=(Bz Tryz.prog (Dj L) (EI (Dj L) (L+24) 6) 1 (List.drop 4 c99.u.l.ops) ⟨[(6,.clo 69 1 [.mp 5]),(5,.mp 5),(4,lv (.t9 p1_0.Streams)),(0,lv (.t9 p1_0.Streams)),(1,.loc 3 0),(3,I 0)],[(1,(Af p1_0)),(3,[.mp 5]),(4,[.clo 99 0 [.loc 3 0]]),(5,[.mapO false false (.t9 o49.2.1) (.t4 o49.2.2)])],6⟩ (some 7) (fun st9=>(Bb (EV (Dj L) (L+24) 6 c99.u.r) (Dz Tryz.prog (RS Tryz.f99) (Bz Tryz.prog (Dj L) (EI (Dj L) (L+24) 7) 1 (List.drop 4 Cdc.u.l.ops) ⟨[(5,lv (.t9 p1_0.Streams)),(4,.loc 1 6),(3,.clo 99 0 [.loc 3 0]),(0,.loc 4 0),(1,.loc 1 0),(2,I 0)],[(1,(Af p1_0)),(3,[.mp 5]),(4,[.clo 99 0 [.loc 3 0]]),(5,[.mapO false false (.t9 o49.2.1) (.t4 o49.2.2)])],6⟩ (some 6) (fun st9=>(Bb (EV (Dj L) (L+24) 7 Cdc.u.r) (Dz Tryz.prog (RS Tryz.f116) (Bz Tryz.prog (Dj L) (EI (Dj L) (L+24) 8) 1 (List.drop 2 Ou.u.l.u.l.l.w.l.l.u.l.ops) ⟨[(12,.clo 116 0 [.loc 4 0,.loc 1 0]),(2,I 0),(4,.clo 116 0 [.loc 4 0,.loc 1 0]),(6,.sl false 178 1 [[.clo 102 0 [.loc 3 0,.loc 1 0]],[.clo 103 0 [.loc 1 0,.loc 3 0]],[.clo 109 0 [.loc 1 0,.loc 3 0]],[.clo 112 0 [.loc 1 0,.loc 3 0]],[.clo 115 0 [.loc 4 0,.loc 1 0]],[.clo 116 0 [.loc 4 0,.loc 1 0]],[.clo 117 0 [.loc 4 0,.loc 1 0]],[.clo 118 0 [.loc 4 0,.loc 1 0]],[.clo 119 0 [.loc 4 0,.loc 1 0]],[.clo 120 0 [.loc 1 0,.loc 3 0]],[.clo 124 0 [.loc 1 0]],[.clo 128 0 [.loc 1 0]]]),(7,I 12),(8,I 5),(9,B true),(10,.ref [.clo 116 0 [.loc 4 0,.loc 1 0]]),(11,.clo 116 0 [.loc 4 0,.loc 1 0])],[(1,(Af p1_0)),(3,[.mp 5]),(4,[.clo 99 0 [.loc 3 0]]),(5,[.mapO false false (.t9 o49.2.1) (.t4 o49.2.2)])],6⟩ (some 13) (fun st9=>(Bb (EV (Dj L) (L+24) 8 Ou.u.l.u.l.l.w.l.l.u.r) (Av 1 (Bb (EV (Dj L) (L+24) 8 Ou.u.l.u.l.l.w.r) (Gj (Ix (EV (Dj L) (L+24) 8 Ou.u.l.u.l.l) [0,2,6,7,8] [1,3,4,5] (L+18)) [0,2,6,7,8] [1,3,4,5] (Aex L k))))) .normal st9)))) .normal st9)))) .normal st9))
theorem Cai(p1_0:Aa)(o49:Cv)(o50:Cv):Akf p1_0.Streams p1_0 o49.2.1 o49.2.2 (Biq L k p1_0 o49) o50=ob (Aay L p1_0 o50) (u7 p1_0 k):=eE (q8 L p1_0 o50 (fun o50=>ho (At4 L (Bar L k p1_0 o50) p1_0.Tallies p1_0 o50.2.1 o50.2.2) fun o51=>Bz8 L k p1_0 o50 o51))
def Aa9 [An A Cv](L:Nat)(p1_0:Aa)(o49:Cv)(nx99:Cv→A):A:=
 (cn (o49.1 != 0)
 (lf (o49.1,o49.2.1,o49.2.2))
 (gq ((0:Int)≤5)
 (gq (5 < ((12:Nat):Int))
 (nx99 o49))))
def Aax [An A Cv](p1_0:Aa)(o49:Cv):A:=Aa9 L p1_0 o49 (fun o49=>bd (Kj L p1_0.Streams p1_0 o49.2.1 o49.2.2) fun o50=>Aay L p1_0 o50)
def Bip(p1_0:Aa)(o42:Cv):Bk:=(Bz Tryz.prog (Dj L) (EI (Dj L) (L+24) 6) 1 (List.drop 4 c99.u.l.ops) ⟨[(6,.clo 69 1 [.mp 5]),(5,.mp 5),(4,lv (.t9 p1_0.Queues)),(0,lv (.t9 p1_0.Queues)),(1,.loc 3 0),(3,I 0)],[(1,(Af p1_0)),(3,[.mp 5]),(4,[.clo 99 0 [.loc 3 0]]),(5,[.mapO false false (.t9 o42.2.1) (.t4 o42.2.2)])],6⟩ (some 7) (fun st9=>(Bb (EV (Dj L) (L+24) 6 c99.u.r) (Dz Tryz.prog (RS Tryz.f99) (Bz Tryz.prog (Dj L) (EI (Dj L) (L+24) 7) 1 (List.drop 4 Cdb.u.l.ops) ⟨[(5,lv (.t9 p1_0.Queues)),(4,.loc 1 5),(3,.clo 99 0 [.loc 3 0]),(0,.loc 4 0),(1,.loc 1 0),(2,I 0)],[(1,(Af p1_0)),(3,[.mp 5]),(4,[.clo 99 0 [.loc 3 0]]),(5,[.mapO false false (.t9 o42.2.1) (.t4 o42.2.2)])],6⟩ (some 6) (fun st9=>(Bb (EV (Dj L) (L+24) 7 Cdb.u.r) (Dz Tryz.prog (RS Tryz.f115) (Bz Tryz.prog (Dj L) (EI (Dj L) (L+24) 8) 1 (List.drop 2 Ou.u.l.u.l.l.w.l.l.u.l.ops) ⟨[(12,.clo 115 0 [.loc 4 0,.loc 1 0]),(2,I 0),(4,.clo 115 0 [.loc 4 0,.loc 1 0]),(6,.sl false 178 1 [[.clo 102 0 [.loc 3 0,.loc 1 0]],[.clo 103 0 [.loc 1 0,.loc 3 0]],[.clo 109 0 [.loc 1 0,.loc 3 0]],[.clo 112 0 [.loc 1 0,.loc 3 0]],[.clo 115 0 [.loc 4 0,.loc 1 0]],[.clo 116 0 [.loc 4 0,.loc 1 0]],[.clo 117 0 [.loc 4 0,.loc 1 0]],[.clo 118 0 [.loc 4 0,.loc 1 0]],[.clo 119 0 [.loc 4 0,.loc 1 0]],[.clo 120 0 [.loc 1 0,.loc 3 0]],[.clo 124 0 [.loc 1 0]],[.clo 128 0 [.loc 1 0]]]),(7,I 12),(8,I 4),(9,B true),(10,.ref [.clo 115 0 [.loc 4 0,.loc 1 0]]),(11,.clo 115 0 [.loc 4 0,.loc 1 0])],[(1,(Af p1_0)),(3,[.mp 5]),(4,[.clo 99 0 [.loc 3 0]]),(5,[.mapO false false (.t9 o42.2.1) (.t4 o42.2.2)])],6⟩ (some 13) (fun st9=>(Bb (EV (Dj L) (L+24) 8 Ou.u.l.u.l.l.w.l.l.u.r) (Av 1 (Bb (EV (Dj L) (L+24) 8 Ou.u.l.u.l.l.w.r) (Gj (Ix (EV (Dj L) (L+24) 8 Ou.u.l.u.l.l) [0,2,6,7,8] [1,3,4,5] (L+19)) [0,2,6,7,8] [1,3,4,5] (Aex L k))))) .normal st9)))) .normal st9)))) .normal st9))
theorem Cah(p1_0:Aa)(o42:Cv)(o49:Cv):Akf p1_0.Queues p1_0 o42.2.1 o42.2.2 (Bip L k p1_0 o42) o49=ob (Aax L p1_0 o49) (u7 p1_0 k):=eE (Aa9 L p1_0 o49 (fun o49=>ho (At4 L (Biq L k p1_0 o49) p1_0.Streams p1_0 o49.2.1 o49.2.2) fun o50=>Cai L k p1_0 o49 o50))
def Aa8 [An A Cv](L:Nat)(p1_0:Aa)(o42:Cv)(nx98:Cv→A):A:=
 (cn (o42.1 != 0)
 (lf (o42.1,o42.2.1,o42.2.2))
 (gq ((0:Int)≤4)
 (gq (4 < ((12:Nat):Int))
 (nx98 o42))))
def Aav [An A Cv](p1_0:Aa)(o42:Cv):A:=Aa8 L p1_0 o42 (fun o42=>bd (Kj L p1_0.Queues p1_0 o42.2.1 o42.2.2) fun o49=>Aax L p1_0 o49)
def Bim(p1_0:Aa)(o31:Cv):Bk:=(Bz Tryz.prog (Dj L) (EI (Dj L) (L+24) 7) 1 (List.drop 4 Cda.u.l.ops) ⟨[(5,.clo 114 0 [.loc 3 0]),(4,lv (.t115 p1_0.Belts)),(3,.loc 1 4),(0,.loc 1 0),(1,.loc 3 0),(2,I 0)],[(1,(Af p1_0)),(3,[.mp 5]),(4,[.clo 99 0 [.loc 3 0]]),(5,[.mapO false false (.t9 o31.2.1) (.t4 o31.2.2)])],6⟩ (some 6) (fun st9=>(Bb (EV (Dj L) (L+24) 7 Cda.u.r) (Dz Tryz.prog (RS Tryz.f112) (Bz Tryz.prog (Dj L) (EI (Dj L) (L+24) 8) 1 (List.drop 2 Ou.u.l.u.l.l.w.l.l.u.l.ops) ⟨[(12,.clo 112 0 [.loc 1 0,.loc 3 0]),(2,I 0),(4,.clo 112 0 [.loc 1 0,.loc 3 0]),(6,.sl false 178 1 [[.clo 102 0 [.loc 3 0,.loc 1 0]],[.clo 103 0 [.loc 1 0,.loc 3 0]],[.clo 109 0 [.loc 1 0,.loc 3 0]],[.clo 112 0 [.loc 1 0,.loc 3 0]],[.clo 115 0 [.loc 4 0,.loc 1 0]],[.clo 116 0 [.loc 4 0,.loc 1 0]],[.clo 117 0 [.loc 4 0,.loc 1 0]],[.clo 118 0 [.loc 4 0,.loc 1 0]],[.clo 119 0 [.loc 4 0,.loc 1 0]],[.clo 120 0 [.loc 1 0,.loc 3 0]],[.clo 124 0 [.loc 1 0]],[.clo 128 0 [.loc 1 0]]]),(7,I 12),(8,I 3),(9,B true),(10,.ref [.clo 112 0 [.loc 1 0,.loc 3 0]]),(11,.clo 112 0 [.loc 1 0,.loc 3 0])],[(1,(Af p1_0)),(3,[.mp 5]),(4,[.clo 99 0 [.loc 3 0]]),(5,[.mapO false false (.t9 o31.2.1) (.t4 o31.2.2)])],6⟩ (some 13) (fun st9=>(Bb (EV (Dj L) (L+24) 8 Ou.u.l.u.l.l.w.l.l.u.r) (Av 1 (Bb (EV (Dj L) (L+24) 8 Ou.u.l.u.l.l.w.r) (Gj (Ix (EV (Dj L) (L+24) 8 Ou.u.l.u.l.l) [0,2,6,7,8] [1,3,4,5] (L+20)) [0,2,6,7,8] [1,3,4,5] (Aex L k))))) .normal st9)))) .normal st9))
theorem Cae(p1_0:Aa)(o31:Cv)(o42:Cv):A66 p1_0.Belts p1_0 o31.2.1 o31.2.2 (Bim L k p1_0 o31) o42=ob (Aav L p1_0 o42) (u7 p1_0 k):=eE (Aa8 L p1_0 o42 (fun o42=>ho (At4 L (Bip L k p1_0 o42) p1_0.Queues p1_0 o42.2.1 o42.2.2) fun o49=>Cah L k p1_0 o42 o49))
def Aa7 [An A Cv](L:Nat)(p1_0:Aa)(o31:Cv)(nx93:Cv→A):A:=
 (cn (o31.1 != 0)
 (lf (o31.1,o31.2.1,o31.2.2))
 (gq ((0:Int)≤3)
 (gq (3 < ((12:Nat):Int))
 (nx93 o31))))
def Aat [An A Cv](p1_0:Aa)(o31:Cv):A:=Aa7 L p1_0 o31 (fun o31=>bd (z6 L p1_0.Belts p1_0 o31.2.1 o31.2.2) fun o42=>Aav L p1_0 o42)
def Bii(p1_0:Aa)(o21:Cv):Bk:=(Bz Tryz.prog (Dj L) (EI (Dj L) (L+24) 7) 1 (List.drop 4 Cc9.u.l.ops) ⟨[(5,.clo 111 0 [.loc 3 0]),(4,lv (.t113 p1_0.Stores)),(3,.loc 1 3),(0,.loc 1 0),(1,.loc 3 0),(2,I 0)],[(1,(Af p1_0)),(3,[.mp 5]),(4,[.clo 99 0 [.loc 3 0]]),(5,[.mapO false false (.t9 o21.2.1) (.t4 o21.2.2)])],6⟩ (some 6) (fun st9=>(Bb (EV (Dj L) (L+24) 7 Cc9.u.r) (Dz Tryz.prog (RS Tryz.f109) (Bz Tryz.prog (Dj L) (EI (Dj L) (L+24) 8) 1 (List.drop 2 Ou.u.l.u.l.l.w.l.l.u.l.ops) ⟨[(12,.clo 109 0 [.loc 1 0,.loc 3 0]),(2,I 0),(4,.clo 109 0 [.loc 1 0,.loc 3 0]),(6,.sl false 178 1 [[.clo 102 0 [.loc 3 0,.loc 1 0]],[.clo 103 0 [.loc 1 0,.loc 3 0]],[.clo 109 0 [.loc 1 0,.loc 3 0]],[.clo 112 0 [.loc 1 0,.loc 3 0]],[.clo 115 0 [.loc 4 0,.loc 1 0]],[.clo 116 0 [.loc 4 0,.loc 1 0]],[.clo 117 0 [.loc 4 0,.loc 1 0]],[.clo 118 0 [.loc 4 0,.loc 1 0]],[.clo 119 0 [.loc 4 0,.loc 1 0]],[.clo 120 0 [.loc 1 0,.loc 3 0]],[.clo 124 0 [.loc 1 0]],[.clo 128 0 [.loc 1 0]]]),(7,I 12),(8,I 2),(9,B true),(10,.ref [.clo 109 0 [.loc 1 0,.loc 3 0]]),(11,.clo 109 0 [.loc 1 0,.loc 3 0])],[(1,(Af p1_0)),(3,[.mp 5]),(4,[.clo 99 0 [.loc 3 0]]),(5,[.mapO false false (.t9 o21.2.1) (.t4 o21.2.2)])],6⟩ (some 13) (fun st9=>(Bb (EV (Dj L) (L+24) 8 Ou.u.l.u.l.l.w.l.l.u.r) (Av 1 (Bb (EV (Dj L) (L+24) 8 Ou.u.l.u.l.l.w.r) (Gj (Ix (EV (Dj L) (L+24) 8 Ou.u.l.u.l.l) [0,2,6,7,8] [1,3,4,5] (L+21)) [0,2,6,7,8] [1,3,4,5] (Aex L k))))) .normal st9)))) .normal st9))
theorem Caa(p1_0:Aa)(o21:Cv)(o31:Cv):A64 p1_0.Stores p1_0 o21.2.1 o21.2.2 (Bii L k p1_0 o21) o31=ob (Aat L p1_0 o31) (u7 p1_0 k):=eE (Aa7 L p1_0 o31 (fun o31=>ho (Bxo L (Bim L k p1_0 o31) p1_0.Belts p1_0 o31.2.1 o31.2.2) fun o42=>Cae L k p1_0 o31 o42))
def Aa6 [An A Cv](L:Nat)(p1_0:Aa)(o21:Cv)(nx84:Cv→A):A:=
 (cn (o21.1 != 0)
 (lf (o21.1,o21.2.1,o21.2.2))
 (gq ((0:Int)≤2)
 (gq (2 < ((12:Nat):Int))
 (nx84 o21))))
def Aar [An A Cv](p1_0:Aa)(o21:Cv):A:=Aa6 L p1_0 o21 (fun o21=>bd (y8 L p1_0.Stores p1_0 o21.2.1 o21.2.2) fun o31=>Aat L p1_0 o31)
def Bie(p1_0:Aa)(o10:Cv):Bk:=(Bz Tryz.prog (Dj L) (EI (Dj L) (L+24) 7) 1 (List.drop 4 Cc7.u.l.ops) ⟨[(5,.clo 105 0 [.loc 3 0,.loc 1 0]),(4,lv (.t110 p1_0.Resources)),(3,.loc 1 2),(0,.loc 1 0),(1,.loc 3 0),(2,I 0)],[(1,(Af p1_0)),(3,[.mp 5]),(4,[.clo 99 0 [.loc 3 0]]),(5,[.mapO false false (.t9 o10.2.1) (.t4 o10.2.2)])],6⟩ (some 6) (fun st9=>(Bb (EV (Dj L) (L+24) 7 Cc7.u.r) (Dz Tryz.prog (RS Tryz.f103) (Bz Tryz.prog (Dj L) (EI (Dj L) (L+24) 8) 1 (List.drop 2 Ou.u.l.u.l.l.w.l.l.u.l.ops) ⟨[(12,.clo 103 0 [.loc 1 0,.loc 3 0]),(2,I 0),(4,.clo 103 0 [.loc 1 0,.loc 3 0]),(6,.sl false 178 1 [[.clo 102 0 [.loc 3 0,.loc 1 0]],[.clo 103 0 [.loc 1 0,.loc 3 0]],[.clo 109 0 [.loc 1 0,.loc 3 0]],[.clo 112 0 [.loc 1 0,.loc 3 0]],[.clo 115 0 [.loc 4 0,.loc 1 0]],[.clo 116 0 [.loc 4 0,.loc 1 0]],[.clo 117 0 [.loc 4 0,.loc 1 0]],[.clo 118 0 [.loc 4 0,.loc 1 0]],[.clo 119 0 [.loc 4 0,.loc 1 0]],[.clo 120 0 [.loc 1 0,.loc 3 0]],[.clo 124 0 [.loc 1 0]],[.clo 128 0 [.loc 1 0]]]),(7,I 12),(8,I 1),(9,B true),(10,.ref [.clo 103 0 [.loc 1 0,.loc 3 0]]),(11,.clo 103 0 [.loc 1 0,.loc 3 0])],[(1,(Af p1_0)),(3,[.mp 5]),(4,[.clo 99 0 [.loc 3 0]]),(5,[.mapO false false (.t9 o10.2.1) (.t4 o10.2.2)])],6⟩ (some 13) (fun st9=>(Bb (EV (Dj L) (L+24) 8 Ou.u.l.u.l.l.w.l.l.u.r) (Av 1 (Bb (EV (Dj L) (L+24) 8 Ou.u.l.u.l.l.w.r) (Gj (Ix (EV (Dj L) (L+24) 8 Ou.u.l.u.l.l) [0,2,6,7,8] [1,3,4,5] (L+22)) [0,2,6,7,8] [1,3,4,5] (Aex L k))))) .normal st9)))) .normal st9))
theorem B96(p1_0:Aa)(o10:Cv)(o21:Cv):A62 p1_0.Resources p1_0 o10.2.1 o10.2.2 (Bie L k p1_0 o10) o21=ob (Aar L p1_0 o21) (u7 p1_0 k):=eE (Aa6 L p1_0 o21 (fun o21=>ho (Bxl L (Bii L k p1_0 o21) p1_0.Stores p1_0 o21.2.1 o21.2.2) fun o31=>Caa L k p1_0 o21 o31))
def Aa5 [An A Cv](L:Nat)(p1_0:Aa)(o10:Cv)(nx75:Cv→A):A:=
 (cn (o10.1 != 0)
 (lf (o10.1,o10.2.1,o10.2.2))
 (gq ((0:Int)≤1)
 (gq (1 < ((12:Nat):Int))
 (nx75 o10))))
def Aap [An A Cv](p1_0:Aa)(o10:Cv):A:=Aa5 L p1_0 o10 (fun o10=>bd (y6 L p1_0.Resources p1_0 o10.2.1 o10.2.2) fun o21=>Aar L p1_0 o21)
def Bia(p1_0:Aa):Bk:=(Bz Tryz.prog (Dj L) (EI (Dj L) (L+24) 6) 1 (List.drop 4 c66.u.l.ops) ⟨[(7,.clo 98 1 [.mp 5]),(6,.mp 5),(5,lv (.t39 p1_0.Vars)),(0,.mp 5),(1,lv (.t39 p1_0.Vars)),(4,I 0)],[(1,(Af p1_0)),(3,[.mp 5]),(4,[.clo 99 0 [.loc 3 0]]),(5,[.mapO false false (.t9 []) (.t4 [])])],6⟩ (some 8) (fun st9=>(Bb (EV (Dj L) (L+24) 6 c66.u.r) (Dz Tryz.prog (RS Tryz.f66) (Bz Tryz.prog (Dj L) (EI (Dj L) (L+24) 7) 1 (List.drop 4 Cc6.u.l.ops) ⟨[(5,lv (.t39 p1_0.Vars)),(4,.loc 1 1),(3,.mp 5),(0,.loc 3 0),(1,.loc 1 0),(2,I 0)],[(1,(Af p1_0)),(3,[.mp 5]),(4,[.clo 99 0 [.loc 3 0]]),(5,[.mapO false false (.t9 []) (.t4 [])])],6⟩ (some 6) (fun st9=>(Bb (EV (Dj L) (L+24) 7 Cc6.u.r) (Dz Tryz.prog (RS Tryz.f102) (Bz Tryz.prog (Dj L) (EI (Dj L) (L+24) 8) 1 (List.drop 2 Ou.u.l.u.l.l.w.l.l.u.l.ops) ⟨[(12,.clo 102 0 [.loc 3 0,.loc 1 0]),(2,I 0),(4,.clo 102 0 [.loc 3 0,.loc 1 0]),(6,.sl false 178 1 [[.clo 102 0 [.loc 3 0,.loc 1 0]],[.clo 103 0 [.loc 1 0,.loc 3 0]],[.clo 109 0 [.loc 1 0,.loc 3 0]],[.clo 112 0 [.loc 1 0,.loc 3 0]],[.clo 115 0 [.loc 4 0,.loc 1 0]],[.clo 116 0 [.loc 4 0,.loc 1 0]],[.clo 117 0 [.loc 4 0,.loc 1 0]],[.clo 118 0 [.loc 4 0,.loc 1 0]],[.clo 119 0 [.loc 4 0,.loc 1 0]],[.clo 120 0 [.loc 1 0,.loc 3 0]],[.clo 124 0 [.loc 1 0]],[.clo 128 0 [.loc 1 0]]]),(7,I 12),(8,I 0),(9,B true),(10,.ref [.clo 102 0 [.loc 3 0,.loc 1 0]]),(11,.clo 102 0 [.loc 3 0,.loc 1 0])],[(1,(Af p1_0)),(3,[.mp 5]),(4,[.clo 99 0 [.loc 3 0]]),(5,[.mapO false false (.t9 []) (.t4 [])])],6⟩ (some 13) (fun st9=>(Bb (EV (Dj L) (L+24) 8 Ou.u.l.u.l.l.w.l.l.u.r) (Av 1 (Bb (EV (Dj L) (L+24) 8 Ou.u.l.u.l.l.w.r) (Gj (Ix (EV (Dj L) (L+24) 8 Ou.u.l.u.l.l) [0,2,6,7,8] [1,3,4,5] (L+23)) [0,2,6,7,8] [1,3,4,5] (Aex L k))))) .normal st9)))) .normal st9)))) .normal st9))
theorem B92(p1_0:Aa)(o10:Cv):A60 p1_0.Vars p1_0 (Bia L k p1_0) o10=ob (Aap L p1_0 o10) (u7 p1_0 k):=eE (Aa5 L p1_0 o10 (fun o10=>ho (Bxi L (Bie L k p1_0 o10) p1_0.Resources p1_0 o10.2.1 o10.2.2) fun o21=>B96 L k p1_0 o10 o21))
def Aa4 [An A Cv](L:Nat)(p1_0:Aa)(nx66:A):A:=
 (gq ((0:Int)≤0)
 (gq (0 < ((12:Nat):Int))
 nx66))
def Als [An A Cv](p1_0:Aa):A:=Aa4 L p1_0 (bd (x9 L p1_0.Vars p1_0) fun o10=>Aap L p1_0 o10)
def Yd(p1_0:Aa):Option Cv:=Als L p1_0
theorem B5s(p1_0:Aa):YO (Dj L) (L+24) 9 101 [.sl false 178 1 [[.clo 102 0 [.loc 3 0,.loc 1 0]],[.clo 103 0 [.loc 1 0,.loc 3 0]],[.clo 109 0 [.loc 1 0,.loc 3 0]],[.clo 112 0 [.loc 1 0,.loc 3 0]],[.clo 115 0 [.loc 4 0,.loc 1 0]],[.clo 116 0 [.loc 4 0,.loc 1 0]],[.clo 117 0 [.loc 4 0,.loc 1 0]],[.clo 118 0 [.loc 4 0,.loc 1 0]],[.clo 119 0 [.loc 4 0,.loc 1 0]],[.clo 120 0 [.loc 1 0,.loc 3 0]],[.clo 124 0 [.loc 1 0]],[.clo 128 0 [.loc 1 0]]]] [(1,(Af p1_0)),(3,[.mp 5]),(4,[.clo 99 0 [.loc 3 0]]),(5,[.mapO false false (.t9 []) (.t4 [])])] k=ob (Yd L p1_0) (u7 p1_0 k):=(C3 _ _ _ jn4 _ _ _ _ _ _ _).trans (eE (Aa4 L p1_0 (ho (Bxf L (Bia L k p1_0) p1_0.Vars p1_0) fun o10=>B92 L k p1_0 o10)))
def Qb [An A Int](L:Nat)(o67:Cv):A:=
 (lf o67.1)
def Ba0(a0:Aa):Bk:=(Bz Tryz.prog (Dj L) (EI (Dj L) (L+24) 9) 1 (List.drop 14 c70.w.u.l.ops) ⟨[(19,.sl true 178 1 [[.clo 102 0 [.loc 3 0,.loc 1 0]],[.clo 103 0 [.loc 1 0,.loc 3 0]],[.clo 109 0 [.loc 1 0,.loc 3 0]],[.clo 112 0 [.loc 1 0,.loc 3 0]],[.clo 115 0 [.loc 4 0,.loc 1 0]],[.clo 116 0 [.loc 4 0,.loc 1 0]],[.clo 117 0 [.loc 4 0,.loc 1 0]],[.clo 118 0 [.loc 4 0,.loc 1 0]],[.clo 119 0 [.loc 4 0,.loc 1 0]],[.clo 120 0 [.loc 1 0,.loc 3 0]],[.clo 124 0 [.loc 1 0]],[.clo 128 0 [.loc 1 0]]]),(18,.clo 128 0 [.loc 1 0]),(17,.clo 124 0 [.loc 1 0]),(16,.clo 120 0 [.loc 1 0,.loc 3 0]),(15,.clo 119 0 [.loc 4 0,.loc 1 0]),(14,.clo 118 0 [.loc 4 0,.loc 1 0]),(13,.clo 117 0 [.loc 4 0,.loc 1 0]),(12,.clo 116 0 [.loc 4 0,.loc 1 0]),(11,.clo 115 0 [.loc 4 0,.loc 1 0]),(10,.clo 112 0 [.loc 1 0,.loc 3 0]),(9,.clo 109 0 [.loc 1 0,.loc 3 0]),(8,.clo 103 0 [.loc 1 0,.loc 3 0]),(7,.clo 102 0 [.loc 3 0,.loc 1 0]),(1,.loc 1 0),(2,I 0),(3,.loc 3 0),(4,.loc 4 0)],[(1,(Af a0)),(3,[.mp 5]),(4,[.clo 99 0 [.loc 3 0]]),(5,[.mapO false false (.t9 []) (.t4 [])])],0⟩ (some 20) (fun st9=>(Bb (EV (Dj L) (L+24) 9 c70.w.u.r) (Cm Tryz.prog (RS Tryz.f70) kk)) .normal st9))
theorem B0h(a0:Aa)(o67:Cv):u7 a0 (Ba0 L kk a0) o67=ob (Qb L o67) (kQ I kk):=eE (Qb L o67)
def Atl [An A Int](a0:Aa):A:=(bd (Yd L a0) fun o67=>Qb L o67)
def Adt(a0:Aa):Option Int:=Atl L a0
def X70:Ew:=E1 I 70 B8 (Adt L) fun a0 r h=>hF Tryz.func70 (C:=Dj L) (oS _) (L+24) (fun kk=>eE ((ho (B5s L (Ba0 L kk a0) a0) fun o67=>B0h L kk a0 o67))) h
end
end Go.Proofs.YtofcpkmnhmnfcaaGreatR.Ev
