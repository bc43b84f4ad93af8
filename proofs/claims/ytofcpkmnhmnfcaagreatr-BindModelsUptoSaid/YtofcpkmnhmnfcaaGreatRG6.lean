import Derived.Test.YtofcpkmnhmnfcaaGreatRG3
import Derived.Test.YtofcpkmnhmnfcaaGreatRG4
import Derived.Test.YtofcpkmnhmnfcaaGreatRG5
namespace Go.Proofs.YtofcpkmnhmnfcaaGreatR.Ev
open Go An
set_option maxRecDepth 100000
set_option maxHeartbeats 4000000
set_option linter.unusedVariables false
set_option linter.unusedSimpArgs false
set_option linter.unnecessarySimpa false
noncomputable section
variable {A:Type} (L n:Nat) (kk:Cz) (K:Ba) (k:Bq)
def c66:=CC Tryz.f66
def c97:=CC Tryz.f97
def c98:=CC Tryz.f98
def c99:=CC Tryz.f99
def Bsc:=CC Tryz.f100
def Ru:=CC Tryz.f101
def Cjh:=CC Tryz.f102
def Cji:=CC Tryz.f103
def Bsd:=CC Tryz.f104
def Ca2:=CC Tryz.f105
def Cjk:=CC Tryz.f109
def Bse:=CC Tryz.f110
def Ca3:=CC Tryz.f111
def Cjl:=CC Tryz.f112
def Bsf:=CC Tryz.f113
def Ca4:=CC Tryz.f114
def Cjm:=CC Tryz.f115
def Cjn:=CC Tryz.f116
def Cjo:=CC Tryz.f117
def Cjp:=CC Tryz.f118
def Cjq:=CC Tryz.f119
def Cjr:=CC Tryz.f120
def Bsg:=CC Tryz.f121
def Ca5:=CC Tryz.f122
def Cjs:=CC Tryz.f124
def Cjt:=CC Tryz.f125
def c70:=CC Tryz.f70
def Ds:Bd:=oL [X65 L,Bjl L,Chs L,Cht L,Chu L,Chv L,Chw L,B0x L,B0y L]
def Ami:Ba:=(Av 0 (Be (EV (Ds L) (L+24) 8 Ru.u.r) (Eb Tryz.prog (RS Tryz.f101) k)))
def Blp(p47_0:ByteArray)(p47_1:Aa)(p47_2:List ByteArray)(p47_3:List Bool)(p47_4:Ag)(p47_5:Ag)(k:Bq):Cw→Prop:=fun o=>k (I o.1) [(1,(Af p47_1)),(3,[.mp 5]),(4,[.clo 99 0 [.loc 3 0]]),(5,[.mapO false false (.t9 o.2.1) (.t4 o.2.2)]),(14,(B9 p47_4)),(18,(B9 p47_5))]
def Apz [An A Cw](p47_0:ByteArray)(p47_1:Aa)(p47_2:List ByteArray)(p47_3:List Bool)(p47_4:Ag)(p47_5:Ag):A:=
 (bd (Dc L p47_0) fun r1=>
 (cn (r1 != 0)
 (lf (r1,p47_2,p47_3))
 (fq (p47_2.findIdx? fun b=>p47_0 == b) (fun i2=>
 (cn (p47_3.getD i2 default)
 (lf (4,p47_2,p47_3))
 (fq (p47_2.findIdx? fun b=>p47_0 == b) (fun i3=>
 (lf (0,p47_2,(p47_3.set i3 true))))
 (lf (0,(p47_2++ [p47_0]),(p47_3++ [true]))))))
 (fq (p47_2.findIdx? fun b=>p47_0 == b) (fun i4=>
 (lf (0,p47_2,(p47_3.set i4 true))))
 (lf (0,(p47_2++ [p47_0]),(p47_3++ [true])))))))
def Agl(p47_0:ByteArray)(p47_1:Aa)(p47_2:List ByteArray)(p47_3:List Bool)(p47_4:Ag)(p47_5:Ag):Option Cw:=Apz L p47_0 p47_1 p47_2 p47_3 p47_4 p47_5
theorem B3q(p47_0:ByteArray)(p47_1:Aa)(p47_2:List ByteArray)(p47_3:List Bool)(p47_4:Ag)(p47_5:Ag):YO (Ds L) (L+24) 4 69 [.mp 5,S p47_0] [(1,(Af p47_1)),(3,[.mp 5]),(4,[.clo 99 0 [.loc 3 0]]),(5,[.mapO false false (.t9 p47_2) (.t4 p47_3)]),(14,(B9 p47_4)),(18,(B9 p47_5))] k=ob (Agl L p47_0 p47_1 p47_2 p47_3 p47_4 p47_5) (Blp p47_0 p47_1 p47_2 p47_3 p47_4 p47_5 k):=(C3 _ _ _ jn4 _ _ _ _ _ _ _).trans (eE (Apz L p47_0 p47_1 p47_2 p47_3 p47_4 p47_5))
def Bcw(p45_0:Ag)(p45_1:Aa)(p45_2:List ByteArray)(p45_3:List Bool)(p45_4:Ag)(k:Bq):Cw→Prop:=fun o=>k (I o.1) [(1,(Af p45_1)),(3,[.mp 5]),(4,[.clo 99 0 [.loc 3 0]]),(5,[.mapO false false (.t9 o.2.1) (.t4 o.2.2)]),(14,(B9 p45_4)),(18,(B9 p45_0))]
def v5 [An A Cw](p45_0:Ag)(o5:Cw):A:=
 (cn (o5.1 != 0)
 (lf (o5.1,o5.2.1,o5.2.2))
 (bd (L1 L p45_0.Type_) fun r6=>
 (cn (!r6)
 (lf (1,o5.2.1,o5.2.2))
 (bd (Vu L p45_0.Type_ p45_0.N) fun r7=>
 (cn (!r7)
 (lf (2,o5.2.1,o5.2.2))
 (lf (0,o5.2.1,o5.2.2)))))))
def Bor(p45_0:Ag)(p45_1:Aa)(p45_2:List ByteArray)(p45_3:List Bool)(p45_4:Ag):Bq:=(B4 Tryz.prog (Ds L) (EI (Ds L) (L+24) 4) 1 (List.drop 4 c98.u.l.l.ops) ⟨[(8,S p45_0.Name),(7,.loc 18 0),(6,.mp 5),(0,.mp 5),(3,.loc 18 0),(4,I 0)],[(1,(Af p45_1)),(3,[.mp 5]),(4,[.clo 99 0 [.loc 3 0]]),(5,[.mapO false false (.t9 p45_2) (.t4 p45_3)]),(14,(B9 p45_4)),(18,(B9 p45_0))],15⟩ (some 9) (fun st9=>(Be (EV (Ds L) (L+24) 4 c98.u.l.r) (Be (EV (Ds L) (L+24) 4 c98.u.r) (Eb Tryz.prog (RS Tryz.f98) k))) .normal st9))
theorem Cgb(p45_0:Ag)(p45_1:Aa)(p45_2:List ByteArray)(p45_3:List Bool)(p45_4:Ag)(o5:Cw):Blp p45_0.Name p45_1 p45_2 p45_3 p45_4 p45_0 (Bor L k p45_0 p45_1 p45_2 p45_3 p45_4) o5=ob (v5 L p45_0 o5) (Bcw p45_0 p45_1 p45_2 p45_3 p45_4 k):=eE (v5 L p45_0 o5)
def Apy [An A Cw](p45_0:Ag)(p45_1:Aa)(p45_2:List ByteArray)(p45_3:List Bool)(p45_4:Ag):A:=(bd (Agl L p45_0.Name p45_1 p45_2 p45_3 p45_4 p45_0) fun o5=>v5 L p45_0 o5)
def Pw(p45_0:Ag)(p45_1:Aa)(p45_2:List ByteArray)(p45_3:List Bool)(p45_4:Ag):Option Cw:=Apy L p45_0 p45_1 p45_2 p45_3 p45_4
theorem B3p(p45_0:Ag)(p45_1:Aa)(p45_2:List ByteArray)(p45_3:List Bool)(p45_4:Ag):YO (Ds L) (L+24) 5 98 [.mp 5,.agg (B9 p45_0)] [(1,(Af p45_1)),(3,[.mp 5]),(4,[.clo 99 0 [.loc 3 0]]),(5,[.mapO false false (.t9 p45_2) (.t4 p45_3)]),(14,(B9 p45_4))] k=ob (Pw L p45_0 p45_1 p45_2 p45_3 p45_4) (Bcw p45_0 p45_1 p45_2 p45_3 p45_4 k):=(C3 _ _ _ jn4 _ _ _ _ _ _ _).trans (eE ((ho (B3q L (Bor L k p45_0 p45_1 p45_2 p45_3 p45_4) p45_0.Name p45_1 p45_2 p45_3 p45_4 p45_0) fun o5=>Cgb L k p45_0 p45_1 p45_2 p45_3 p45_4 o5)))
def Bkz(p41_0:List Ag)(p41_1:Aa)(v:Tu5):St:=⟨[(0,.any),(1,.any),(2,.clo 98 1 [.mp 5]),(6,I v.1),(14,lv (.t39 p41_0)),(15,I (p41_0.length:Int)),(16,I v.2.1)],[(1,(Af p41_1)),(3,[.mp 5]),(4,[.clo 99 0 [.loc 3 0]]),(5,[.mapO false false (.t9 v.2.2.1) (.t4 v.2.2.2)])],6⟩
def Vc [An A Vo](L:Nat)(Aj:Int)(Al:Int)(rec:Int→Int→List ByteArray→List Bool→A)(o8:Cw):A:=
 (cn (o8.1 != 0)
 (lf (0,o8.1,Aj,o8.2.1,o8.2.2))
 (rec Al (B7 (Aj+1)) o8.2.1 o8.2.2))
def y7 [An A Vo](L:Nat)(p41_0:List Ag)(p41_1:Aa)(rec:Int→Int→List ByteArray→List Bool→A)(Al:Int)(Aj:Int)(Dl:List ByteArray)(Dm:List Bool)(nx64:Int→(List ByteArray)→(List Bool)→Int→A):A:=
 (lw Aj p41_0
 (nx64 Aj Dl Dm Al)
 (lf (1,Al,Aj,Dl,Dm)))
def Aj6 [An A Vo](p41_0:List Ag)(p41_1:Aa)(rec:Int→Int→List ByteArray→List Bool→A)(Al:Int)(Aj:Int)(Dl:List ByteArray)(Dm:List Bool):A:=y7 L p41_0 p41_1 rec Al Aj Dl Dm (fun Aj Dl Dm Al=>bd (Pw L (p41_0.getD (Int.toNat Aj) default) p41_1 Dl Dm (p41_0.getD (Int.toNat Aj) default)) fun o8=>Vc L Aj Al rec o8)
def Kn(L:Nat)(p41_0:List Ag)(p41_1:Aa):Nat→Int→Int→List ByteArray→List Bool→Option Vo
 |0,_,_,_,_=>none
 |n+1,Al,Aj,Dl,Dm=>Aj6 L p41_0 p41_1 (Kn L p41_0 p41_1 n) Al Aj Dl Dm
def Bt0(p41_0:List Ag)(p41_1:Aa):Prop:=LI (EV (Ds L) (L+24) 5 c97.w.l.u.l.l) [0,1,2,6,14,15,16] [1,3,4,5] (Bkz p41_0 p41_1) [.ret,.exit 0] (fun n v=>Kn L p41_0 p41_1 n v.1 v.2.1 v.2.2.1 v.2.2.2) K n
def Bos(p41_0:List Ag)(Aj:Int)(Al:Int)(p41_1:Aa)(Dl:List ByteArray)(Dm:List Bool):Bq:=(B4 Tryz.prog (Ds L) (EI (Ds L) (L+24) 5) 1 (List.drop 3 c97.w.l.u.l.l.w.l.l.u.l.ops) ⟨[(21,.agg (B9 (p41_0.getD (Int.toNat Aj) default))),(20,.clo 98 1 [.mp 5]),(2,.clo 98 1 [.mp 5]),(6,I Al),(8,.loc 14 0),(14,lv (.t39 p41_0)),(15,I (p41_0.length:Int)),(16,I Aj),(17,B (decide (Aj < (p41_0.length:Int)))),(18,.ref (B9 (p41_0.getD (Int.toNat Aj) default))),(19,.agg (B9 (p41_0.getD (Int.toNat Aj) default)))],[(1,(Af p41_1)),(3,[.mp 5]),(4,[.clo 99 0 [.loc 3 0]]),(5,[.mapO false false (.t9 Dl) (.t4 Dm)]),(14,(B9 (p41_0.getD (Int.toNat Aj) default)))],6⟩ (some 22) (fun st9=>(Be (EV (Ds L) (L+24) 5 c97.w.l.u.l.l.w.l.l.u.r) (Av 1 (Be (EV (Ds L) (L+24) 5 c97.w.l.u.l.l.w.r) (Hh (Jj (EV (Ds L) (L+24) 5 c97.w.l.u.l.l) [0,1,2,6,14,15,16] [1,3,4,5] n) [0,1,2,6,14,15,16] [1,3,4,5] K)))) .normal st9))
theorem Cgc(p41_0:List Ag)(Aj:Int)(p41_1:Aa)(Dl:List ByteArray)(Dm:List Bool)(Al:Int)(ih:Bt0 L n K p41_0 p41_1)(o8:Cw):Bcw (p41_0.getD (Int.toNat Aj) default) p41_1 Dl Dm (p41_0.getD (Int.toNat Aj) default) (Bos L n K p41_0 Aj Al p41_1 Dl Dm) o8=ob (Vc L Aj Al (Kn L p41_0 p41_1 n) o8) (kX [.ret,.exit 0] (Bkz p41_0 p41_1) K):=eE (Vc L Aj Al (fun Al Aj Dl Dm=>re (ih (Al,Aj,Dl,Dm))) o8)
theorem Cdd(p41_0:List Ag)(p41_1:Aa):∀n,Bt0 L n K p41_0 p41_1:=lE (fun _=>rfl) fun n v ih=>eE (y7 L p41_0 p41_1 (fun Al Aj Dl Dm=>re (ih (Al,Aj,Dl,Dm))) v.1 v.2.1 v.2.2.1 v.2.2.2 (fun Aj Dl Dm Al=>ho (B3p L (Bos L n K p41_0 Aj Al p41_1 Dl Dm) (p41_0.getD (Int.toNat Aj) default) p41_1 Dl Dm (p41_0.getD (Int.toNat Aj) default)) fun o8=>Cgc L n K p41_0 Aj p41_1 Dl Dm Al ih o8))
def Bcv(p41_0:List Ag)(p41_1:Aa)(k:Bq):Cw→Prop:=fun o=>k (I o.1) [(1,(Af p41_1)),(3,[.mp 5]),(4,[.clo 99 0 [.loc 3 0]]),(5,[.mapO false false (.t9 o.2.1) (.t4 o.2.2)])]
def Ag4 [An A Cw](L:Nat)(o9:Nat×Tu5):A:=
 (sl o9.1 [(lf (o9.2.1,o9.2.2.2.1,o9.2.2.2.2)),
 (lf (0,o9.2.2.2.1,o9.2.2.2.2))])
def Bou:Ba:=(Av 0 (Be (EV (Ds L) (L+24) 5 c97.w.r) (Eb Tryz.prog (RS Tryz.f97) k)))
theorem Cgd(p41_0:List Ag)(p41_1:Aa)(o9:Nat×Tu5):kX [.ret,.exit 0] (Bkz p41_0 p41_1) (Bou L k) o9=ob (Ag4 L o9) (Bcv p41_0 p41_1 k):=eE (Ag4 L o9)
def Aqk [An A Cw](L:Nat)(p41_0:List Ag)(p41_1:Aa)(nx65:A):A:=
 (cn (decide ((p41_0.length:Int) > 32))
 (lf (6,[],[]))
 nx65)
def A0v [An A Cw](p41_0:List Ag)(p41_1:Aa):A:=Aqk L p41_0 p41_1 (bd (Kn L p41_0 p41_1 (L+24) 0 0 [] []) fun o9=>Ag4 L o9)
def Agk(p41_0:List Ag)(p41_1:Aa):Option Cw:=A0v L p41_0 p41_1
theorem B3o(p41_0:List Ag)(p41_1:Aa):YO (Ds L) (L+24) 6 97 [lv (.t39 p41_0),I 32,.clo 98 1 [.mp 5]] [(1,(Af p41_1)),(3,[.mp 5]),(4,[.clo 99 0 [.loc 3 0]]),(5,[.mapO false false (.t9 []) (.t4 [])])] k=ob (Agk L p41_0 p41_1) (Bcv p41_0 p41_1 k):=(C3 _ _ _ jn4 _ _ _ _ _ _ _).trans (eE (Aqk L p41_0 p41_1 (ho (Cdd L (Bou L k) p41_0 p41_1 (L+24) (0,0,[],[])) fun o9=>Cgd L k p41_0 p41_1 o9)))
def Blq(p54_0:ByteArray)(p54_1:Aa)(p54_2:List ByteArray)(p54_3:List Bool)(p54_4:Ah)(p54_5:Ah)(k:Bq):Cw→Prop:=fun o=>k (I o.1) [(1,(Af p54_1)),(3,[.mp 5]),(4,[.clo 99 0 [.loc 3 0]]),(5,[.mapO false false (.t9 o.2.1) (.t4 o.2.2)]),(14,(Bx p54_4)),(18,(Bx p54_5))]
def Ap1 [An A Cw](p54_0:ByteArray)(p54_1:Aa)(p54_2:List ByteArray)(p54_3:List Bool)(p54_4:Ah)(p54_5:Ah):A:=
 (bd (Dc L p54_0) fun r11=>
 (cn (r11 != 0)
 (lf (r11,p54_2,p54_3))
 (fq (p54_2.findIdx? fun b=>p54_0 == b) (fun i12=>
 (cn (p54_3.getD i12 default)
 (lf (4,p54_2,p54_3))
 (fq (p54_2.findIdx? fun b=>p54_0 == b) (fun i13=>
 (lf (0,p54_2,(p54_3.set i13 true))))
 (lf (0,(p54_2++ [p54_0]),(p54_3++ [true]))))))
 (fq (p54_2.findIdx? fun b=>p54_0 == b) (fun i14=>
 (lf (0,p54_2,(p54_3.set i14 true))))
 (lf (0,(p54_2++ [p54_0]),(p54_3++ [true])))))))
def Agn(p54_0:ByteArray)(p54_1:Aa)(p54_2:List ByteArray)(p54_3:List Bool)(p54_4:Ah)(p54_5:Ah):Option Cw:=Ap1 L p54_0 p54_1 p54_2 p54_3 p54_4 p54_5
theorem B3t(p54_0:ByteArray)(p54_1:Aa)(p54_2:List ByteArray)(p54_3:List Bool)(p54_4:Ah)(p54_5:Ah):YO (Ds L) (L+24) 5 69 [.mp 5,S p54_0] [(1,(Af p54_1)),(3,[.mp 5]),(4,[.clo 99 0 [.loc 3 0]]),(5,[.mapO false false (.t9 p54_2) (.t4 p54_3)]),(14,(Bx p54_4)),(18,(Bx p54_5))] k=ob (Agn L p54_0 p54_1 p54_2 p54_3 p54_4 p54_5) (Blq p54_0 p54_1 p54_2 p54_3 p54_4 p54_5 k):=(C3 _ _ _ jn4 _ _ _ _ _ _ _).trans (eE (Ap1 L p54_0 p54_1 p54_2 p54_3 p54_4 p54_5))
def Bcy(p52_0:Ah)(p52_1:Aa)(p52_2:List ByteArray)(p52_3:List Bool)(p52_4:Ah)(k:Bq):Cw→Prop:=fun o=>k (I o.1) [(1,(Af p52_1)),(3,[.mp 5]),(4,[.clo 99 0 [.loc 3 0]]),(5,[.mapO false false (.t9 o.2.1) (.t4 o.2.2)]),(14,(Bx p52_4)),(18,(Bx p52_0))]
def v6 [An A Cw](p52_0:Ah)(p52_1:Aa)(o15:Cw):A:=
 (cn (o15.1 != 0)
 (lf (o15.1,o15.2.1,o15.2.2))
 (bd (Bh L p52_0.Units 0 1000) fun r16=>
 (cn (!r16)
 (lf (2,o15.2.1,o15.2.2))
 (bd (d8 L p52_0) fun r17=>
 (cn (r17 != 0)
 (lf (r17,o15.2.1,o15.2.2))
 (bd (d7 L p52_1 p52_0.Fault) fun r18=>
 (lf (r18,o15.2.1,o15.2.2))))))))
def Bow(p52_0:Ah)(p52_1:Aa)(p52_2:List ByteArray)(p52_3:List Bool)(p52_4:Ah):Bq:=(B4 Tryz.prog (Ds L) (EI (Ds L) (L+24) 5) 1 (List.drop 4 Ca2.u.l.l.ops) ⟨[(9,S p52_0.Name),(8,.loc 18 0),(7,.mp 5),(1,.loc 3 0),(2,.loc 1 0),(3,.loc 18 0),(4,I 0)],[(1,(Af p52_1)),(3,[.mp 5]),(4,[.clo 99 0 [.loc 3 0]]),(5,[.mapO false false (.t9 p52_2) (.t4 p52_3)]),(14,(Bx p52_4)),(18,(Bx p52_0))],15⟩ (some 10) (fun st9=>(Be (EV (Ds L) (L+24) 5 Ca2.u.l.r) (Be (EV (Ds L) (L+24) 5 Ca2.u.r) (Eb Tryz.prog (RS Tryz.f105) k))) .normal st9))
theorem Cgf(p52_0:Ah)(p52_1:Aa)(p52_2:List ByteArray)(p52_3:List Bool)(p52_4:Ah)(o15:Cw):Blq p52_0.Name p52_1 p52_2 p52_3 p52_4 p52_0 (Bow L k p52_0 p52_1 p52_2 p52_3 p52_4) o15=ob (v6 L p52_0 p52_1 o15) (Bcy p52_0 p52_1 p52_2 p52_3 p52_4 k):=eE (v6 L p52_0 p52_1 o15)
def Ap0 [An A Cw](p52_0:Ah)(p52_1:Aa)(p52_2:List ByteArray)(p52_3:List Bool)(p52_4:Ah):A:=(bd (Agn L p52_0.Name p52_1 p52_2 p52_3 p52_4 p52_0) fun o15=>v6 L p52_0 p52_1 o15)
def Px(p52_0:Ah)(p52_1:Aa)(p52_2:List ByteArray)(p52_3:List Bool)(p52_4:Ah):Option Cw:=Ap0 L p52_0 p52_1 p52_2 p52_3 p52_4
theorem B3s(p52_0:Ah)(p52_1:Aa)(p52_2:List ByteArray)(p52_3:List Bool)(p52_4:Ah):YO (Ds L) (L+24) 6 105 [.agg (Bx p52_0),.loc 3 0,.loc 1 0] [(1,(Af p52_1)),(3,[.mp 5]),(4,[.clo 99 0 [.loc 3 0]]),(5,[.mapO false false (.t9 p52_2) (.t4 p52_3)]),(14,(Bx p52_4))] k=ob (Px L p52_0 p52_1 p52_2 p52_3 p52_4) (Bcy p52_0 p52_1 p52_2 p52_3 p52_4 k):=(C3 _ _ _ jn4 _ _ _ _ _ _ _).trans (eE ((ho (B3t L (Bow L k p52_0 p52_1 p52_2 p52_3 p52_4) p52_0.Name p52_1 p52_2 p52_3 p52_4 p52_0) fun o15=>Cgf L k p52_0 p52_1 p52_2 p52_3 p52_4 o15)))
def Bk0(p48_0:List Ah)(p48_1:Aa)(v:Tu5):St:=⟨[(0,.any),(1,.any),(2,.clo 105 0 [.loc 3 0,.loc 1 0]),(6,I v.1),(14,lv (.t110 p48_0)),(15,I (p48_0.length:Int)),(16,I v.2.1)],[(1,(Af p48_1)),(3,[.mp 5]),(4,[.clo 99 0 [.loc 3 0]]),(5,[.mapO false false (.t9 v.2.2.1) (.t4 v.2.2.2)])],6⟩
def Vd [An A Vo](L:Nat)(B1:Int)(Bo:Int)(rec:Int→Int→List ByteArray→List Bool→A)(o19:Cw):A:=
 (cn (o19.1 != 0)
 (lf (0,o19.1,B1,o19.2.1,o19.2.2))
 (rec Bo (B7 (B1+1)) o19.2.1 o19.2.2))
def y8 [An A Vo](L:Nat)(p48_0:List Ah)(p48_1:Aa)(rec:Int→Int→List ByteArray→List Bool→A)(Bo:Int)(B1:Int)(Od:List ByteArray)(Oe:List Bool)(nx73:Int→(List ByteArray)→(List Bool)→Int→A):A:=
 (lw B1 p48_0
 (nx73 B1 Od Oe Bo)
 (lf (1,Bo,B1,Od,Oe)))
def Aj7 [An A Vo](p48_0:List Ah)(p48_1:Aa)(rec:Int→Int→List ByteArray→List Bool→A)(Bo:Int)(B1:Int)(Od:List ByteArray)(Oe:List Bool):A:=y8 L p48_0 p48_1 rec Bo B1 Od Oe (fun B1 Od Oe Bo=>bd (Px L (p48_0.getD (Int.toNat B1) default) p48_1 Od Oe (p48_0.getD (Int.toNat B1) default)) fun o19=>Vd L B1 Bo rec o19)
def Ko(L:Nat)(p48_0:List Ah)(p48_1:Aa):Nat→Int→Int→List ByteArray→List Bool→Option Vo
 |0,_,_,_,_=>none
 |n+1,Bo,B1,Od,Oe=>Aj7 L p48_0 p48_1 (Ko L p48_0 p48_1 n) Bo B1 Od Oe
def Bt1(p48_0:List Ah)(p48_1:Aa):Prop:=LI (EV (Ds L) (L+24) 6 Bsd.w.l.u.l.l) [0,1,2,6,14,15,16] [1,3,4,5] (Bk0 p48_0 p48_1) [.ret,.exit 0] (fun n v=>Ko L p48_0 p48_1 n v.1 v.2.1 v.2.2.1 v.2.2.2) K n
def Box(p48_0:List Ah)(B1:Int)(Bo:Int)(p48_1:Aa)(Od:List ByteArray)(Oe:List Bool):Bq:=(B4 Tryz.prog (Ds L) (EI (Ds L) (L+24) 6) 1 (List.drop 3 Bsd.w.l.u.l.l.w.l.l.u.l.ops) ⟨[(21,.agg (Bx (p48_0.getD (Int.toNat B1) default))),(20,.clo 105 0 [.loc 3 0,.loc 1 0]),(2,.clo 105 0 [.loc 3 0,.loc 1 0]),(6,I Bo),(8,.loc 14 0),(14,lv (.t110 p48_0)),(15,I (p48_0.length:Int)),(16,I B1),(17,B (decide (B1 < (p48_0.length:Int)))),(18,.ref (Bx (p48_0.getD (Int.toNat B1) default))),(19,.agg (Bx (p48_0.getD (Int.toNat B1) default)))],[(1,(Af p48_1)),(3,[.mp 5]),(4,[.clo 99 0 [.loc 3 0]]),(5,[.mapO false false (.t9 Od) (.t4 Oe)]),(14,(Bx (p48_0.getD (Int.toNat B1) default)))],6⟩ (some 22) (fun st9=>(Be (EV (Ds L) (L+24) 6 Bsd.w.l.u.l.l.w.l.l.u.r) (Av 1 (Be (EV (Ds L) (L+24) 6 Bsd.w.l.u.l.l.w.r) (Hh (Jj (EV (Ds L) (L+24) 6 Bsd.w.l.u.l.l) [0,1,2,6,14,15,16] [1,3,4,5] n) [0,1,2,6,14,15,16] [1,3,4,5] K)))) .normal st9))
theorem Cgg(p48_0:List Ah)(B1:Int)(p48_1:Aa)(Od:List ByteArray)(Oe:List Bool)(Bo:Int)(ih:Bt1 L n K p48_0 p48_1)(o19:Cw):Bcy (p48_0.getD (Int.toNat B1) default) p48_1 Od Oe (p48_0.getD (Int.toNat B1) default) (Box L n K p48_0 B1 Bo p48_1 Od Oe) o19=ob (Vd L B1 Bo (Ko L p48_0 p48_1 n) o19) (kX [.ret,.exit 0] (Bk0 p48_0 p48_1) K):=eE (Vd L B1 Bo (fun Bo B1 Od Oe=>re (ih (Bo,B1,Od,Oe))) o19)
theorem Cde(p48_0:List Ah)(p48_1:Aa):∀n,Bt1 L n K p48_0 p48_1:=lE (fun _=>rfl) fun n v ih=>eE (y8 L p48_0 p48_1 (fun Bo B1 Od Oe=>re (ih (Bo,B1,Od,Oe))) v.1 v.2.1 v.2.2.1 v.2.2.2 (fun B1 Od Oe Bo=>ho (B3s L (Box L n K p48_0 B1 Bo p48_1 Od Oe) (p48_0.getD (Int.toNat B1) default) p48_1 Od Oe (p48_0.getD (Int.toNat B1) default)) fun o19=>Cgg L n K p48_0 B1 p48_1 Od Oe Bo ih o19))
def Bcx(p48_0:List Ah)(p48_1:Aa)(p48_2:List ByteArray)(p48_3:List Bool)(k:Bq):Cw→Prop:=fun o=>k (I o.1) [(1,(Af p48_1)),(3,[.mp 5]),(4,[.clo 99 0 [.loc 3 0]]),(5,[.mapO false false (.t9 o.2.1) (.t4 o.2.2)])]
def Ag6 [An A Cw](L:Nat)(o20:Nat×Tu5):A:=
 (sl o20.1 [(lf (o20.2.1,o20.2.2.2.1,o20.2.2.2.2)),
 (lf (0,o20.2.2.2.1,o20.2.2.2.2))])
def Boy:Ba:=(Av 0 (Be (EV (Ds L) (L+24) 6 Bsd.w.r) (Eb Tryz.prog (RS Tryz.f104) k)))
theorem Cgh(p48_0:List Ah)(p48_1:Aa)(p48_2:List ByteArray)(p48_3:List Bool)(o20:Nat×Tu5):kX [.ret,.exit 0] (Bk0 p48_0 p48_1) (Boy L k) o20=ob (Ag6 L o20) (Bcx p48_0 p48_1 p48_2 p48_3 k):=eE (Ag6 L o20)
def Aql [An A Cw](L:Nat)(p48_0:List Ah)(p48_1:Aa)(p48_2:List ByteArray)(p48_3:List Bool)(nx74:A):A:=
 (cn (decide ((p48_0.length:Int) > 32))
 (lf (6,p48_2,p48_3))
 nx74)
def A0w [An A Cw](p48_0:List Ah)(p48_1:Aa)(p48_2:List ByteArray)(p48_3:List Bool):A:=Aql L p48_0 p48_1 p48_2 p48_3 (bd (Ko L p48_0 p48_1 (L+24) 0 0 p48_2 p48_3) fun o20=>Ag6 L o20)
def Agm(p48_0:List Ah)(p48_1:Aa)(p48_2:List ByteArray)(p48_3:List Bool):Option Cw:=A0w L p48_0 p48_1 p48_2 p48_3
theorem B3r(p48_0:List Ah)(p48_1:Aa)(p48_2:List ByteArray)(p48_3:List Bool):YO (Ds L) (L+24) 7 104 [lv (.t110 p48_0),I 32,.clo 105 0 [.loc 3 0,.loc 1 0]] [(1,(Af p48_1)),(3,[.mp 5]),(4,[.clo 99 0 [.loc 3 0]]),(5,[.mapO false false (.t9 p48_2) (.t4 p48_3)])] k=ob (Agm L p48_0 p48_1 p48_2 p48_3) (Bcx p48_0 p48_1 p48_2 p48_3 k):=(C3 _ _ _ jn4 _ _ _ _ _ _ _).trans (eE (Aql L p48_0 p48_1 p48_2 p48_3 (ho (Cde L (Boy L k) p48_0 p48_1 (L+24) (0,0,p48_2,p48_3)) fun o20=>Cgh L k p48_0 p48_1 p48_2 p48_3 o20)))
def Blr(p61_0:ByteArray)(p61_1:Aa)(p61_2:List ByteArray)(p61_3:List Bool)(p61_4:Ar)(p61_5:Ar)(k:Bq):Cw→Prop:=fun o=>k (I o.1) [(1,(Af p61_1)),(3,[.mp 5]),(4,[.clo 99 0 [.loc 3 0]]),(5,[.mapO false false (.t9 o.2.1) (.t4 o.2.2)]),(14,(Da p61_4)),(17,(Da p61_5))]
def Ap3 [An A Cw](p61_0:ByteArray)(p61_1:Aa)(p61_2:List ByteArray)(p61_3:List Bool)(p61_4:Ar)(p61_5:Ar):A:=
 (bd (Dc L p61_0) fun r22=>
 (cn (r22 != 0)
 (lf (r22,p61_2,p61_3))
 (fq (p61_2.findIdx? fun b=>p61_0 == b) (fun i23=>
 (cn (p61_3.getD i23 default)
 (lf (4,p61_2,p61_3))
 (fq (p61_2.findIdx? fun b=>p61_0 == b) (fun i24=>
 (lf (0,p61_2,(p61_3.set i24 true))))
 (lf (0,(p61_2++ [p61_0]),(p61_3++ [true]))))))
 (fq (p61_2.findIdx? fun b=>p61_0 == b) (fun i25=>
 (lf (0,p61_2,(p61_3.set i25 true))))
 (lf (0,(p61_2++ [p61_0]),(p61_3++ [true])))))))
def Agp(p61_0:ByteArray)(p61_1:Aa)(p61_2:List ByteArray)(p61_3:List Bool)(p61_4:Ar)(p61_5:Ar):Option Cw:=Ap3 L p61_0 p61_1 p61_2 p61_3 p61_4 p61_5
theorem B3w(p61_0:ByteArray)(p61_1:Aa)(p61_2:List ByteArray)(p61_3:List Bool)(p61_4:Ar)(p61_5:Ar):YO (Ds L) (L+24) 5 69 [.mp 5,S p61_0] [(1,(Af p61_1)),(3,[.mp 5]),(4,[.clo 99 0 [.loc 3 0]]),(5,[.mapO false false (.t9 p61_2) (.t4 p61_3)]),(14,(Da p61_4)),(17,(Da p61_5))] k=ob (Agp L p61_0 p61_1 p61_2 p61_3 p61_4 p61_5) (Blr p61_0 p61_1 p61_2 p61_3 p61_4 p61_5 k):=(C3 _ _ _ jn4 _ _ _ _ _ _ _).trans (eE (Ap3 L p61_0 p61_1 p61_2 p61_3 p61_4 p61_5))
def Bc0(p59_0:Ar)(p59_1:Aa)(p59_2:List ByteArray)(p59_3:List Bool)(p59_4:Ar)(k:Bq):Cw→Prop:=fun o=>k (I o.1) [(1,(Af p59_1)),(3,[.mp 5]),(4,[.clo 99 0 [.loc 3 0]]),(5,[.mapO false false (.t9 o.2.1) (.t4 o.2.2)]),(14,(Da p59_4)),(17,(Da p59_0))]
def v7 [An A Cw](p59_0:Ar)(o26:Cw):A:=
 (cn (o26.1 != 0)
 (lf (o26.1,o26.2.1,o26.2.2))
 (bd (Bh L p59_0.Room 1 1000) fun r27=>
 (cn (!r27)
 (lf (2,o26.2.1,o26.2.2))
 (jp (.cn (decide (p59_0.Policy < 1))
 (.lf true)
 (.lf (decide (p59_0.Policy > 3)))) (fun b28=>
 (cn b28
 (lf (1,o26.2.1,o26.2.2))
 (lf (0,o26.2.1,o26.2.2))))))))
def Bo0(p59_0:Ar)(p59_1:Aa)(p59_2:List ByteArray)(p59_3:List Bool)(p59_4:Ar):Bq:=(B4 Tryz.prog (Ds L) (EI (Ds L) (L+24) 5) 1 (List.drop 4 Ca3.u.l.l.ops) ⟨[(7,S p59_0.Name),(6,.loc 17 0),(5,.mp 5),(1,.loc 3 0),(2,.loc 17 0),(3,I 0)],[(1,(Af p59_1)),(3,[.mp 5]),(4,[.clo 99 0 [.loc 3 0]]),(5,[.mapO false false (.t9 p59_2) (.t4 p59_3)]),(14,(Da p59_4)),(17,(Da p59_0))],15⟩ (some 8) (fun st9=>(Be (EV (Ds L) (L+24) 5 Ca3.u.l.r) (Be (EV (Ds L) (L+24) 5 Ca3.u.r) (Eb Tryz.prog (RS Tryz.f111) k))) .normal st9))
theorem Cgj(p59_0:Ar)(p59_1:Aa)(p59_2:List ByteArray)(p59_3:List Bool)(p59_4:Ar)(o26:Cw):Blr p59_0.Name p59_1 p59_2 p59_3 p59_4 p59_0 (Bo0 L k p59_0 p59_1 p59_2 p59_3 p59_4) o26=ob (v7 L p59_0 o26) (Bc0 p59_0 p59_1 p59_2 p59_3 p59_4 k):=eE (v7 L p59_0 o26)
def Ap2 [An A Cw](p59_0:Ar)(p59_1:Aa)(p59_2:List ByteArray)(p59_3:List Bool)(p59_4:Ar):A:=(bd (Agp L p59_0.Name p59_1 p59_2 p59_3 p59_4 p59_0) fun o26=>v7 L p59_0 o26)
def Py(p59_0:Ar)(p59_1:Aa)(p59_2:List ByteArray)(p59_3:List Bool)(p59_4:Ar):Option Cw:=Ap2 L p59_0 p59_1 p59_2 p59_3 p59_4
theorem B3v(p59_0:Ar)(p59_1:Aa)(p59_2:List ByteArray)(p59_3:List Bool)(p59_4:Ar):YO (Ds L) (L+24) 6 111 [.agg (Da p59_0),.loc 3 0] [(1,(Af p59_1)),(3,[.mp 5]),(4,[.clo 99 0 [.loc 3 0]]),(5,[.mapO false false (.t9 p59_2) (.t4 p59_3)]),(14,(Da p59_4))] k=ob (Py L p59_0 p59_1 p59_2 p59_3 p59_4) (Bc0 p59_0 p59_1 p59_2 p59_3 p59_4 k):=(C3 _ _ _ jn4 _ _ _ _ _ _ _).trans (eE ((ho (B3w L (Bo0 L k p59_0 p59_1 p59_2 p59_3 p59_4) p59_0.Name p59_1 p59_2 p59_3 p59_4 p59_0) fun o26=>Cgj L k p59_0 p59_1 p59_2 p59_3 p59_4 o26)))
def Bk1(p55_0:List Ar)(p55_1:Aa)(v:Tu5):St:=⟨[(0,.any),(1,.any),(2,.clo 111 0 [.loc 3 0]),(6,I v.1),(14,lv (.t113 p55_0)),(15,I (p55_0.length:Int)),(16,I v.2.1)],[(1,(Af p55_1)),(3,[.mp 5]),(4,[.clo 99 0 [.loc 3 0]]),(5,[.mapO false false (.t9 v.2.2.1) (.t4 v.2.2.2)])],6⟩
def Ve [An A Vo](L:Nat)(C7:Int)(D6:Int)(rec:Int→Int→List ByteArray→List Bool→A)(o29:Cw):A:=
 (cn (o29.1 != 0)
 (lf (0,o29.1,C7,o29.2.1,o29.2.2))
 (rec D6 (B7 (C7+1)) o29.2.1 o29.2.2))
def y9 [An A Vo](L:Nat)(p55_0:List Ar)(p55_1:Aa)(rec:Int→Int→List ByteArray→List Bool→A)(D6:Int)(C7:Int)(Fs:List ByteArray)(Og:List Bool)(nx82:Int→(List ByteArray)→(List Bool)→Int→A):A:=
 (lw C7 p55_0
 (nx82 C7 Fs Og D6)
 (lf (1,D6,C7,Fs,Og)))
def Aj8 [An A Vo](p55_0:List Ar)(p55_1:Aa)(rec:Int→Int→List ByteArray→List Bool→A)(D6:Int)(C7:Int)(Fs:List ByteArray)(Og:List Bool):A:=y9 L p55_0 p55_1 rec D6 C7 Fs Og (fun C7 Fs Og D6=>bd (Py L (p55_0.getD (Int.toNat C7) default) p55_1 Fs Og (p55_0.getD (Int.toNat C7) default)) fun o29=>Ve L C7 D6 rec o29)
def Kp(L:Nat)(p55_0:List Ar)(p55_1:Aa):Nat→Int→Int→List ByteArray→List Bool→Option Vo
 |0,_,_,_,_=>none
 |n+1,D6,C7,Fs,Og=>Aj8 L p55_0 p55_1 (Kp L p55_0 p55_1 n) D6 C7 Fs Og
def Bt2(p55_0:List Ar)(p55_1:Aa):Prop:=LI (EV (Ds L) (L+24) 6 Bse.w.l.u.l.l) [0,1,2,6,14,15,16] [1,3,4,5] (Bk1 p55_0 p55_1) [.ret,.exit 0] (fun n v=>Kp L p55_0 p55_1 n v.1 v.2.1 v.2.2.1 v.2.2.2) K n
def Bo1(p55_0:List Ar)(C7:Int)(D6:Int)(p55_1:Aa)(Fs:List ByteArray)(Og:List Bool):Bq:=(B4 Tryz.prog (Ds L) (EI (Ds L) (L+24) 6) 1 (List.drop 3 Bse.w.l.u.l.l.w.l.l.u.l.ops) ⟨[(21,.agg (Da (p55_0.getD (Int.toNat C7) default))),(20,.clo 111 0 [.loc 3 0]),(2,.clo 111 0 [.loc 3 0]),(6,I D6),(8,.loc 14 0),(14,lv (.t113 p55_0)),(15,I (p55_0.length:Int)),(16,I C7),(17,B (decide (C7 < (p55_0.length:Int)))),(18,.ref (Da (p55_0.getD (Int.toNat C7) default))),(19,.agg (Da (p55_0.getD (Int.toNat C7) default)))],[(1,(Af p55_1)),(3,[.mp 5]),(4,[.clo 99 0 [.loc 3 0]]),(5,[.mapO false false (.t9 Fs) (.t4 Og)]),(14,(Da (p55_0.getD (Int.toNat C7) default)))],6⟩ (some 22) (fun st9=>(Be (EV (Ds L) (L+24) 6 Bse.w.l.u.l.l.w.l.l.u.r) (Av 1 (Be (EV (Ds L) (L+24) 6 Bse.w.l.u.l.l.w.r) (Hh (Jj (EV (Ds L) (L+24) 6 Bse.w.l.u.l.l) [0,1,2,6,14,15,16] [1,3,4,5] n) [0,1,2,6,14,15,16] [1,3,4,5] K)))) .normal st9))
theorem Cgk(p55_0:List Ar)(C7:Int)(p55_1:Aa)(Fs:List ByteArray)(Og:List Bool)(D6:Int)(ih:Bt2 L n K p55_0 p55_1)(o29:Cw):Bc0 (p55_0.getD (Int.toNat C7) default) p55_1 Fs Og (p55_0.getD (Int.toNat C7) default) (Bo1 L n K p55_0 C7 D6 p55_1 Fs Og) o29=ob (Ve L C7 D6 (Kp L p55_0 p55_1 n) o29) (kX [.ret,.exit 0] (Bk1 p55_0 p55_1) K):=eE (Ve L C7 D6 (fun D6 C7 Fs Og=>re (ih (D6,C7,Fs,Og))) o29)
theorem Cdf(p55_0:List Ar)(p55_1:Aa):∀n,Bt2 L n K p55_0 p55_1:=lE (fun _=>rfl) fun n v ih=>eE (y9 L p55_0 p55_1 (fun D6 C7 Fs Og=>re (ih (D6,C7,Fs,Og))) v.1 v.2.1 v.2.2.1 v.2.2.2 (fun C7 Fs Og D6=>ho (B3v L (Bo1 L n K p55_0 C7 D6 p55_1 Fs Og) (p55_0.getD (Int.toNat C7) default) p55_1 Fs Og (p55_0.getD (Int.toNat C7) default)) fun o29=>Cgk L n K p55_0 C7 p55_1 Fs Og D6 ih o29))
def Bcz(p55_0:List Ar)(p55_1:Aa)(p55_2:List ByteArray)(p55_3:List Bool)(k:Bq):Cw→Prop:=fun o=>k (I o.1) [(1,(Af p55_1)),(3,[.mp 5]),(4,[.clo 99 0 [.loc 3 0]]),(5,[.mapO false false (.t9 o.2.1) (.t4 o.2.2)])]
def Ag8 [An A Cw](L:Nat)(o30:Nat×Tu5):A:=
 (sl o30.1 [(lf (o30.2.1,o30.2.2.2.1,o30.2.2.2.2)),
 (lf (0,o30.2.2.2.1,o30.2.2.2.2))])
def Bo2:Ba:=(Av 0 (Be (EV (Ds L) (L+24) 6 Bse.w.r) (Eb Tryz.prog (RS Tryz.f110) k)))
theorem Cgl(p55_0:List Ar)(p55_1:Aa)(p55_2:List ByteArray)(p55_3:List Bool)(o30:Nat×Tu5):kX [.ret,.exit 0] (Bk1 p55_0 p55_1) (Bo2 L k) o30=ob (Ag8 L o30) (Bcz p55_0 p55_1 p55_2 p55_3 k):=eE (Ag8 L o30)
def Aqm [An A Cw](L:Nat)(p55_0:List Ar)(p55_1:Aa)(p55_2:List ByteArray)(p55_3:List Bool)(nx83:A):A:=
 (cn (decide ((p55_0.length:Int) > 32))
 (lf (6,p55_2,p55_3))
 nx83)
def A0x [An A Cw](p55_0:List Ar)(p55_1:Aa)(p55_2:List ByteArray)(p55_3:List Bool):A:=Aqm L p55_0 p55_1 p55_2 p55_3 (bd (Kp L p55_0 p55_1 (L+24) 0 0 p55_2 p55_3) fun o30=>Ag8 L o30)
def Ago(p55_0:List Ar)(p55_1:Aa)(p55_2:List ByteArray)(p55_3:List Bool):Option Cw:=A0x L p55_0 p55_1 p55_2 p55_3
theorem B3u(p55_0:List Ar)(p55_1:Aa)(p55_2:List ByteArray)(p55_3:List Bool):YO (Ds L) (L+24) 7 110 [lv (.t113 p55_0),I 32,.clo 111 0 [.loc 3 0]] [(1,(Af p55_1)),(3,[.mp 5]),(4,[.clo 99 0 [.loc 3 0]]),(5,[.mapO false false (.t9 p55_2) (.t4 p55_3)])] k=ob (Ago L p55_0 p55_1 p55_2 p55_3) (Bcz p55_0 p55_1 p55_2 p55_3 k):=(C3 _ _ _ jn4 _ _ _ _ _ _ _).trans (eE (Aqm L p55_0 p55_1 p55_2 p55_3 (ho (Cdf L (Bo2 L k) p55_0 p55_1 (L+24) (0,0,p55_2,p55_3)) fun o30=>Cgl L k p55_0 p55_1 p55_2 p55_3 o30)))
def Bls(p68_0:ByteArray)(p68_1:Aa)(p68_2:List ByteArray)(p68_3:List Bool)(p68_4:Ax)(p68_5:Ax)(k:Bq):Cw→Prop:=fun o=>k (I o.1) [(1,(Af p68_1)),(3,[.mp 5]),(4,[.clo 99 0 [.loc 3 0]]),(5,[.mapO false false (.t9 o.2.1) (.t4 o.2.2)]),(14,(Dh p68_4)),(17,(Dh p68_5))]
def Ap5 [An A Cw](p68_0:ByteArray)(p68_1:Aa)(p68_2:List ByteArray)(p68_3:List Bool)(p68_4:Ax)(p68_5:Ax):A:=
 (bd (Dc L p68_0) fun r32=>
 (cn (r32 != 0)
 (lf (r32,p68_2,p68_3))
 (fq (p68_2.findIdx? fun b=>p68_0 == b) (fun i33=>
 (cn (p68_3.getD i33 default)
 (lf (4,p68_2,p68_3))
 (fq (p68_2.findIdx? fun b=>p68_0 == b) (fun i34=>
 (lf (0,p68_2,(p68_3.set i34 true))))
 (lf (0,(p68_2++ [p68_0]),(p68_3++ [true]))))))
 (fq (p68_2.findIdx? fun b=>p68_0 == b) (fun i35=>
 (lf (0,p68_2,(p68_3.set i35 true))))
 (lf (0,(p68_2++ [p68_0]),(p68_3++ [true])))))))
def Agr(p68_0:ByteArray)(p68_1:Aa)(p68_2:List ByteArray)(p68_3:List Bool)(p68_4:Ax)(p68_5:Ax):Option Cw:=Ap5 L p68_0 p68_1 p68_2 p68_3 p68_4 p68_5
theorem B3z(p68_0:ByteArray)(p68_1:Aa)(p68_2:List ByteArray)(p68_3:List Bool)(p68_4:Ax)(p68_5:Ax):YO (Ds L) (L+24) 5 69 [.mp 5,S p68_0] [(1,(Af p68_1)),(3,[.mp 5]),(4,[.clo 99 0 [.loc 3 0]]),(5,[.mapO false false (.t9 p68_2) (.t4 p68_3)]),(14,(Dh p68_4)),(17,(Dh p68_5))] k=ob (Agr L p68_0 p68_1 p68_2 p68_3 p68_4 p68_5) (Bls p68_0 p68_1 p68_2 p68_3 p68_4 p68_5 k):=(C3 _ _ _ jn4 _ _ _ _ _ _ _).trans (eE (Ap5 L p68_0 p68_1 p68_2 p68_3 p68_4 p68_5))
def Bc2(p66_0:Ax)(p66_1:Aa)(p66_2:List ByteArray)(p66_3:List Bool)(p66_4:Ax)(k:Bq):Cw→Prop:=fun o=>k (I o.1) [(1,(Af p66_1)),(3,[.mp 5]),(4,[.clo 99 0 [.loc 3 0]]),(5,[.mapO false false (.t9 o.2.1) (.t4 o.2.2)]),(14,(Dh p66_4)),(17,(Dh p66_0))]
def v8 [An A Cw](p66_0:Ax)(o36:Cw):A:=
 (cn (o36.1 != 0)
 (lf (o36.1,o36.2.1,o36.2.2))
 (bd (Bh L p66_0.Length 1 1000) fun r37=>
 (jb (.cn (!r37)
 (.lf true)
 (.bd (Bh L p66_0.Step 1 1000) fun r39=>
 (.lf (!r39)))) (fun b38=>
 (cn b38
 (lf (2,o36.2.1,o36.2.2))
 (lf (0,o36.2.1,o36.2.2)))))))
def Bo4(p66_0:Ax)(p66_1:Aa)(p66_2:List ByteArray)(p66_3:List Bool)(p66_4:Ax):Bq:=(B4 Tryz.prog (Ds L) (EI (Ds L) (L+24) 5) 1 (List.drop 4 Ca4.u.l.l.ops) ⟨[(7,S p66_0.Name),(6,.loc 17 0),(5,.mp 5),(1,.loc 3 0),(2,.loc 17 0),(3,I 0)],[(1,(Af p66_1)),(3,[.mp 5]),(4,[.clo 99 0 [.loc 3 0]]),(5,[.mapO false false (.t9 p66_2) (.t4 p66_3)]),(14,(Dh p66_4)),(17,(Dh p66_0))],15⟩ (some 8) (fun st9=>(Be (EV (Ds L) (L+24) 5 Ca4.u.l.r) (Be (EV (Ds L) (L+24) 5 Ca4.u.r) (Eb Tryz.prog (RS Tryz.f114) k))) .normal st9))
theorem Cgn(p66_0:Ax)(p66_1:Aa)(p66_2:List ByteArray)(p66_3:List Bool)(p66_4:Ax)(o36:Cw):Bls p66_0.Name p66_1 p66_2 p66_3 p66_4 p66_0 (Bo4 L k p66_0 p66_1 p66_2 p66_3 p66_4) o36=ob (v8 L p66_0 o36) (Bc2 p66_0 p66_1 p66_2 p66_3 p66_4 k):=eE (v8 L p66_0 o36)
def Ap4 [An A Cw](p66_0:Ax)(p66_1:Aa)(p66_2:List ByteArray)(p66_3:List Bool)(p66_4:Ax):A:=(bd (Agr L p66_0.Name p66_1 p66_2 p66_3 p66_4 p66_0) fun o36=>v8 L p66_0 o36)
def Pz(p66_0:Ax)(p66_1:Aa)(p66_2:List ByteArray)(p66_3:List Bool)(p66_4:Ax):Option Cw:=Ap4 L p66_0 p66_1 p66_2 p66_3 p66_4
theorem B3y(p66_0:Ax)(p66_1:Aa)(p66_2:List ByteArray)(p66_3:List Bool)(p66_4:Ax):YO (Ds L) (L+24) 6 114 [.agg (Dh p66_0),.loc 3 0] [(1,(Af p66_1)),(3,[.mp 5]),(4,[.clo 99 0 [.loc 3 0]]),(5,[.mapO false false (.t9 p66_2) (.t4 p66_3)]),(14,(Dh p66_4))] k=ob (Pz L p66_0 p66_1 p66_2 p66_3 p66_4) (Bc2 p66_0 p66_1 p66_2 p66_3 p66_4 k):=(C3 _ _ _ jn4 _ _ _ _ _ _ _).trans (eE ((ho (B3z L (Bo4 L k p66_0 p66_1 p66_2 p66_3 p66_4) p66_0.Name p66_1 p66_2 p66_3 p66_4 p66_0) fun o36=>Cgn L k p66_0 p66_1 p66_2 p66_3 p66_4 o36)))
def Bk2(p62_0:List Ax)(p62_1:Aa)(v:Tu5):St:=⟨[(0,.any),(1,.any),(2,.clo 114 0 [.loc 3 0]),(6,I v.1),(14,lv (.t115 p62_0)),(15,I (p62_0.length:Int)),(16,I v.2.1)],[(1,(Af p62_1)),(3,[.mp 5]),(4,[.clo 99 0 [.loc 3 0]]),(5,[.mapO false false (.t9 v.2.2.1) (.t4 v.2.2.2)])],6⟩
def Vf [An A Vo](L:Nat)(Rf:Int)(He:Int)(rec:Int→Int→List ByteArray→List Bool→A)(o40:Cw):A:=
 (cn (o40.1 != 0)
 (lf (0,o40.1,Rf,o40.2.1,o40.2.2))
 (rec He (B7 (Rf+1)) o40.2.1 o40.2.2))
def z6 [An A Vo](L:Nat)(p62_0:List Ax)(p62_1:Aa)(rec:Int→Int→List ByteArray→List Bool→A)(He:Int)(Rf:Int)(Oh:List ByteArray)(Fv:List Bool)(nx91:Int→(List ByteArray)→(List Bool)→Int→A):A:=
 (lw Rf p62_0
 (nx91 Rf Oh Fv He)
 (lf (1,He,Rf,Oh,Fv)))
def Aj9 [An A Vo](p62_0:List Ax)(p62_1:Aa)(rec:Int→Int→List ByteArray→List Bool→A)(He:Int)(Rf:Int)(Oh:List ByteArray)(Fv:List Bool):A:=z6 L p62_0 p62_1 rec He Rf Oh Fv (fun Rf Oh Fv He=>bd (Pz L (p62_0.getD (Int.toNat Rf) default) p62_1 Oh Fv (p62_0.getD (Int.toNat Rf) default)) fun o40=>Vf L Rf He rec o40)
def Kq(L:Nat)(p62_0:List Ax)(p62_1:Aa):Nat→Int→Int→List ByteArray→List Bool→Option Vo
 |0,_,_,_,_=>none
 |n+1,He,Rf,Oh,Fv=>Aj9 L p62_0 p62_1 (Kq L p62_0 p62_1 n) He Rf Oh Fv
def Bt3(p62_0:List Ax)(p62_1:Aa):Prop:=LI (EV (Ds L) (L+24) 6 Bsf.w.l.u.l.l) [0,1,2,6,14,15,16] [1,3,4,5] (Bk2 p62_0 p62_1) [.ret,.exit 0] (fun n v=>Kq L p62_0 p62_1 n v.1 v.2.1 v.2.2.1 v.2.2.2) K n
def Bo5(p62_0:List Ax)(Rf:Int)(He:Int)(p62_1:Aa)(Oh:List ByteArray)(Fv:List Bool):Bq:=(B4 Tryz.prog (Ds L) (EI (Ds L) (L+24) 6) 1 (List.drop 3 Bsf.w.l.u.l.l.w.l.l.u.l.ops) ⟨[(21,.agg (Dh (p62_0.getD (Int.toNat Rf) default))),(20,.clo 114 0 [.loc 3 0]),(2,.clo 114 0 [.loc 3 0]),(6,I He),(8,.loc 14 0),(14,lv (.t115 p62_0)),(15,I (p62_0.length:Int)),(16,I Rf),(17,B (decide (Rf < (p62_0.length:Int)))),(18,.ref (Dh (p62_0.getD (Int.toNat Rf) default))),(19,.agg (Dh (p62_0.getD (Int.toNat Rf) default)))],[(1,(Af p62_1)),(3,[.mp 5]),(4,[.clo 99 0 [.loc 3 0]]),(5,[.mapO false false (.t9 Oh) (.t4 Fv)]),(14,(Dh (p62_0.getD (Int.toNat Rf) default)))],6⟩ (some 22) (fun st9=>(Be (EV (Ds L) (L+24) 6 Bsf.w.l.u.l.l.w.l.l.u.r) (Av 1 (Be (EV (Ds L) (L+24) 6 Bsf.w.l.u.l.l.w.r) (Hh (Jj (EV (Ds L) (L+24) 6 Bsf.w.l.u.l.l) [0,1,2,6,14,15,16] [1,3,4,5] n) [0,1,2,6,14,15,16] [1,3,4,5] K)))) .normal st9))
theorem Cgo(p62_0:List Ax)(Rf:Int)(p62_1:Aa)(Oh:List ByteArray)(Fv:List Bool)(He:Int)(ih:Bt3 L n K p62_0 p62_1)(o40:Cw):Bc2 (p62_0.getD (Int.toNat Rf) default) p62_1 Oh Fv (p62_0.getD (Int.toNat Rf) default) (Bo5 L n K p62_0 Rf He p62_1 Oh Fv) o40=ob (Vf L Rf He (Kq L p62_0 p62_1 n) o40) (kX [.ret,.exit 0] (Bk2 p62_0 p62_1) K):=eE (Vf L Rf He (fun He Rf Oh Fv=>re (ih (He,Rf,Oh,Fv))) o40)
theorem Cdg(p62_0:List Ax)(p62_1:Aa):∀n,Bt3 L n K p62_0 p62_1:=lE (fun _=>rfl) fun n v ih=>eE (z6 L p62_0 p62_1 (fun He Rf Oh Fv=>re (ih (He,Rf,Oh,Fv))) v.1 v.2.1 v.2.2.1 v.2.2.2 (fun Rf Oh Fv He=>ho (B3y L (Bo5 L n K p62_0 Rf He p62_1 Oh Fv) (p62_0.getD (Int.toNat Rf) default) p62_1 Oh Fv (p62_0.getD (Int.toNat Rf) default)) fun o40=>Cgo L n K p62_0 Rf p62_1 Oh Fv He ih o40))
def Bc1(p62_0:List Ax)(p62_1:Aa)(p62_2:List ByteArray)(p62_3:List Bool)(k:Bq):Cw→Prop:=fun o=>k (I o.1) [(1,(Af p62_1)),(3,[.mp 5]),(4,[.clo 99 0 [.loc 3 0]]),(5,[.mapO false false (.t9 o.2.1) (.t4 o.2.2)])]
def Aha [An A Cw](L:Nat)(o41:Nat×Tu5):A:=
 (sl o41.1 [(lf (o41.2.1,o41.2.2.2.1,o41.2.2.2.2)),
 (lf (0,o41.2.2.2.1,o41.2.2.2.2))])
def Bo6:Ba:=(Av 0 (Be (EV (Ds L) (L+24) 6 Bsf.w.r) (Eb Tryz.prog (RS Tryz.f113) k)))
theorem Cgp(p62_0:List Ax)(p62_1:Aa)(p62_2:List ByteArray)(p62_3:List Bool)(o41:Nat×Tu5):kX [.ret,.exit 0] (Bk2 p62_0 p62_1) (Bo6 L k) o41=ob (Aha L o41) (Bc1 p62_0 p62_1 p62_2 p62_3 k):=eE (Aha L o41)
def Aqn [An A Cw](L:Nat)(p62_0:List Ax)(p62_1:Aa)(p62_2:List ByteArray)(p62_3:List Bool)(nx92:A):A:=
 (cn (decide ((p62_0.length:Int) > 32))
 (lf (6,p62_2,p62_3))
 nx92)
def A0y [An A Cw](p62_0:List Ax)(p62_1:Aa)(p62_2:List ByteArray)(p62_3:List Bool):A:=Aqn L p62_0 p62_1 p62_2 p62_3 (bd (Kq L p62_0 p62_1 (L+24) 0 0 p62_2 p62_3) fun o41=>Aha L o41)
def Agq(p62_0:List Ax)(p62_1:Aa)(p62_2:List ByteArray)(p62_3:List Bool):Option Cw:=A0y L p62_0 p62_1 p62_2 p62_3
theorem B3x(p62_0:List Ax)(p62_1:Aa)(p62_2:List ByteArray)(p62_3:List Bool):YO (Ds L) (L+24) 7 113 [lv (.t115 p62_0),I 32,.clo 114 0 [.loc 3 0]] [(1,(Af p62_1)),(3,[.mp 5]),(4,[.clo 99 0 [.loc 3 0]]),(5,[.mapO false false (.t9 p62_2) (.t4 p62_3)])] k=ob (Agq L p62_0 p62_1 p62_2 p62_3) (Bc1 p62_0 p62_1 p62_2 p62_3 k):=(C3 _ _ _ jn4 _ _ _ _ _ _ _).trans (eE (Aqn L p62_0 p62_1 p62_2 p62_3 (ho (Cdg L (Bo6 L k) p62_0 p62_1 (L+24) (0,0,p62_2,p62_3)) fun o41=>Cgp L k p62_0 p62_1 p62_2 p62_3 o41)))
def Blt(p71_0:ByteArray)(p71_1:Aa)(p71_2:List ByteArray)(p71_3:List Bool)(k:Bq):Cw→Prop:=fun o=>k (I o.1) [(1,(Af p71_1)),(3,[.mp 5]),(4,[.clo 99 0 [.loc 3 0]]),(5,[.mapO false false (.t9 o.2.1) (.t4 o.2.2)])]
def Ap6 [An A Cw](p71_0:ByteArray)(p71_1:Aa)(p71_2:List ByteArray)(p71_3:List Bool):A:=
 (bd (Dc L p71_0) fun r43=>
 (cn (r43 != 0)
 (lf (r43,p71_2,p71_3))
 (fq (p71_2.findIdx? fun b=>p71_0 == b) (fun i44=>
 (cn (p71_3.getD i44 default)
 (lf (4,p71_2,p71_3))
 (fq (p71_2.findIdx? fun b=>p71_0 == b) (fun i45=>
 (lf (0,p71_2,(p71_3.set i45 true))))
 (lf (0,(p71_2++ [p71_0]),(p71_3++ [true]))))))
 (fq (p71_2.findIdx? fun b=>p71_0 == b) (fun i46=>
 (lf (0,p71_2,(p71_3.set i46 true))))
 (lf (0,(p71_2++ [p71_0]),(p71_3++ [true])))))))
def P0(p71_0:ByteArray)(p71_1:Aa)(p71_2:List ByteArray)(p71_3:List Bool):Option Cw:=Ap6 L p71_0 p71_1 p71_2 p71_3
theorem B30(p71_0:ByteArray)(p71_1:Aa)(p71_2:List ByteArray)(p71_3:List Bool):YO (Ds L) (L+24) 5 69 [.mp 5,S p71_0] [(1,(Af p71_1)),(3,[.mp 5]),(4,[.clo 99 0 [.loc 3 0]]),(5,[.mapO false false (.t9 p71_2) (.t4 p71_3)])] k=ob (P0 L p71_0 p71_1 p71_2 p71_3) (Blt p71_0 p71_1 p71_2 p71_3 k):=(C3 _ _ _ jn4 _ _ _ _ _ _ _).trans (eE (Ap6 L p71_0 p71_1 p71_2 p71_3))
def Bk3(p69_0:List ByteArray)(p69_1:Aa)(v:Tu5):St:=⟨[(0,.any),(1,.any),(2,.clo 69 1 [.mp 5]),(6,I v.1),(14,lv (.t9 p69_0)),(15,I (p69_0.length:Int)),(16,I v.2.1)],[(1,(Af p69_1)),(3,[.mp 5]),(4,[.clo 99 0 [.loc 3 0]]),(5,[.mapO false false (.t9 v.2.2.1) (.t4 v.2.2.2)])],6⟩
def Vg [An A Vo](L:Nat)(Rs:Int)(Ma:Int)(rec:Int→Int→List ByteArray→List Bool→A)(o47:Cw):A:=
 (cn (o47.1 != 0)
 (lf (0,o47.1,Rs,o47.2.1,o47.2.2))
 (rec Ma (B7 (Rs+1)) o47.2.1 o47.2.2))
def z7 [An A Vo](L:Nat)(p69_0:List ByteArray)(p69_1:Aa)(rec:Int→Int→List ByteArray→List Bool→A)(Ma:Int)(Rs:Int)(Oi:List ByteArray)(Oj:List Bool)(nx96:Int→(List ByteArray)→(List Bool)→Int→A):A:=
 (lw Rs p69_0
 (nx96 Rs Oi Oj Ma)
 (lf (1,Ma,Rs,Oi,Oj)))
def Aka [An A Vo](p69_0:List ByteArray)(p69_1:Aa)(rec:Int→Int→List ByteArray→List Bool→A)(Ma:Int)(Rs:Int)(Oi:List ByteArray)(Oj:List Bool):A:=z7 L p69_0 p69_1 rec Ma Rs Oi Oj (fun Rs Oi Oj Ma=>bd (P0 L (p69_0.getD (Int.toNat Rs) default) p69_1 Oi Oj) fun o47=>Vg L Rs Ma rec o47)
def Kr(L:Nat)(p69_0:List ByteArray)(p69_1:Aa):Nat→Int→Int→List ByteArray→List Bool→Option Vo
 |0,_,_,_,_=>none
 |n+1,Ma,Rs,Oi,Oj=>Aka L p69_0 p69_1 (Kr L p69_0 p69_1 n) Ma Rs Oi Oj
def Bt4(p69_0:List ByteArray)(p69_1:Aa):Prop:=LI (EV (Ds L) (L+24) 5 Bsc.w.l.u.l.l) [0,1,2,6,14,15,16] [1,3,4,5] (Bk3 p69_0 p69_1) [.ret,.exit 0] (fun n v=>Kr L p69_0 p69_1 n v.1 v.2.1 v.2.2.1 v.2.2.2) K n
def Bo8(p69_0:List ByteArray)(Rs:Int)(Ma:Int)(p69_1:Aa)(Oi:List ByteArray)(Oj:List Bool):Bq:=(B4 Tryz.prog (Ds L) (EI (Ds L) (L+24) 5) 1 (List.drop 3 Bsc.w.l.u.l.l.w.l.l.u.l.ops) ⟨[(21,S (p69_0.getD (Int.toNat Rs) default)),(20,.clo 69 1 [.mp 5]),(2,.clo 69 1 [.mp 5]),(6,I Ma),(8,S (p69_0.getD (Int.toNat Rs) default)),(14,lv (.t9 p69_0)),(15,I (p69_0.length:Int)),(16,I Rs),(17,B (decide (Rs < (p69_0.length:Int)))),(18,.ref [S (p69_0.getD (Int.toNat Rs) default)]),(19,S (p69_0.getD (Int.toNat Rs) default))],[(1,(Af p69_1)),(3,[.mp 5]),(4,[.clo 99 0 [.loc 3 0]]),(5,[.mapO false false (.t9 Oi) (.t4 Oj)])],6⟩ (some 22) (fun st9=>(Be (EV (Ds L) (L+24) 5 Bsc.w.l.u.l.l.w.l.l.u.r) (Av 1 (Be (EV (Ds L) (L+24) 5 Bsc.w.l.u.l.l.w.r) (Hh (Jj (EV (Ds L) (L+24) 5 Bsc.w.l.u.l.l) [0,1,2,6,14,15,16] [1,3,4,5] n) [0,1,2,6,14,15,16] [1,3,4,5] K)))) .normal st9))
theorem Cgr(p69_0:List ByteArray)(Rs:Int)(p69_1:Aa)(Oi:List ByteArray)(Oj:List Bool)(Ma:Int)(ih:Bt4 L n K p69_0 p69_1)(o47:Cw):Blt (p69_0.getD (Int.toNat Rs) default) p69_1 Oi Oj (Bo8 L n K p69_0 Rs Ma p69_1 Oi Oj) o47=ob (Vg L Rs Ma (Kr L p69_0 p69_1 n) o47) (kX [.ret,.exit 0] (Bk3 p69_0 p69_1) K):=eE (Vg L Rs Ma (fun Ma Rs Oi Oj=>re (ih (Ma,Rs,Oi,Oj))) o47)
theorem Cdh(p69_0:List ByteArray)(p69_1:Aa):∀n,Bt4 L n K p69_0 p69_1:=lE (fun _=>rfl) fun n v ih=>eE (z7 L p69_0 p69_1 (fun Ma Rs Oi Oj=>re (ih (Ma,Rs,Oi,Oj))) v.1 v.2.1 v.2.2.1 v.2.2.2 (fun Rs Oi Oj Ma=>ho (B30 L (Bo8 L n K p69_0 Rs Ma p69_1 Oi Oj) (p69_0.getD (Int.toNat Rs) default) p69_1 Oi Oj) fun o47=>Cgr L n K p69_0 Rs p69_1 Oi Oj Ma ih o47))
def Aqz(p69_0:List ByteArray)(p69_1:Aa)(p69_2:List ByteArray)(p69_3:List Bool)(k:Bq):Cw→Prop:=fun o=>k (I o.1) [(1,(Af p69_1)),(3,[.mp 5]),(4,[.clo 99 0 [.loc 3 0]]),(5,[.mapO false false (.t9 o.2.1) (.t4 o.2.2)])]
def Ahc [An A Cw](L:Nat)(o48:Nat×Tu5):A:=
 (sl o48.1 [(lf (o48.2.1,o48.2.2.2.1,o48.2.2.2.2)),
 (lf (0,o48.2.2.2.1,o48.2.2.2.2))])
def Bo9:Ba:=(Av 0 (Be (EV (Ds L) (L+24) 5 Bsc.w.r) (Eb Tryz.prog (RS Tryz.f100) k)))
theorem Cgs(p69_0:List ByteArray)(p69_1:Aa)(p69_2:List ByteArray)(p69_3:List Bool)(o48:Nat×Tu5):kX [.ret,.exit 0] (Bk3 p69_0 p69_1) (Bo9 L k) o48=ob (Ahc L o48) (Aqz p69_0 p69_1 p69_2 p69_3 k):=eE (Ahc L o48)
def Aqo [An A Cw](L:Nat)(p69_0:List ByteArray)(p69_1:Aa)(p69_2:List ByteArray)(p69_3:List Bool)(nx97:A):A:=
 (cn (decide ((p69_0.length:Int) > 32))
 (lf (6,p69_2,p69_3))
 nx97)
def A0z [An A Cw](p69_0:List ByteArray)(p69_1:Aa)(p69_2:List ByteArray)(p69_3:List Bool):A:=Aqo L p69_0 p69_1 p69_2 p69_3 (bd (Kr L p69_0 p69_1 (L+24) 0 0 p69_2 p69_3) fun o48=>Ahc L o48)
def K9(p69_0:List ByteArray)(p69_1:Aa)(p69_2:List ByteArray)(p69_3:List Bool):Option Cw:=A0z L p69_0 p69_1 p69_2 p69_3
theorem Ay4(p69_0:List ByteArray)(p69_1:Aa)(p69_2:List ByteArray)(p69_3:List Bool):YO (Ds L) (L+24) 6 100 [lv (.t9 p69_0),I 32,.clo 69 1 [.mp 5]] [(1,(Af p69_1)),(3,[.mp 5]),(4,[.clo 99 0 [.loc 3 0]]),(5,[.mapO false false (.t9 p69_2) (.t4 p69_3)])] k=ob (K9 L p69_0 p69_1 p69_2 p69_3) (Aqz p69_0 p69_1 p69_2 p69_3 k):=(C3 _ _ _ jn4 _ _ _ _ _ _ _).trans (eE (Aqo L p69_0 p69_1 p69_2 p69_3 (ho (Cdh L (Bo9 L k) p69_0 p69_1 (L+24) (0,0,p69_2,p69_3)) fun o48=>Cgs L k p69_0 p69_1 p69_2 p69_3 o48)))
def Blu(p78_0:ByteArray)(p78_1:Aa)(p78_2:List ByteArray)(p78_3:List Bool)(p78_4:Am)(p78_5:Am)(k:Bq):Cw→Prop:=fun o=>k (I o.1) [(1,(Af p78_1)),(3,[.mp 5]),(4,[.clo 99 0 [.loc 3 0]]),(5,[.mapO false false (.t9 o.2.1) (.t4 o.2.2)]),(14,(Cv p78_4)),(17,(Cv p78_5))]
def Ap8 [An A Cw](p78_0:ByteArray)(p78_1:Aa)(p78_2:List ByteArray)(p78_3:List Bool)(p78_4:Am)(p78_5:Am):A:=
 (bd (Dc L p78_0) fun r54=>
 (cn (r54 != 0)
 (lf (r54,p78_2,p78_3))
 (fq (p78_2.findIdx? fun b=>p78_0 == b) (fun i55=>
 (cn (p78_3.getD i55 default)
 (lf (4,p78_2,p78_3))
 (fq (p78_2.findIdx? fun b=>p78_0 == b) (fun i56=>
 (lf (0,p78_2,(p78_3.set i56 true))))
 (lf (0,(p78_2++ [p78_0]),(p78_3++ [true]))))))
 (fq (p78_2.findIdx? fun b=>p78_0 == b) (fun i57=>
 (lf (0,p78_2,(p78_3.set i57 true))))
 (lf (0,(p78_2++ [p78_0]),(p78_3++ [true])))))))
def Agt(p78_0:ByteArray)(p78_1:Aa)(p78_2:List ByteArray)(p78_3:List Bool)(p78_4:Am)(p78_5:Am):Option Cw:=Ap8 L p78_0 p78_1 p78_2 p78_3 p78_4 p78_5
theorem B33(p78_0:ByteArray)(p78_1:Aa)(p78_2:List ByteArray)(p78_3:List Bool)(p78_4:Am)(p78_5:Am):YO (Ds L) (L+24) 5 69 [.mp 5,S p78_0] [(1,(Af p78_1)),(3,[.mp 5]),(4,[.clo 99 0 [.loc 3 0]]),(5,[.mapO false false (.t9 p78_2) (.t4 p78_3)]),(14,(Cv p78_4)),(17,(Cv p78_5))] k=ob (Agt L p78_0 p78_1 p78_2 p78_3 p78_4 p78_5) (Blu p78_0 p78_1 p78_2 p78_3 p78_4 p78_5 k):=(C3 _ _ _ jn4 _ _ _ _ _ _ _).trans (eE (Ap8 L p78_0 p78_1 p78_2 p78_3 p78_4 p78_5))
def Bc4(p76_0:Am)(p76_1:Aa)(p76_2:List ByteArray)(p76_3:List Bool)(p76_4:Am)(k:Bq):Cw→Prop:=fun o=>k (I o.1) [(1,(Af p76_1)),(3,[.mp 5]),(4,[.clo 99 0 [.loc 3 0]]),(5,[.mapO false false (.t9 o.2.1) (.t4 o.2.2)]),(14,(Cv p76_4)),(17,(Cv p76_0))]
def X4 [An A Cw](p76_0:Am)(o58:Cw):A:=
 (cn (o58.1 != 0)
 (lf (o58.1,o58.2.1,o58.2.2))
 (bd (Aa8 L p76_0) fun r59=>
 (lf (r59,o58.2.1,o58.2.2))))
def Bgw(p76_0:Am)(p76_1:Aa)(p76_2:List ByteArray)(p76_3:List Bool)(p76_4:Am):Bq:=(B4 Tryz.prog (Ds L) (EI (Ds L) (L+24) 5) 1 (List.drop 4 Ca5.u.l.l.ops) ⟨[(7,S p76_0.Name),(6,.loc 17 0),(5,.mp 5),(1,.loc 3 0),(2,.loc 17 0),(3,I 0)],[(1,(Af p76_1)),(3,[.mp 5]),(4,[.clo 99 0 [.loc 3 0]]),(5,[.mapO false false (.t9 p76_2) (.t4 p76_3)]),(14,(Cv p76_4)),(17,(Cv p76_0))],15⟩ (some 8) (fun st9=>(Be (EV (Ds L) (L+24) 5 Ca5.u.l.r) (Be (EV (Ds L) (L+24) 5 Ca5.u.r) (Eb Tryz.prog (RS Tryz.f122) k))) .normal st9))
theorem B6l(p76_0:Am)(p76_1:Aa)(p76_2:List ByteArray)(p76_3:List Bool)(p76_4:Am)(o58:Cw):Blu p76_0.Name p76_1 p76_2 p76_3 p76_4 p76_0 (Bgw L k p76_0 p76_1 p76_2 p76_3 p76_4) o58=ob (X4 L p76_0 o58) (Bc4 p76_0 p76_1 p76_2 p76_3 p76_4 k):=eE (X4 L p76_0 o58)
def Ap7 [An A Cw](p76_0:Am)(p76_1:Aa)(p76_2:List ByteArray)(p76_3:List Bool)(p76_4:Am):A:=(bd (Agt L p76_0.Name p76_1 p76_2 p76_3 p76_4 p76_0) fun o58=>X4 L p76_0 o58)
def P1(p76_0:Am)(p76_1:Aa)(p76_2:List ByteArray)(p76_3:List Bool)(p76_4:Am):Option Cw:=Ap7 L p76_0 p76_1 p76_2 p76_3 p76_4
theorem B32(p76_0:Am)(p76_1:Aa)(p76_2:List ByteArray)(p76_3:List Bool)(p76_4:Am):YO (Ds L) (L+24) 6 122 [.agg (Cv p76_0),.loc 3 0] [(1,(Af p76_1)),(3,[.mp 5]),(4,[.clo 99 0 [.loc 3 0]]),(5,[.mapO false false (.t9 p76_2) (.t4 p76_3)]),(14,(Cv p76_4))] k=ob (P1 L p76_0 p76_1 p76_2 p76_3 p76_4) (Bc4 p76_0 p76_1 p76_2 p76_3 p76_4 k):=(C3 _ _ _ jn4 _ _ _ _ _ _ _).trans (eE ((ho (B33 L (Bgw L k p76_0 p76_1 p76_2 p76_3 p76_4) p76_0.Name p76_1 p76_2 p76_3 p76_4 p76_0) fun o58=>B6l L k p76_0 p76_1 p76_2 p76_3 p76_4 o58)))
def Bk4(p72_0:List Am)(p72_1:Aa)(v:Tu5):St:=⟨[(0,.any),(1,.any),(2,.clo 122 0 [.loc 3 0]),(6,I v.1),(14,lv (.t58 p72_0)),(15,I (p72_0.length:Int)),(16,I v.2.1)],[(1,(Af p72_1)),(3,[.mp 5]),(4,[.clo 99 0 [.loc 3 0]]),(5,[.mapO false false (.t9 v.2.2.1) (.t4 v.2.2.2)])],6⟩
def S7 [An A Vo](L:Nat)(Rg:Int)(Mb:Int)(rec:Int→Int→List ByteArray→List Bool→A)(o60:Cw):A:=
 (cn (o60.1 != 0)
 (lf (0,o60.1,Rg,o60.2.1,o60.2.2))
 (rec Mb (B7 (Rg+1)) o60.2.1 o60.2.2))
def Ym [An A Vo](L:Nat)(p72_0:List Am)(p72_1:Aa)(rec:Int→Int→List ByteArray→List Bool→A)(Mb:Int)(Rg:Int)(Ok:List ByteArray)(Ol:List Bool)(nx109:Int→(List ByteArray)→(List Bool)→Int→A):A:=
 (lw Rg p72_0
 (nx109 Rg Ok Ol Mb)
 (lf (1,Mb,Rg,Ok,Ol)))
def Akb [An A Vo](p72_0:List Am)(p72_1:Aa)(rec:Int→Int→List ByteArray→List Bool→A)(Mb:Int)(Rg:Int)(Ok:List ByteArray)(Ol:List Bool):A:=Ym L p72_0 p72_1 rec Mb Rg Ok Ol (fun Rg Ok Ol Mb=>bd (P1 L (p72_0.getD (Int.toNat Rg) default) p72_1 Ok Ol (p72_0.getD (Int.toNat Rg) default)) fun o60=>S7 L Rg Mb rec o60)
def Ks(L:Nat)(p72_0:List Am)(p72_1:Aa):Nat→Int→Int→List ByteArray→List Bool→Option Vo
 |0,_,_,_,_=>none
 |n+1,Mb,Rg,Ok,Ol=>Akb L p72_0 p72_1 (Ks L p72_0 p72_1 n) Mb Rg Ok Ol
def Bt5(p72_0:List Am)(p72_1:Aa):Prop:=LI (EV (Ds L) (L+24) 6 Bsg.w.l.u.l.l) [0,1,2,6,14,15,16] [1,3,4,5] (Bk4 p72_0 p72_1) [.ret,.exit 0] (fun n v=>Ks L p72_0 p72_1 n v.1 v.2.1 v.2.2.1 v.2.2.2) K n
def Bgx(p72_0:List Am)(Rg:Int)(Mb:Int)(p72_1:Aa)(Ok:List ByteArray)(Ol:List Bool):Bq:=(B4 Tryz.prog (Ds L) (EI (Ds L) (L+24) 6) 1 (List.drop 3 Bsg.w.l.u.l.l.w.l.l.u.l.ops) ⟨[(21,.agg (Cv (p72_0.getD (Int.toNat Rg) default))),(20,.clo 122 0 [.loc 3 0]),(2,.clo 122 0 [.loc 3 0]),(6,I Mb),(8,.loc 14 0),(14,lv (.t58 p72_0)),(15,I (p72_0.length:Int)),(16,I Rg),(17,B (decide (Rg < (p72_0.length:Int)))),(18,.ref (Cv (p72_0.getD (Int.toNat Rg) default))),(19,.agg (Cv (p72_0.getD (Int.toNat Rg) default)))],[(1,(Af p72_1)),(3,[.mp 5]),(4,[.clo 99 0 [.loc 3 0]]),(5,[.mapO false false (.t9 Ok) (.t4 Ol)]),(14,(Cv (p72_0.getD (Int.toNat Rg) default)))],6⟩ (some 22) (fun st9=>(Be (EV (Ds L) (L+24) 6 Bsg.w.l.u.l.l.w.l.l.u.r) (Av 1 (Be (EV (Ds L) (L+24) 6 Bsg.w.l.u.l.l.w.r) (Hh (Jj (EV (Ds L) (L+24) 6 Bsg.w.l.u.l.l) [0,1,2,6,14,15,16] [1,3,4,5] n) [0,1,2,6,14,15,16] [1,3,4,5] K)))) .normal st9))
theorem B6m(p72_0:List Am)(Rg:Int)(p72_1:Aa)(Ok:List ByteArray)(Ol:List Bool)(Mb:Int)(ih:Bt5 L n K p72_0 p72_1)(o60:Cw):Bc4 (p72_0.getD (Int.toNat Rg) default) p72_1 Ok Ol (p72_0.getD (Int.toNat Rg) default) (Bgx L n K p72_0 Rg Mb p72_1 Ok Ol) o60=ob (S7 L Rg Mb (Ks L p72_0 p72_1 n) o60) (kX [.ret,.exit 0] (Bk4 p72_0 p72_1) K):=eE (S7 L Rg Mb (fun Mb Rg Ok Ol=>re (ih (Mb,Rg,Ok,Ol))) o60)
theorem Cdi(p72_0:List Am)(p72_1:Aa):∀n,Bt5 L n K p72_0 p72_1:=lE (fun _=>rfl) fun n v ih=>eE (Ym L p72_0 p72_1 (fun Mb Rg Ok Ol=>re (ih (Mb,Rg,Ok,Ol))) v.1 v.2.1 v.2.2.1 v.2.2.2 (fun Rg Ok Ol Mb=>ho (B32 L (Bgx L n K p72_0 Rg Mb p72_1 Ok Ol) (p72_0.getD (Int.toNat Rg) default) p72_1 Ok Ol (p72_0.getD (Int.toNat Rg) default)) fun o60=>B6m L n K p72_0 Rg p72_1 Ok Ol Mb ih o60))
def Bc3(p72_0:List Am)(p72_1:Aa)(p72_2:List ByteArray)(p72_3:List Bool)(k:Bq):Cw→Prop:=fun o=>k (I o.1) [(1,(Af p72_1)),(3,[.mp 5]),(4,[.clo 99 0 [.loc 3 0]]),(5,[.mapO false false (.t9 o.2.1) (.t4 o.2.2)])]
def Ae0 [An A Cw](L:Nat)(o61:Nat×Tu5):A:=
 (sl o61.1 [(lf (o61.2.1,o61.2.2.2.1,o61.2.2.2.2)),
 (lf (0,o61.2.2.2.1,o61.2.2.2.2))])
def Bgy:Ba:=(Av 0 (Be (EV (Ds L) (L+24) 6 Bsg.w.r) (Eb Tryz.prog (RS Tryz.f121) k)))
theorem B6n(p72_0:List Am)(p72_1:Aa)(p72_2:List ByteArray)(p72_3:List Bool)(o61:Nat×Tu5):kX [.ret,.exit 0] (Bk4 p72_0 p72_1) (Bgy L k) o61=ob (Ae0 L o61) (Bc3 p72_0 p72_1 p72_2 p72_3 k):=eE (Ae0 L o61)
def An2 [An A Cw](L:Nat)(p72_0:List Am)(p72_1:Aa)(p72_2:List ByteArray)(p72_3:List Bool)(nx110:A):A:=
 (cn (decide ((p72_0.length:Int) > 16))
 (lf (6,p72_2,p72_3))
 nx110)
def A00 [An A Cw](p72_0:List Am)(p72_1:Aa)(p72_2:List ByteArray)(p72_3:List Bool):A:=An2 L p72_0 p72_1 p72_2 p72_3 (bd (Ks L p72_0 p72_1 (L+24) 0 0 p72_2 p72_3) fun o61=>Ae0 L o61)
def Ags(p72_0:List Am)(p72_1:Aa)(p72_2:List ByteArray)(p72_3:List Bool):Option Cw:=A00 L p72_0 p72_1 p72_2 p72_3
theorem B31(p72_0:List Am)(p72_1:Aa)(p72_2:List ByteArray)(p72_3:List Bool):YO (Ds L) (L+24) 7 121 [lv (.t58 p72_0),I 16,.clo 122 0 [.loc 3 0]] [(1,(Af p72_1)),(3,[.mp 5]),(4,[.clo 99 0 [.loc 3 0]]),(5,[.mapO false false (.t9 p72_2) (.t4 p72_3)])] k=ob (Ags L p72_0 p72_1 p72_2 p72_3) (Bc3 p72_0 p72_1 p72_2 p72_3 k):=(C3 _ _ _ jn4 _ _ _ _ _ _ _).trans (eE (An2 L p72_0 p72_1 p72_2 p72_3 (ho (Cdi L (Bgy L k) p72_0 p72_1 (L+24) (0,0,p72_2,p72_3)) fun o61=>B6n L k p72_0 p72_1 p72_2 p72_3 o61)))
def By5(p79_0:List Br)(p79_1:Aa)(p79_2:List ByteArray)(p79_3:List Bool)(v:Cs):St:=⟨[(0,.any),(1,.any),(2,.clo 126 0 [.loc 1 0]),(6,I v.1),(14,lv (.t119 p79_0)),(15,I (p79_0.length:Int)),(16,I v.2)],[(1,(Af p79_1)),(3,[.mp 5]),(4,[.clo 99 0 [.loc 3 0]]),(5,[.mapO false false (.t9 p79_2) (.t4 p79_3)])],6⟩
def Abo [An A Cm](p79_0:List Br)(p79_1:Aa)(p79_2:List ByteArray)(p79_3:List Bool)(rec:Int→Int→A)(As1:Int)(Bfe:Int):A:=
 (lw Bfe p79_0
 (bd (W6 L p79_1 (p79_0.getD (Int.toNat Bfe) default)) fun r63=>
 (cn (r63 != 0)
 (lf (0,r63,Bfe))
 (rec As1 (B7 (Bfe+1)))))
 (lf (1,As1,Bfe)))
def Nn(L:Nat)(p79_0:List Br)(p79_1:Aa)(p79_2:List ByteArray)(p79_3:List Bool):Nat→Int→Int→Option Cm
 |0,_,_=>none
 |n+1,As1,Bfe=>Abo L p79_0 p79_1 p79_2 p79_3 (Nn L p79_0 p79_1 p79_2 p79_3 n) As1 Bfe
theorem Cdj(p79_0:List Br)(p79_1:Aa)(p79_2:List ByteArray)(p79_3:List Bool):LP (EV (Ds L) (L+24) 6 Cjt.w.l.u.l.l) [0,1,2,6,14,15,16] [1,3,4,5] (By5 p79_0 p79_1 p79_2 p79_3) [.ret,.exit 0] (fun n v=>Nn L p79_0 p79_1 p79_2 p79_3 n v.1 v.2) K:=lE (fun _=>rfl) fun n v ih=>eE (Abo L p79_0 p79_1 p79_2 p79_3 (fun As1 Bfe=>re (ih (As1,Bfe))) v.1 v.2)
def Bc5(p79_0:List Br)(p79_1:Aa)(p79_2:List ByteArray)(p79_3:List Bool)(k:Bq):Int→Prop:=fun o=>k (I o) [(1,(Af p79_1)),(3,[.mp 5]),(4,[.clo 99 0 [.loc 3 0]]),(5,[.mapO false false (.t9 p79_2) (.t4 p79_3)])]
def Ae2 [An A Int](L:Nat)(o64:Nat×Cs):A:=
 (sl o64.1 [(lf o64.2.1),
 (lf 0)])
def Bg0:Ba:=(Av 0 (Be (EV (Ds L) (L+24) 6 Cjt.w.r) (Eb Tryz.prog (RS Tryz.f125) k)))
theorem B6p(p79_0:List Br)(p79_1:Aa)(p79_2:List ByteArray)(p79_3:List Bool)(o64:Nat×Cs):kX [.ret,.exit 0] (By5 p79_0 p79_1 p79_2 p79_3) (Bg0 L k) o64=ob (Ae2 L o64) (Bc5 p79_0 p79_1 p79_2 p79_3 k):=eE (Ae2 L o64)
def An3 [An A Int](L:Nat)(p79_0:List Br)(p79_1:Aa)(p79_2:List ByteArray)(p79_3:List Bool)(nx113:A):A:=
 (cn (decide ((p79_0.length:Int) > 32))
 (lf 6)
 nx113)
def A01 [An A Int](p79_0:List Br)(p79_1:Aa)(p79_2:List ByteArray)(p79_3:List Bool):A:=An3 L p79_0 p79_1 p79_2 p79_3 (bd (Nn L p79_0 p79_1 p79_2 p79_3 (L+24) 0 0) fun o64=>Ae2 L o64)
def Agu(p79_0:List Br)(p79_1:Aa)(p79_2:List ByteArray)(p79_3:List Bool):Option Int:=A01 L p79_0 p79_1 p79_2 p79_3
theorem B34(p79_0:List Br)(p79_1:Aa)(p79_2:List ByteArray)(p79_3:List Bool):YO (Ds L) (L+24) 7 125 [lv (.t119 p79_0),I 32,.clo 126 0 [.loc 1 0]] [(1,(Af p79_1)),(3,[.mp 5]),(4,[.clo 99 0 [.loc 3 0]]),(5,[.mapO false false (.t9 p79_2) (.t4 p79_3)])] k=ob (Agu L p79_0 p79_1 p79_2 p79_3) (Bc5 p79_0 p79_1 p79_2 p79_3 k):=(C3 _ _ _ jn4 _ _ _ _ _ _ _).trans (eE (An3 L p79_0 p79_1 p79_2 p79_3 (ho (Cdj L (Bg0 L k) p79_0 p79_1 p79_2 p79_3 (L+24) (0,0)) fun o64=>B6p L k p79_0 p79_1 p79_2 p79_3 o64)))
def Af5(p1_0:Aa)(k:Bq):Cw→Prop:=fun o=>k (I o.1) [(1,(Af p1_0)),(3,[.mp 5]),(4,[.clo 99 0 [.loc 3 0]]),(5,[.mapO false false (.t9 o.2.1) (.t4 o.2.2)])]
def X5 [An A Cw](o62:Cw)(p1_0:Aa)(o65:Int):A:=
 (cn (o65 != 0)
 (lf (o65,o62.2.1,o62.2.2))
 (gq ((0:Int)≤11)
 (gq (11 < ((12:Nat):Int))
 (bd (Ak0 L p1_0) fun r66=>
 (cn (r66 != 0)
 (lf (r66,o62.2.1,o62.2.2))
 (lf (0,o62.2.1,o62.2.2)))))))
def Bg1(p1_0:Aa)(o62:Cw):Bq:=(B4 Tryz.prog (Ds L) (EI (Ds L) (L+24) 7) 1 (List.drop 4 Cjs.u.l.ops) ⟨[(4,.clo 126 0 [.loc 1 0]),(3,lv (.t119 p1_0.Starts)),(2,.loc 1 11),(0,.loc 1 0),(1,I 0)],[(1,(Af p1_0)),(3,[.mp 5]),(4,[.clo 99 0 [.loc 3 0]]),(5,[.mapO false false (.t9 o62.2.1) (.t4 o62.2.2)])],6⟩ (some 5) (fun st9=>(Be (EV (Ds L) (L+24) 7 Cjs.u.r) (Eb Tryz.prog (RS Tryz.f124) (B4 Tryz.prog (Ds L) (EI (Ds L) (L+24) 8) 1 (List.drop 2 Ru.u.l.u.l.l.w.l.l.u.l.ops) ⟨[(12,.clo 124 0 [.loc 1 0]),(2,I 0),(4,.clo 124 0 [.loc 1 0]),(6,.sl false 178 1 [[.clo 102 0 [.loc 3 0,.loc 1 0]],[.clo 103 0 [.loc 1 0,.loc 3 0]],[.clo 109 0 [.loc 1 0,.loc 3 0]],[.clo 112 0 [.loc 1 0,.loc 3 0]],[.clo 115 0 [.loc 4 0,.loc 1 0]],[.clo 116 0 [.loc 4 0,.loc 1 0]],[.clo 117 0 [.loc 4 0,.loc 1 0]],[.clo 118 0 [.loc 4 0,.loc 1 0]],[.clo 119 0 [.loc 4 0,.loc 1 0]],[.clo 120 0 [.loc 1 0,.loc 3 0]],[.clo 124 0 [.loc 1 0]],[.clo 128 0 [.loc 1 0]]]),(7,I 12),(8,I 10),(9,B true),(10,.ref [.clo 124 0 [.loc 1 0]]),(11,.clo 124 0 [.loc 1 0])],[(1,(Af p1_0)),(3,[.mp 5]),(4,[.clo 99 0 [.loc 3 0]]),(5,[.mapO false false (.t9 o62.2.1) (.t4 o62.2.2)])],6⟩ (some 13) (fun st9=>(Be (EV (Ds L) (L+24) 8 Ru.u.l.u.l.l.w.l.l.u.r) (Av 1 (Be (EV (Ds L) (L+24) 8 Ru.u.l.u.l.l.w.r) (Hh (Jj (EV (Ds L) (L+24) 8 Ru.u.l.u.l.l) [0,2,6,7,8] [1,3,4,5] (L+13)) [0,2,6,7,8] [1,3,4,5] (Ami L k))))) .normal st9)))) .normal st9))
theorem B6q(p1_0:Aa)(o62:Cw)(o65:Int):Bc5 p1_0.Starts p1_0 o62.2.1 o62.2.2 (Bg1 L k p1_0 o62) o65=ob (X5 L o62 p1_0 o65) (Af5 p1_0 k):=eE (X5 L o62 p1_0 o65)
def Afs [An A Cw](L:Nat)(p1_0:Aa)(o62:Cw)(nx114:Cw→A):A:=
 (cn (o62.1 != 0)
 (lf (o62.1,o62.2.1,o62.2.2))
 (gq ((0:Int)≤10)
 (gq (10 < ((12:Nat):Int))
 (nx114 o62))))
def Ae1 [An A Cw](p1_0:Aa)(o62:Cw):A:=Afs L p1_0 o62 (fun o62=>bd (Agu L p1_0.Starts p1_0 o62.2.1 o62.2.2) fun o65=>X5 L o62 p1_0 o65)
def Bgz(p1_0:Aa)(o53:Cw):Bq:=(B4 Tryz.prog (Ds L) (EI (Ds L) (L+24) 7) 1 (List.drop 4 Cjr.u.l.ops) ⟨[(5,.clo 122 0 [.loc 3 0]),(4,lv (.t58 p1_0.Routines)),(3,.loc 1 10),(0,.loc 1 0),(1,.loc 3 0),(2,I 0)],[(1,(Af p1_0)),(3,[.mp 5]),(4,[.clo 99 0 [.loc 3 0]]),(5,[.mapO false false (.t9 o53.2.1) (.t4 o53.2.2)])],6⟩ (some 6) (fun st9=>(Be (EV (Ds L) (L+24) 7 Cjr.u.r) (Eb Tryz.prog (RS Tryz.f120) (B4 Tryz.prog (Ds L) (EI (Ds L) (L+24) 8) 1 (List.drop 2 Ru.u.l.u.l.l.w.l.l.u.l.ops) ⟨[(12,.clo 120 0 [.loc 1 0,.loc 3 0]),(2,I 0),(4,.clo 120 0 [.loc 1 0,.loc 3 0]),(6,.sl false 178 1 [[.clo 102 0 [.loc 3 0,.loc 1 0]],[.clo 103 0 [.loc 1 0,.loc 3 0]],[.clo 109 0 [.loc 1 0,.loc 3 0]],[.clo 112 0 [.loc 1 0,.loc 3 0]],[.clo 115 0 [.loc 4 0,.loc 1 0]],[.clo 116 0 [.loc 4 0,.loc 1 0]],[.clo 117 0 [.loc 4 0,.loc 1 0]],[.clo 118 0 [.loc 4 0,.loc 1 0]],[.clo 119 0 [.loc 4 0,.loc 1 0]],[.clo 120 0 [.loc 1 0,.loc 3 0]],[.clo 124 0 [.loc 1 0]],[.clo 128 0 [.loc 1 0]]]),(7,I 12),(8,I 9),(9,B true),(10,.ref [.clo 120 0 [.loc 1 0,.loc 3 0]]),(11,.clo 120 0 [.loc 1 0,.loc 3 0])],[(1,(Af p1_0)),(3,[.mp 5]),(4,[.clo 99 0 [.loc 3 0]]),(5,[.mapO false false (.t9 o53.2.1) (.t4 o53.2.2)])],6⟩ (some 13) (fun st9=>(Be (EV (Ds L) (L+24) 8 Ru.u.l.u.l.l.w.l.l.u.r) (Av 1 (Be (EV (Ds L) (L+24) 8 Ru.u.l.u.l.l.w.r) (Hh (Jj (EV (Ds L) (L+24) 8 Ru.u.l.u.l.l) [0,2,6,7,8] [1,3,4,5] (L+14)) [0,2,6,7,8] [1,3,4,5] (Ami L k))))) .normal st9)))) .normal st9))
theorem B6o(p1_0:Aa)(o53:Cw)(o62:Cw):Bc3 p1_0.Routines p1_0 o53.2.1 o53.2.2 (Bgz L k p1_0 o53) o62=ob (Ae1 L p1_0 o62) (Af5 p1_0 k):=eE (Afs L p1_0 o62 (fun o62=>ho (B34 L (Bg1 L k p1_0 o62) p1_0.Starts p1_0 o62.2.1 o62.2.2) fun o65=>B6q L k p1_0 o62 o65))
def Afr [An A Cw](L:Nat)(p1_0:Aa)(o53:Cw)(nx111:Cw→A):A:=
 (cn (o53.1 != 0)
 (lf (o53.1,o53.2.1,o53.2.2))
 (gq ((0:Int)≤9)
 (gq (9 < ((12:Nat):Int))
 (nx111 o53))))
def Aez [An A Cw](p1_0:Aa)(o53:Cw):A:=Afr L p1_0 o53 (fun o53=>bd (Ags L p1_0.Routines p1_0 o53.2.1 o53.2.2) fun o62=>Ae1 L p1_0 o62)
def Bgv(p1_0:Aa)(o52:Cw):Bq:=(B4 Tryz.prog (Ds L) (EI (Ds L) (L+24) 6) 1 (List.drop 4 c99.u.l.ops) ⟨[(6,.clo 69 1 [.mp 5]),(5,.mp 5),(4,lv (.t9 p1_0.Counts)),(0,lv (.t9 p1_0.Counts)),(1,.loc 3 0),(3,I 0)],[(1,(Af p1_0)),(3,[.mp 5]),(4,[.clo 99 0 [.loc 3 0]]),(5,[.mapO false false (.t9 o52.2.1) (.t4 o52.2.2)])],6⟩ (some 7) (fun st9=>(Be (EV (Ds L) (L+24) 6 c99.u.r) (Eb Tryz.prog (RS Tryz.f99) (B4 Tryz.prog (Ds L) (EI (Ds L) (L+24) 7) 1 (List.drop 4 Cjq.u.l.ops) ⟨[(5,lv (.t9 p1_0.Counts)),(4,.loc 1 9),(3,.clo 99 0 [.loc 3 0]),(0,.loc 4 0),(1,.loc 1 0),(2,I 0)],[(1,(Af p1_0)),(3,[.mp 5]),(4,[.clo 99 0 [.loc 3 0]]),(5,[.mapO false false (.t9 o52.2.1) (.t4 o52.2.2)])],6⟩ (some 6) (fun st9=>(Be (EV (Ds L) (L+24) 7 Cjq.u.r) (Eb Tryz.prog (RS Tryz.f119) (B4 Tryz.prog (Ds L) (EI (Ds L) (L+24) 8) 1 (List.drop 2 Ru.u.l.u.l.l.w.l.l.u.l.ops) ⟨[(12,.clo 119 0 [.loc 4 0,.loc 1 0]),(2,I 0),(4,.clo 119 0 [.loc 4 0,.loc 1 0]),(6,.sl false 178 1 [[.clo 102 0 [.loc 3 0,.loc 1 0]],[.clo 103 0 [.loc 1 0,.loc 3 0]],[.clo 109 0 [.loc 1 0,.loc 3 0]],[.clo 112 0 [.loc 1 0,.loc 3 0]],[.clo 115 0 [.loc 4 0,.loc 1 0]],[.clo 116 0 [.loc 4 0,.loc 1 0]],[.clo 117 0 [.loc 4 0,.loc 1 0]],[.clo 118 0 [.loc 4 0,.loc 1 0]],[.clo 119 0 [.loc 4 0,.loc 1 0]],[.clo 120 0 [.loc 1 0,.loc 3 0]],[.clo 124 0 [.loc 1 0]],[.clo 128 0 [.loc 1 0]]]),(7,I 12),(8,I 8),(9,B true),(10,.ref [.clo 119 0 [.loc 4 0,.loc 1 0]]),(11,.clo 119 0 [.loc 4 0,.loc 1 0])],[(1,(Af p1_0)),(3,[.mp 5]),(4,[.clo 99 0 [.loc 3 0]]),(5,[.mapO false false (.t9 o52.2.1) (.t4 o52.2.2)])],6⟩ (some 13) (fun st9=>(Be (EV (Ds L) (L+24) 8 Ru.u.l.u.l.l.w.l.l.u.r) (Av 1 (Be (EV (Ds L) (L+24) 8 Ru.u.l.u.l.l.w.r) (Hh (Jj (EV (Ds L) (L+24) 8 Ru.u.l.u.l.l) [0,2,6,7,8] [1,3,4,5] (L+15)) [0,2,6,7,8] [1,3,4,5] (Ami L k))))) .normal st9)))) .normal st9)))) .normal st9))
theorem B6k(p1_0:Aa)(o52:Cw)(o53:Cw):Aqz p1_0.Counts p1_0 o52.2.1 o52.2.2 (Bgv L k p1_0 o52) o53=ob (Aez L p1_0 o53) (Af5 p1_0 k):=eE (Afr L p1_0 o53 (fun o53=>ho (B31 L (Bgz L k p1_0 o53) p1_0.Routines p1_0 o53.2.1 o53.2.2) fun o62=>B6o L k p1_0 o53 o62))
def Afq [An A Cw](L:Nat)(p1_0:Aa)(o52:Cw)(nx102:Cw→A):A:=
 (cn (o52.1 != 0)
 (lf (o52.1,o52.2.1,o52.2.2))
 (gq ((0:Int)≤8)
 (gq (8 < ((12:Nat):Int))
 (nx102 o52))))
def Aey [An A Cw](p1_0:Aa)(o52:Cw):A:=Afq L p1_0 o52 (fun o52=>bd (K9 L p1_0.Counts p1_0 o52.2.1 o52.2.2) fun o53=>Aez L p1_0 o53)
def Bgu(p1_0:Aa)(o51:Cw):Bq:=(B4 Tryz.prog (Ds L) (EI (Ds L) (L+24) 6) 1 (List.drop 4 c99.u.l.ops) ⟨[(6,.clo 69 1 [.mp 5]),(5,.mp 5),(4,lv (.t9 p1_0.Levels)),(0,lv (.t9 p1_0.Levels)),(1,.loc 3 0),(3,I 0)],[(1,(Af p1_0)),(3,[.mp 5]),(4,[.clo 99 0 [.loc 3 0]]),(5,[.mapO false false (.t9 o51.2.1) (.t4 o51.2.2)])],6⟩ (some 7) (fun st9=>(Be (EV (Ds L) (L+24) 6 c99.u.r) (Eb Tryz.prog (RS Tryz.f99) (B4 Tryz.prog (Ds L) (EI (Ds L) (L+24) 7) 1 (List.drop 4 Cjp.u.l.ops) ⟨[(5,lv (.t9 p1_0.Levels)),(4,.loc 1 8),(3,.clo 99 0 [.loc 3 0]),(0,.loc 4 0),(1,.loc 1 0),(2,I 0)],[(1,(Af p1_0)),(3,[.mp 5]),(4,[.clo 99 0 [.loc 3 0]]),(5,[.mapO false false (.t9 o51.2.1) (.t4 o51.2.2)])],6⟩ (some 6) (fun st9=>(Be (EV (Ds L) (L+24) 7 Cjp.u.r) (Eb Tryz.prog (RS Tryz.f118) (B4 Tryz.prog (Ds L) (EI (Ds L) (L+24) 8) 1 (List.drop 2 Ru.u.l.u.l.l.w.l.l.u.l.ops) ⟨[(12,.clo 118 0 [.loc 4 0,.loc 1 0]),(2,I 0),(4,.clo 118 0 [.loc 4 0,.loc 1 0]),(6,.sl false 178 1 [[.clo 102 0 [.loc 3 0,.loc 1 0]],[.clo 103 0 [.loc 1 0,.loc 3 0]],[.clo 109 0 [.loc 1 0,.loc 3 0]],[.clo 112 0 [.loc 1 0,.loc 3 0]],[.clo 115 0 [.loc 4 0,.loc 1 0]],[.clo 116 0 [.loc 4 0,.loc 1 0]],[.clo 117 0 [.loc 4 0,.loc 1 0]],[.clo 118 0 [.loc 4 0,.loc 1 0]],[.clo 119 0 [.loc 4 0,.loc 1 0]],[.clo 120 0 [.loc 1 0,.loc 3 0]],[.clo 124 0 [.loc 1 0]],[.clo 128 0 [.loc 1 0]]]),(7,I 12),(8,I 7),(9,B true),(10,.ref [.clo 118 0 [.loc 4 0,.loc 1 0]]),(11,.clo 118 0 [.loc 4 0,.loc 1 0])],[(1,(Af p1_0)),(3,[.mp 5]),(4,[.clo 99 0 [.loc 3 0]]),(5,[.mapO false false (.t9 o51.2.1) (.t4 o51.2.2)])],6⟩ (some 13) (fun st9=>(Be (EV (Ds L) (L+24) 8 Ru.u.l.u.l.l.w.l.l.u.r) (Av 1 (Be (EV (Ds L) (L+24) 8 Ru.u.l.u.l.l.w.r) (Hh (Jj (EV (Ds L) (L+24) 8 Ru.u.l.u.l.l) [0,2,6,7,8] [1,3,4,5] (L+16)) [0,2,6,7,8] [1,3,4,5] (Ami L k))))) .normal st9)))) .normal st9)))) .normal st9))
theorem B6j(p1_0:Aa)(o51:Cw)(o52:Cw):Aqz p1_0.Levels p1_0 o51.2.1 o51.2.2 (Bgu L k p1_0 o51) o52=ob (Aey L p1_0 o52) (Af5 p1_0 k):=eE (Afq L p1_0 o52 (fun o52=>ho (Ay4 L (Bgv L k p1_0 o52) p1_0.Counts p1_0 o52.2.1 o52.2.2) fun o53=>B6k L k p1_0 o52 o53))
def Afp [An A Cw](L:Nat)(p1_0:Aa)(o51:Cw)(nx101:Cw→A):A:=
 (cn (o51.1 != 0)
 (lf (o51.1,o51.2.1,o51.2.2))
 (gq ((0:Int)≤7)
 (gq (7 < ((12:Nat):Int))
 (nx101 o51))))
def Aex [An A Cw](p1_0:Aa)(o51:Cw):A:=Afp L p1_0 o51 (fun o51=>bd (K9 L p1_0.Levels p1_0 o51.2.1 o51.2.2) fun o52=>Aey L p1_0 o52)
def Bgt(p1_0:Aa)(o50:Cw):Bq:=(B4 Tryz.prog (Ds L) (EI (Ds L) (L+24) 6) 1 (List.drop 4 c99.u.l.ops) ⟨[(6,.clo 69 1 [.mp 5]),(5,.mp 5),(4,lv (.t9 p1_0.Tallies)),(0,lv (.t9 p1_0.Tallies)),(1,.loc 3 0),(3,I 0)],[(1,(Af p1_0)),(3,[.mp 5]),(4,[.clo 99 0 [.loc 3 0]]),(5,[.mapO false false (.t9 o50.2.1) (.t4 o50.2.2)])],6⟩ (some 7) (fun st9=>(Be (EV (Ds L) (L+24) 6 c99.u.r) (Eb Tryz.prog (RS Tryz.f99) (B4 Tryz.prog (Ds L) (EI (Ds L) (L+24) 7) 1 (List.drop 4 Cjo.u.l.ops) ⟨[(5,lv (.t9 p1_0.Tallies)),(4,.loc 1 7),(3,.clo 99 0 [.loc 3 0]),(0,.loc 4 0),(1,.loc 1 0),(2,I 0)],[(1,(Af p1_0)),(3,[.mp 5]),(4,[.clo 99 0 [.loc 3 0]]),(5,[.mapO false false (.t9 o50.2.1) (.t4 o50.2.2)])],6⟩ (some 6) (fun st9=>(Be (EV (Ds L) (L+24) 7 Cjo.u.r) (Eb Tryz.prog (RS Tryz.f117) (B4 Tryz.prog (Ds L) (EI (Ds L) (L+24) 8) 1 (List.drop 2 Ru.u.l.u.l.l.w.l.l.u.l.ops) ⟨[(12,.clo 117 0 [.loc 4 0,.loc 1 0]),(2,I 0),(4,.clo 117 0 [.loc 4 0,.loc 1 0]),(6,.sl false 178 1 [[.clo 102 0 [.loc 3 0,.loc 1 0]],[.clo 103 0 [.loc 1 0,.loc 3 0]],[.clo 109 0 [.loc 1 0,.loc 3 0]],[.clo 112 0 [.loc 1 0,.loc 3 0]],[.clo 115 0 [.loc 4 0,.loc 1 0]],[.clo 116 0 [.loc 4 0,.loc 1 0]],[.clo 117 0 [.loc 4 0,.loc 1 0]],[.clo 118 0 [.loc 4 0,.loc 1 0]],[.clo 119 0 [.loc 4 0,.loc 1 0]],[.clo 120 0 [.loc 1 0,.loc 3 0]],[.clo 124 0 [.loc 1 0]],[.clo 128 0 [.loc 1 0]]]),(7,I 12),(8,I 6),(9,B true),(10,.ref [.clo 117 0 [.loc 4 0,.loc 1 0]]),(11,.clo 117 0 [.loc 4 0,.loc 1 0])],[(1,(Af p1_0)),(3,[.mp 5]),(4,[.clo 99 0 [.loc 3 0]]),(5,[.mapO false false (.t9 o50.2.1) (.t4 o50.2.2)])],6⟩ (some 13) (fun st9=>(Be (EV (Ds L) (L+24) 8 Ru.u.l.u.l.l.w.l.l.u.r) (Av 1 (Be (EV (Ds L) (L+24) 8 Ru.u.l.u.l.l.w.r) (Hh (Jj (EV (Ds L) (L+24) 8 Ru.u.l.u.l.l) [0,2,6,7,8] [1,3,4,5] (L+17)) [0,2,6,7,8] [1,3,4,5] (Ami L k))))) .normal st9)))) .normal st9)))) .normal st9))
theorem B6i(p1_0:Aa)(o50:Cw)(o51:Cw):Aqz p1_0.Tallies p1_0 o50.2.1 o50.2.2 (Bgt L k p1_0 o50) o51=ob (Aex L p1_0 o51) (Af5 p1_0 k):=eE (Afp L p1_0 o51 (fun o51=>ho (Ay4 L (Bgu L k p1_0 o51) p1_0.Levels p1_0 o51.2.1 o51.2.2) fun o52=>B6j L k p1_0 o51 o52))
def Afo [An A Cw](L:Nat)(p1_0:Aa)(o50:Cw)(nx100:Cw→A):A:=
 (cn (o50.1 != 0)
 (lf (o50.1,o50.2.1,o50.2.2))
 (gq ((0:Int)≤6)
 (gq (6 < ((12:Nat):Int))
 (nx100 o50))))
def Ahe [An A Cw](p1_0:Aa)(o50:Cw):A:=Afo L p1_0 o50 (fun o50=>bd (K9 L p1_0.Tallies p1_0 o50.2.1 o50.2.2) fun o51=>Aex L p1_0 o51)
def Bpb(p1_0:Aa)(o49:Cw):Bq:=(B4 Tryz.prog (Ds L) (EI (Ds L) (L+24) 6) 1 (List.drop 4 c99.u.l.ops) ⟨[(6,.clo 69 1 [.mp 5]),(5,.mp 5),(4,lv (.t9 p1_0.Streams)),(0,lv (.t9 p1_0.Streams)),(1,.loc 3 0),(3,I 0)],[(1,(Af p1_0)),(3,[.mp 5]),(4,[.clo 99 0 [.loc 3 0]]),(5,[.mapO false false (.t9 o49.2.1) (.t4 o49.2.2)])],6⟩ (some 7) (fun st9=>(Be (EV (Ds L) (L+24) 6 c99.u.r) (Eb Tryz.prog (RS Tryz.f99) (B4 Tryz.prog (Ds L) (EI (Ds L) (L+24) 7) 1 (List.drop 4 Cjn.u.l.ops) ⟨[(5,lv (.t9 p1_0.Streams)),(4,.loc 1 6),(3,.clo 99 0 [.loc 3 0]),(0,.loc 4 0),(1,.loc 1 0),(2,I 0)],[(1,(Af p1_0)),(3,[.mp 5]),(4,[.clo 99 0 [.loc 3 0]]),(5,[.mapO false false (.t9 o49.2.1) (.t4 o49.2.2)])],6⟩ (some 6) (fun st9=>(Be (EV (Ds L) (L+24) 7 Cjn.u.r) (Eb Tryz.prog (RS Tryz.f116) (B4 Tryz.prog (Ds L) (EI (Ds L) (L+24) 8) 1 (List.drop 2 Ru.u.l.u.l.l.w.l.l.u.l.ops) ⟨[(12,.clo 116 0 [.loc 4 0,.loc 1 0]),(2,I 0),(4,.clo 116 0 [.loc 4 0,.loc 1 0]),(6,.sl false 178 1 [[.clo 102 0 [.loc 3 0,.loc 1 0]],[.clo 103 0 [.loc 1 0,.loc 3 0]],[.clo 109 0 [.loc 1 0,.loc 3 0]],[.clo 112 0 [.loc 1 0,.loc 3 0]],[.clo 115 0 [.loc 4 0,.loc 1 0]],[.clo 116 0 [.loc 4 0,.loc 1 0]],[.clo 117 0 [.loc 4 0,.loc 1 0]],[.clo 118 0 [.loc 4 0,.loc 1 0]],[.clo 119 0 [.loc 4 0,.loc 1 0]],[.clo 120 0 [.loc 1 0,.loc 3 0]],[.clo 124 0 [.loc 1 0]],[.clo 128 0 [.loc 1 0]]]),(7,I 12),(8,I 5),(9,B true),(10,.ref [.clo 116 0 [.loc 4 0,.loc 1 0]]),(11,.clo 116 0 [.loc 4 0,.loc 1 0])],[(1,(Af p1_0)),(3,[.mp 5]),(4,[.clo 99 0 [.loc 3 0]]),(5,[.mapO false false (.t9 o49.2.1) (.t4 o49.2.2)])],6⟩ (some 13) (fun st9=>(Be (EV (Ds L) (L+24) 8 Ru.u.l.u.l.l.w.l.l.u.r) (Av 1 (Be (EV (Ds L) (L+24) 8 Ru.u.l.u.l.l.w.r) (Hh (Jj (EV (Ds L) (L+24) 8 Ru.u.l.u.l.l) [0,2,6,7,8] [1,3,4,5] (L+18)) [0,2,6,7,8] [1,3,4,5] (Ami L k))))) .normal st9)))) .normal st9)))) .normal st9))
theorem Cgu(p1_0:Aa)(o49:Cw)(o50:Cw):Aqz p1_0.Streams p1_0 o49.2.1 o49.2.2 (Bpb L k p1_0 o49) o50=ob (Ahe L p1_0 o50) (Af5 p1_0 k):=eE (Afo L p1_0 o50 (fun o50=>ho (Ay4 L (Bgt L k p1_0 o50) p1_0.Tallies p1_0 o50.2.1 o50.2.2) fun o51=>B6i L k p1_0 o50 o51))
def Ahp [An A Cw](L:Nat)(p1_0:Aa)(o49:Cw)(nx99:Cw→A):A:=
 (cn (o49.1 != 0)
 (lf (o49.1,o49.2.1,o49.2.2))
 (gq ((0:Int)≤5)
 (gq (5 < ((12:Nat):Int))
 (nx99 o49))))
def Ahd [An A Cw](p1_0:Aa)(o49:Cw):A:=Ahp L p1_0 o49 (fun o49=>bd (K9 L p1_0.Streams p1_0 o49.2.1 o49.2.2) fun o50=>Ahe L p1_0 o50)
def Bpa(p1_0:Aa)(o42:Cw):Bq:=(B4 Tryz.prog (Ds L) (EI (Ds L) (L+24) 6) 1 (List.drop 4 c99.u.l.ops) ⟨[(6,.clo 69 1 [.mp 5]),(5,.mp 5),(4,lv (.t9 p1_0.Queues)),(0,lv (.t9 p1_0.Queues)),(1,.loc 3 0),(3,I 0)],[(1,(Af p1_0)),(3,[.mp 5]),(4,[.clo 99 0 [.loc 3 0]]),(5,[.mapO false false (.t9 o42.2.1) (.t4 o42.2.2)])],6⟩ (some 7) (fun st9=>(Be (EV (Ds L) (L+24) 6 c99.u.r) (Eb Tryz.prog (RS Tryz.f99) (B4 Tryz.prog (Ds L) (EI (Ds L) (L+24) 7) 1 (List.drop 4 Cjm.u.l.ops) ⟨[(5,lv (.t9 p1_0.Queues)),(4,.loc 1 5),(3,.clo 99 0 [.loc 3 0]),(0,.loc 4 0),(1,.loc 1 0),(2,I 0)],[(1,(Af p1_0)),(3,[.mp 5]),(4,[.clo 99 0 [.loc 3 0]]),(5,[.mapO false false (.t9 o42.2.1) (.t4 o42.2.2)])],6⟩ (some 6) (fun st9=>(Be (EV (Ds L) (L+24) 7 Cjm.u.r) (Eb Tryz.prog (RS Tryz.f115) (B4 Tryz.prog (Ds L) (EI (Ds L) (L+24) 8) 1 (List.drop 2 Ru.u.l.u.l.l.w.l.l.u.l.ops) ⟨[(12,.clo 115 0 [.loc 4 0,.loc 1 0]),(2,I 0),(4,.clo 115 0 [.loc 4 0,.loc 1 0]),(6,.sl false 178 1 [[.clo 102 0 [.loc 3 0,.loc 1 0]],[.clo 103 0 [.loc 1 0,.loc 3 0]],[.clo 109 0 [.loc 1 0,.loc 3 0]],[.clo 112 0 [.loc 1 0,.loc 3 0]],[.clo 115 0 [.loc 4 0,.loc 1 0]],[.clo 116 0 [.loc 4 0,.loc 1 0]],[.clo 117 0 [.loc 4 0,.loc 1 0]],[.clo 118 0 [.loc 4 0,.loc 1 0]],[.clo 119 0 [.loc 4 0,.loc 1 0]],[.clo 120 0 [.loc 1 0,.loc 3 0]],[.clo 124 0 [.loc 1 0]],[.clo 128 0 [.loc 1 0]]]),(7,I 12),(8,I 4),(9,B true),(10,.ref [.clo 115 0 [.loc 4 0,.loc 1 0]]),(11,.clo 115 0 [.loc 4 0,.loc 1 0])],[(1,(Af p1_0)),(3,[.mp 5]),(4,[.clo 99 0 [.loc 3 0]]),(5,[.mapO false false (.t9 o42.2.1) (.t4 o42.2.2)])],6⟩ (some 13) (fun st9=>(Be (EV (Ds L) (L+24) 8 Ru.u.l.u.l.l.w.l.l.u.r) (Av 1 (Be (EV (Ds L) (L+24) 8 Ru.u.l.u.l.l.w.r) (Hh (Jj (EV (Ds L) (L+24) 8 Ru.u.l.u.l.l) [0,2,6,7,8] [1,3,4,5] (L+19)) [0,2,6,7,8] [1,3,4,5] (Ami L k))))) .normal st9)))) .normal st9)))) .normal st9))
theorem Cgt(p1_0:Aa)(o42:Cw)(o49:Cw):Aqz p1_0.Queues p1_0 o42.2.1 o42.2.2 (Bpa L k p1_0 o42) o49=ob (Ahd L p1_0 o49) (Af5 p1_0 k):=eE (Ahp L p1_0 o49 (fun o49=>ho (Ay4 L (Bpb L k p1_0 o49) p1_0.Streams p1_0 o49.2.1 o49.2.2) fun o50=>Cgu L k p1_0 o49 o50))
def Aho [An A Cw](L:Nat)(p1_0:Aa)(o42:Cw)(nx98:Cw→A):A:=
 (cn (o42.1 != 0)
 (lf (o42.1,o42.2.1,o42.2.2))
 (gq ((0:Int)≤4)
 (gq (4 < ((12:Nat):Int))
 (nx98 o42))))
def Ahb [An A Cw](p1_0:Aa)(o42:Cw):A:=Aho L p1_0 o42 (fun o42=>bd (K9 L p1_0.Queues p1_0 o42.2.1 o42.2.2) fun o49=>Ahd L p1_0 o49)
def Bo7(p1_0:Aa)(o31:Cw):Bq:=(B4 Tryz.prog (Ds L) (EI (Ds L) (L+24) 7) 1 (List.drop 4 Cjl.u.l.ops) ⟨[(5,.clo 114 0 [.loc 3 0]),(4,lv (.t115 p1_0.Belts)),(3,.loc 1 4),(0,.loc 1 0),(1,.loc 3 0),(2,I 0)],[(1,(Af p1_0)),(3,[.mp 5]),(4,[.clo 99 0 [.loc 3 0]]),(5,[.mapO false false (.t9 o31.2.1) (.t4 o31.2.2)])],6⟩ (some 6) (fun st9=>(Be (EV (Ds L) (L+24) 7 Cjl.u.r) (Eb Tryz.prog (RS Tryz.f112) (B4 Tryz.prog (Ds L) (EI (Ds L) (L+24) 8) 1 (List.drop 2 Ru.u.l.u.l.l.w.l.l.u.l.ops) ⟨[(12,.clo 112 0 [.loc 1 0,.loc 3 0]),(2,I 0),(4,.clo 112 0 [.loc 1 0,.loc 3 0]),(6,.sl false 178 1 [[.clo 102 0 [.loc 3 0,.loc 1 0]],[.clo 103 0 [.loc 1 0,.loc 3 0]],[.clo 109 0 [.loc 1 0,.loc 3 0]],[.clo 112 0 [.loc 1 0,.loc 3 0]],[.clo 115 0 [.loc 4 0,.loc 1 0]],[.clo 116 0 [.loc 4 0,.loc 1 0]],[.clo 117 0 [.loc 4 0,.loc 1 0]],[.clo 118 0 [.loc 4 0,.loc 1 0]],[.clo 119 0 [.loc 4 0,.loc 1 0]],[.clo 120 0 [.loc 1 0,.loc 3 0]],[.clo 124 0 [.loc 1 0]],[.clo 128 0 [.loc 1 0]]]),(7,I 12),(8,I 3),(9,B true),(10,.ref [.clo 112 0 [.loc 1 0,.loc 3 0]]),(11,.clo 112 0 [.loc 1 0,.loc 3 0])],[(1,(Af p1_0)),(3,[.mp 5]),(4,[.clo 99 0 [.loc 3 0]]),(5,[.mapO false false (.t9 o31.2.1) (.t4 o31.2.2)])],6⟩ (some 13) (fun st9=>(Be (EV (Ds L) (L+24) 8 Ru.u.l.u.l.l.w.l.l.u.r) (Av 1 (Be (EV (Ds L) (L+24) 8 Ru.u.l.u.l.l.w.r) (Hh (Jj (EV (Ds L) (L+24) 8 Ru.u.l.u.l.l) [0,2,6,7,8] [1,3,4,5] (L+20)) [0,2,6,7,8] [1,3,4,5] (Ami L k))))) .normal st9)))) .normal st9))
theorem Cgq(p1_0:Aa)(o31:Cw)(o42:Cw):Bc1 p1_0.Belts p1_0 o31.2.1 o31.2.2 (Bo7 L k p1_0 o31) o42=ob (Ahb L p1_0 o42) (Af5 p1_0 k):=eE (Aho L p1_0 o42 (fun o42=>ho (Ay4 L (Bpa L k p1_0 o42) p1_0.Queues p1_0 o42.2.1 o42.2.2) fun o49=>Cgt L k p1_0 o42 o49))
def Ahn [An A Cw](L:Nat)(p1_0:Aa)(o31:Cw)(nx93:Cw→A):A:=
 (cn (o31.1 != 0)
 (lf (o31.1,o31.2.1,o31.2.2))
 (gq ((0:Int)≤3)
 (gq (3 < ((12:Nat):Int))
 (nx93 o31))))
def Ag9 [An A Cw](p1_0:Aa)(o31:Cw):A:=Ahn L p1_0 o31 (fun o31=>bd (Agq L p1_0.Belts p1_0 o31.2.1 o31.2.2) fun o42=>Ahb L p1_0 o42)
def Bo3(p1_0:Aa)(o21:Cw):Bq:=(B4 Tryz.prog (Ds L) (EI (Ds L) (L+24) 7) 1 (List.drop 4 Cjk.u.l.ops) ⟨[(5,.clo 111 0 [.loc 3 0]),(4,lv (.t113 p1_0.Stores)),(3,.loc 1 3),(0,.loc 1 0),(1,.loc 3 0),(2,I 0)],[(1,(Af p1_0)),(3,[.mp 5]),(4,[.clo 99 0 [.loc 3 0]]),(5,[.mapO false false (.t9 o21.2.1) (.t4 o21.2.2)])],6⟩ (some 6) (fun st9=>(Be (EV (Ds L) (L+24) 7 Cjk.u.r) (Eb Tryz.prog (RS Tryz.f109) (B4 Tryz.prog (Ds L) (EI (Ds L) (L+24) 8) 1 (List.drop 2 Ru.u.l.u.l.l.w.l.l.u.l.ops) ⟨[(12,.clo 109 0 [.loc 1 0,.loc 3 0]),(2,I 0),(4,.clo 109 0 [.loc 1 0,.loc 3 0]),(6,.sl false 178 1 [[.clo 102 0 [.loc 3 0,.loc 1 0]],[.clo 103 0 [.loc 1 0,.loc 3 0]],[.clo 109 0 [.loc 1 0,.loc 3 0]],[.clo 112 0 [.loc 1 0,.loc 3 0]],[.clo 115 0 [.loc 4 0,.loc 1 0]],[.clo 116 0 [.loc 4 0,.loc 1 0]],[.clo 117 0 [.loc 4 0,.loc 1 0]],[.clo 118 0 [.loc 4 0,.loc 1 0]],[.clo 119 0 [.loc 4 0,.loc 1 0]],[.clo 120 0 [.loc 1 0,.loc 3 0]],[.clo 124 0 [.loc 1 0]],[.clo 128 0 [.loc 1 0]]]),(7,I 12),(8,I 2),(9,B true),(10,.ref [.clo 109 0 [.loc 1 0,.loc 3 0]]),(11,.clo 109 0 [.loc 1 0,.loc 3 0])],[(1,(Af p1_0)),(3,[.mp 5]),(4,[.clo 99 0 [.loc 3 0]]),(5,[.mapO false false (.t9 o21.2.1) (.t4 o21.2.2)])],6⟩ (some 13) (fun st9=>(Be (EV (Ds L) (L+24) 8 Ru.u.l.u.l.l.w.l.l.u.r) (Av 1 (Be (EV (Ds L) (L+24) 8 Ru.u.l.u.l.l.w.r) (Hh (Jj (EV (Ds L) (L+24) 8 Ru.u.l.u.l.l) [0,2,6,7,8] [1,3,4,5] (L+21)) [0,2,6,7,8] [1,3,4,5] (Ami L k))))) .normal st9)))) .normal st9))
theorem Cgm(p1_0:Aa)(o21:Cw)(o31:Cw):Bcz p1_0.Stores p1_0 o21.2.1 o21.2.2 (Bo3 L k p1_0 o21) o31=ob (Ag9 L p1_0 o31) (Af5 p1_0 k):=eE (Ahn L p1_0 o31 (fun o31=>ho (B3x L (Bo7 L k p1_0 o31) p1_0.Belts p1_0 o31.2.1 o31.2.2) fun o42=>Cgq L k p1_0 o31 o42))
def Ahm [An A Cw](L:Nat)(p1_0:Aa)(o21:Cw)(nx84:Cw→A):A:=
 (cn (o21.1 != 0)
 (lf (o21.1,o21.2.1,o21.2.2))
 (gq ((0:Int)≤2)
 (gq (2 < ((12:Nat):Int))
 (nx84 o21))))
def Ag7 [An A Cw](p1_0:Aa)(o21:Cw):A:=Ahm L p1_0 o21 (fun o21=>bd (Ago L p1_0.Stores p1_0 o21.2.1 o21.2.2) fun o31=>Ag9 L p1_0 o31)
def Boz(p1_0:Aa)(o10:Cw):Bq:=(B4 Tryz.prog (Ds L) (EI (Ds L) (L+24) 7) 1 (List.drop 4 Cji.u.l.ops) ⟨[(5,.clo 105 0 [.loc 3 0,.loc 1 0]),(4,lv (.t110 p1_0.Resources)),(3,.loc 1 2),(0,.loc 1 0),(1,.loc 3 0),(2,I 0)],[(1,(Af p1_0)),(3,[.mp 5]),(4,[.clo 99 0 [.loc 3 0]]),(5,[.mapO false false (.t9 o10.2.1) (.t4 o10.2.2)])],6⟩ (some 6) (fun st9=>(Be (EV (Ds L) (L+24) 7 Cji.u.r) (Eb Tryz.prog (RS Tryz.f103) (B4 Tryz.prog (Ds L) (EI (Ds L) (L+24) 8) 1 (List.drop 2 Ru.u.l.u.l.l.w.l.l.u.l.ops) ⟨[(12,.clo 103 0 [.loc 1 0,.loc 3 0]),(2,I 0),(4,.clo 103 0 [.loc 1 0,.loc 3 0]),(6,.sl false 178 1 [[.clo 102 0 [.loc 3 0,.loc 1 0]],[.clo 103 0 [.loc 1 0,.loc 3 0]],[.clo 109 0 [.loc 1 0,.loc 3 0]],[.clo 112 0 [.loc 1 0,.loc 3 0]],[.clo 115 0 [.loc 4 0,.loc 1 0]],[.clo 116 0 [.loc 4 0,.loc 1 0]],[.clo 117 0 [.loc 4 0,.loc 1 0]],[.clo 118 0 [.loc 4 0,.loc 1 0]],[.clo 119 0 [.loc 4 0,.loc 1 0]],[.clo 120 0 [.loc 1 0,.loc 3 0]],[.clo 124 0 [.loc 1 0]],[.clo 128 0 [.loc 1 0]]]),(7,I 12),(8,I 1),(9,B true),(10,.ref [.clo 103 0 [.loc 1 0,.loc 3 0]]),(11,.clo 103 0 [.loc 1 0,.loc 3 0])],[(1,(Af p1_0)),(3,[.mp 5]),(4,[.clo 99 0 [.loc 3 0]]),(5,[.mapO false false (.t9 o10.2.1) (.t4 o10.2.2)])],6⟩ (some 13) (fun st9=>(Be (EV (Ds L) (L+24) 8 Ru.u.l.u.l.l.w.l.l.u.r) (Av 1 (Be (EV (Ds L) (L+24) 8 Ru.u.l.u.l.l.w.r) (Hh (Jj (EV (Ds L) (L+24) 8 Ru.u.l.u.l.l) [0,2,6,7,8] [1,3,4,5] (L+22)) [0,2,6,7,8] [1,3,4,5] (Ami L k))))) .normal st9)))) .normal st9))
theorem Cgi(p1_0:Aa)(o10:Cw)(o21:Cw):Bcx p1_0.Resources p1_0 o10.2.1 o10.2.2 (Boz L k p1_0 o10) o21=ob (Ag7 L p1_0 o21) (Af5 p1_0 k):=eE (Ahm L p1_0 o21 (fun o21=>ho (B3u L (Bo3 L k p1_0 o21) p1_0.Stores p1_0 o21.2.1 o21.2.2) fun o31=>Cgm L k p1_0 o21 o31))
def Ahl [An A Cw](L:Nat)(p1_0:Aa)(o10:Cw)(nx75:Cw→A):A:=
 (cn (o10.1 != 0)
 (lf (o10.1,o10.2.1,o10.2.2))
 (gq ((0:Int)≤1)
 (gq (1 < ((12:Nat):Int))
 (nx75 o10))))
def Ag5 [An A Cw](p1_0:Aa)(o10:Cw):A:=Ahl L p1_0 o10 (fun o10=>bd (Agm L p1_0.Resources p1_0 o10.2.1 o10.2.2) fun o21=>Ag7 L p1_0 o21)
def Bov(p1_0:Aa):Bq:=(B4 Tryz.prog (Ds L) (EI (Ds L) (L+24) 6) 1 (List.drop 4 c66.u.l.ops) ⟨[(7,.clo 98 1 [.mp 5]),(6,.mp 5),(5,lv (.t39 p1_0.Vars)),(0,.mp 5),(1,lv (.t39 p1_0.Vars)),(4,I 0)],[(1,(Af p1_0)),(3,[.mp 5]),(4,[.clo 99 0 [.loc 3 0]]),(5,[.mapO false false (.t9 []) (.t4 [])])],6⟩ (some 8) (fun st9=>(Be (EV (Ds L) (L+24) 6 c66.u.r) (Eb Tryz.prog (RS Tryz.f66) (B4 Tryz.prog (Ds L) (EI (Ds L) (L+24) 7) 1 (List.drop 4 Cjh.u.l.ops) ⟨[(5,lv (.t39 p1_0.Vars)),(4,.loc 1 1),(3,.mp 5),(0,.loc 3 0),(1,.loc 1 0),(2,I 0)],[(1,(Af p1_0)),(3,[.mp 5]),(4,[.clo 99 0 [.loc 3 0]]),(5,[.mapO false false (.t9 []) (.t4 [])])],6⟩ (some 6) (fun st9=>(Be (EV (Ds L) (L+24) 7 Cjh.u.r) (Eb Tryz.prog (RS Tryz.f102) (B4 Tryz.prog (Ds L) (EI (Ds L) (L+24) 8) 1 (List.drop 2 Ru.u.l.u.l.l.w.l.l.u.l.ops) ⟨[(12,.clo 102 0 [.loc 3 0,.loc 1 0]),(2,I 0),(4,.clo 102 0 [.loc 3 0,.loc 1 0]),(6,.sl false 178 1 [[.clo 102 0 [.loc 3 0,.loc 1 0]],[.clo 103 0 [.loc 1 0,.loc 3 0]],[.clo 109 0 [.loc 1 0,.loc 3 0]],[.clo 112 0 [.loc 1 0,.loc 3 0]],[.clo 115 0 [.loc 4 0,.loc 1 0]],[.clo 116 0 [.loc 4 0,.loc 1 0]],[.clo 117 0 [.loc 4 0,.loc 1 0]],[.clo 118 0 [.loc 4 0,.loc 1 0]],[.clo 119 0 [.loc 4 0,.loc 1 0]],[.clo 120 0 [.loc 1 0,.loc 3 0]],[.clo 124 0 [.loc 1 0]],[.clo 128 0 [.loc 1 0]]]),(7,I 12),(8,I 0),(9,B true),(10,.ref [.clo 102 0 [.loc 3 0,.loc 1 0]]),(11,.clo 102 0 [.loc 3 0,.loc 1 0])],[(1,(Af p1_0)),(3,[.mp 5]),(4,[.clo 99 0 [.loc 3 0]]),(5,[.mapO false false (.t9 []) (.t4 [])])],6⟩ (some 13) (fun st9=>(Be (EV (Ds L) (L+24) 8 Ru.u.l.u.l.l.w.l.l.u.r) (Av 1 (Be (EV (Ds L) (L+24) 8 Ru.u.l.u.l.l.w.r) (Hh (Jj (EV (Ds L) (L+24) 8 Ru.u.l.u.l.l) [0,2,6,7,8] [1,3,4,5] (L+23)) [0,2,6,7,8] [1,3,4,5] (Ami L k))))) .normal st9)))) .normal st9)))) .normal st9))
theorem Cge(p1_0:Aa)(o10:Cw):Bcv p1_0.Vars p1_0 (Bov L k p1_0) o10=ob (Ag5 L p1_0 o10) (Af5 p1_0 k):=eE (Ahl L p1_0 o10 (fun o10=>ho (B3r L (Boz L k p1_0 o10) p1_0.Resources p1_0 o10.2.1 o10.2.2) fun o21=>Cgi L k p1_0 o10 o21))
def Ahk [An A Cw](L:Nat)(p1_0:Aa)(nx66:A):A:=
 (gq ((0:Int)≤0)
 (gq (0 < ((12:Nat):Int))
 nx66))
def Asl [An A Cw](p1_0:Aa):A:=Ahk L p1_0 (bd (Agk L p1_0.Vars p1_0) fun o10=>Ag5 L p1_0 o10)
def Abf(p1_0:Aa):Option Cw:=Asl L p1_0
theorem Cbw(p1_0:Aa):YO (Ds L) (L+24) 9 101 [.sl false 178 1 [[.clo 102 0 [.loc 3 0,.loc 1 0]],[.clo 103 0 [.loc 1 0,.loc 3 0]],[.clo 109 0 [.loc 1 0,.loc 3 0]],[.clo 112 0 [.loc 1 0,.loc 3 0]],[.clo 115 0 [.loc 4 0,.loc 1 0]],[.clo 116 0 [.loc 4 0,.loc 1 0]],[.clo 117 0 [.loc 4 0,.loc 1 0]],[.clo 118 0 [.loc 4 0,.loc 1 0]],[.clo 119 0 [.loc 4 0,.loc 1 0]],[.clo 120 0 [.loc 1 0,.loc 3 0]],[.clo 124 0 [.loc 1 0]],[.clo 128 0 [.loc 1 0]]]] [(1,(Af p1_0)),(3,[.mp 5]),(4,[.clo 99 0 [.loc 3 0]]),(5,[.mapO false false (.t9 []) (.t4 [])])] k=ob (Abf L p1_0) (Af5 p1_0 k):=(C3 _ _ _ jn4 _ _ _ _ _ _ _).trans (eE (Ahk L p1_0 (ho (B3o L (Bov L k p1_0) p1_0.Vars p1_0) fun o10=>Cge L k p1_0 o10)))
def S8 [An A Int](L:Nat)(o67:Cw):A:=
 (lf o67.1)
def Bg2(a0:Aa):Bq:=(B4 Tryz.prog (Ds L) (EI (Ds L) (L+24) 9) 1 (List.drop 14 c70.w.u.l.ops) ⟨[(19,.sl true 178 1 [[.clo 102 0 [.loc 3 0,.loc 1 0]],[.clo 103 0 [.loc 1 0,.loc 3 0]],[.clo 109 0 [.loc 1 0,.loc 3 0]],[.clo 112 0 [.loc 1 0,.loc 3 0]],[.clo 115 0 [.loc 4 0,.loc 1 0]],[.clo 116 0 [.loc 4 0,.loc 1 0]],[.clo 117 0 [.loc 4 0,.loc 1 0]],[.clo 118 0 [.loc 4 0,.loc 1 0]],[.clo 119 0 [.loc 4 0,.loc 1 0]],[.clo 120 0 [.loc 1 0,.loc 3 0]],[.clo 124 0 [.loc 1 0]],[.clo 128 0 [.loc 1 0]]]),(18,.clo 128 0 [.loc 1 0]),(17,.clo 124 0 [.loc 1 0]),(16,.clo 120 0 [.loc 1 0,.loc 3 0]),(15,.clo 119 0 [.loc 4 0,.loc 1 0]),(14,.clo 118 0 [.loc 4 0,.loc 1 0]),(13,.clo 117 0 [.loc 4 0,.loc 1 0]),(12,.clo 116 0 [.loc 4 0,.loc 1 0]),(11,.clo 115 0 [.loc 4 0,.loc 1 0]),(10,.clo 112 0 [.loc 1 0,.loc 3 0]),(9,.clo 109 0 [.loc 1 0,.loc 3 0]),(8,.clo 103 0 [.loc 1 0,.loc 3 0]),(7,.clo 102 0 [.loc 3 0,.loc 1 0]),(1,.loc 1 0),(2,I 0),(3,.loc 3 0),(4,.loc 4 0)],[(1,(Af a0)),(3,[.mp 5]),(4,[.clo 99 0 [.loc 3 0]]),(5,[.mapO false false (.t9 []) (.t4 [])])],0⟩ (some 20) (fun st9=>(Be (EV (Ds L) (L+24) 9 c70.w.u.r) (Cp Tryz.prog (RS Tryz.f70) kk)) .normal st9))
theorem B6r(a0:Aa)(o67:Cw):Af5 a0 (Bg2 L kk a0) o67=ob (S8 L o67) (kQ I kk):=eE (S8 L o67)
def Aym [An A Int](a0:Aa):A:=(bd (Abf L a0) fun o67=>S8 L o67)
def Ak1(a0:Aa):Option Int:=Aym L a0
def X70:F7:=E1 I 70 Cn (Ak1 L) fun a0 r h=>hF Tryz.func70 (C:=Ds L) (oS _) (L+24) (fun kk=>eE ((ho (Cbw L (Bg2 L kk a0) a0) fun o67=>B6r L kk a0 o67))) h
end
end Go.Proofs.YtofcpkmnhmnfcaaGreatR.Ev
