import Derived.Test.YthjhkpgonleelaaGreatDoorBG1
import Derived.Test.YthjhkpgonleelaaGreatDoorBG2
import Derived.Test.YthjhkpgonleelaaGreatDoorBG4
namespace Go.Proofs.YthjhkpgonleelaaGreatDoor.Ev
open Go An
set_option maxRecDepth 100000
set_option maxHeartbeats 4000000
set_option linter.unusedVariables false
set_option linter.unusedSimpArgs false
set_option linter.unnecessarySimpa false
noncomputable section
variable {A:Type} (L n:Nat) (kk:Ep) (K:Ci) (k:Bn)
def Bj3:=CC Tryz.f159
def Bjz:=CC Tryz.f121
def Avq(L:Nat):Bt:=oL []
def A1p(p1_0:List Aa)(p1_1:Aq)(p1_2:ByteArray)(v:L1):St:=⟨[(0,lv (.t66 p1_0)),(1,.clo 160 0 [.loc 3 0]),(4,I v.1),(7,I (p1_0.length:Int)),(8,I v.2)],[(2,(B2 p1_1)),(3,[S p1_2])],1004⟩
def Sp [An A Hl](L:Nat)(p1_0:List Aa)(p1_1:Aq)(p1_2:ByteArray)(rec:Int→Int→A)(Bg:Int)(Am:Int):A:=
 (lw Am p1_0
 (cn (((p1_0.getD (Int.toNat Am) default).Name).toList == p1_2.toList)
 (lf (0,Am,Am))
 (rec Bg (Bi (Am+1))))
 (lf (1,Bg,Am)))
def Iq(L:Nat)(p1_0:List Aa)(p1_1:Aq)(p1_2:ByteArray):Nat→Int→Int→Option Hl
 |0,_,_=>none
 |n+1,Bg,Am=>Sp L p1_0 p1_1 p1_2 (Iq L p1_0 p1_1 p1_2 n) Bg Am
theorem Ba9(p1_0:List Aa)(p1_1:Aq)(p1_2:ByteArray):LP (EV (Avq L) L 8 Bj3.u.l.u.l.l) [0,1,4,7,8] [2,3] (A1p p1_0 p1_1 p1_2) [.ret,.exit 0] (fun n v=>Iq L p1_0 p1_1 p1_2 n v.1 v.2) K:=lE (fun _=>rfl) fun n v ih=>eE (Sp L p1_0 p1_1 p1_2 (fun Bg Am=>re (ih (Bg,Am))) v.1 v.2)
def Apy(p1_0:List Aa)(p1_1:Aq)(p1_2:ByteArray)(k:Bn):Int→Prop:=fun o=>k (I o) [(2,(B2 p1_1)),(3,[S p1_2])]
def S3 [An A Int](L:Nat)(o1:Nat×L1):A:=
 (sl o1.1 [(lf o1.2.1),
 (lf (-1))])
def Azk:Ci:=(Bs 0 (Bz (EV (Avq L) L 8 Bj3.u.r) (Dg Tryz.prog (RS Tryz.f159) k)))
theorem Bgy(p1_0:List Aa)(p1_1:Aq)(p1_2:ByteArray)(o1:Nat×L1):kX [.ret,.exit 0] (A1p p1_0 p1_1 p1_2) (Azk L k) o1=ob (S3 L o1) (Apy p1_0 p1_1 p1_2 k):=eE (S3 L o1)
def Aci [An A Int](p1_0:List Aa)(p1_1:Aq)(p1_2:ByteArray):A:=(bd (Iq L p1_0 p1_1 p1_2 L 0 0) fun o1=>S3 L o1)
def Si(p1_0:List Aa)(p1_1:Aq)(p1_2:ByteArray):Option Int:=Aci L p1_0 p1_1 p1_2
theorem Bae(p1_0:List Aa)(p1_1:Aq)(p1_2:ByteArray):YO (Avq L) L 9 159 [lv (.t66 p1_0),.clo 160 0 [.loc 3 0]] [(2,(B2 p1_1)),(3,[S p1_2])] k=ob (Si L p1_0 p1_1 p1_2) (Apy p1_0 p1_1 p1_2 k):=(C6 _ _ _ y9 _ _ _ _ _ _ _).trans (eE ((ho (Ba9 L (Azk L k) p1_0 p1_1 p1_2 L (0,0)) fun o1=>Bgy L k p1_0 p1_1 p1_2 o1)))
def N9 [An A Int](L:Nat)(o2:Int):A:=
 (lf o2)
def Azl(a0:Aq)(a1:ByteArray):Bn:=(Bx Tryz.prog (Avq L) (EI (Avq L) L 9) 1 (List.drop 4 Bjz.u.l.ops) ⟨[(7,.clo 160 0 [.loc 3 0]),(6,lv (.t66 a0.Sites)),(5,.loc 2 2),(2,.loc 2 0),(3,.loc 3 0),(4,I 0)],[(2,(B2 a0)),(3,[S a1])],0⟩ (some 8) (fun st9=>(Bz (EV (Avq L) L 9 Bjz.u.r) (Kb Tryz.prog (RS Tryz.f121) kk)) .normal st9))
theorem Bgz(a0:Aq)(a1:ByteArray)(o2:Int):Apy a0.Sites a0 a1 (Azl L kk a0 a1) o2=ob (N9 L o2) (kQ I kk):=eE (N9 L o2)
def Agi [An A Int](a0:Aq)(a1:ByteArray):A:=(bd (Si L a0.Sites a0 a1) fun o2=>N9 L o2)
def Ty(a0:Aq)(a1:ByteArray):Option Int:=Agi L a0 a1
def Bm9:Qi:=E2 I 121 Abt cS (Ty L) fun a0 a1 r h=>hF Tryz.func121 (C:=Avq L) (oS _) L (fun kk=>eE ((ho (Bae L (Azl L kk a0 a1) a0.Sites a0 a1) fun o2=>Bgz L kk a0 a1 o2))) h
def A2y:=CC Tryz.f119
def c61:=CC Tryz.f61
def O61:Bt:=oL [X95 L,Bm9 L]
def A4s(p3_0:B5)(p3_1:Aq)(p3_2:List Br)(p3_3:List Bool)(p3_4:B5)(k:Bn):Akn→Prop:=fun o=>k (I o.1) [(1,(B2 p3_1)),(3,[.mp 4]),(4,[.mapO true false (.t186 o.2.1) (.t4 o.2.2)]),(1013,(Nq p3_4)),(2017,(Nq p3_0)),(2019,[S p3_0.From,S p3_0.To])]
def Vs [An A Akn](p3_0:B5)(p3_1:Aq)(p3_2:List Br)(p3_3:List Bool)(p3_4:B5):A:=
 (bd (Ty L p3_1 p3_0.From) fun r1=>
 (jb (.cn (decide (r1 < 0))
 (.lf true)
 (.bd (Ty L p3_1 p3_0.To) fun r3=>
 (.lf (decide (r3 < 0))))) (fun b2=>
 (cn b2
 (lf (5,p3_2,p3_3))
 (cn (p3_0.From.toList == p3_0.To.toList)
 (lf (1,p3_2,p3_3))
 (bd (Bf L p3_0.Delay 1 1000000000) fun r4=>
 (cn (!r4)
 (lf (2,p3_2,p3_3))
 (fq (p3_2.findIdx? fun b=>(p3_0.From == b.a0 && (p3_0.To == b.a1))) (fun i5=>
 (cn (p3_3.getD i5 default)
 (lf (4,p3_2,p3_3))
 (fq (p3_2.findIdx? fun b=>(p3_0.From == b.a0 && (p3_0.To == b.a1))) (fun i6=>
 (lf (0,p3_2,(p3_3.set i6 true))))
 (lf (0,(p3_2++ [(⟨p3_0.From,p3_0.To⟩:Br)]),(p3_3++ [true]))))))
 (fq (p3_2.findIdx? fun b=>(p3_0.From == b.a0 && (p3_0.To == b.a1))) (fun i7=>
 (lf (0,p3_2,(p3_3.set i7 true))))
 (lf (0,(p3_2++ [(⟨p3_0.From,p3_0.To⟩:Br)]),(p3_3++ [true]))))))))))))
def Mq(p3_0:B5)(p3_1:Aq)(p3_2:List Br)(p3_3:List Bool)(p3_4:B5):Option Akn:=Vs L p3_0 p3_1 p3_2 p3_3 p3_4
theorem Bfr(p3_0:B5)(p3_1:Aq)(p3_2:List Br)(p3_3:List Bool)(p3_4:B5):YO (O61 L) L 8 120 [.agg (Nq p3_0),.loc 1 0,.loc 3 0] [(1,(B2 p3_1)),(3,[.mp 4]),(4,[.mapO true false (.t186 p3_2) (.t4 p3_3)]),(1013,(Nq p3_4))] k=ob (Mq L p3_0 p3_1 p3_2 p3_3 p3_4) (A4s p3_0 p3_1 p3_2 p3_3 p3_4 k):=(C6 _ _ _ y9 _ _ _ _ _ _ _).trans (eE (Vs L p3_0 p3_1 p3_2 p3_3 p3_4))
def Axu(p1_0:List B5)(p1_1:Aq)(v:Avw):St:=⟨[(0,.any),(1,.any),(2,.clo 120 0 [.loc 1 0,.loc 3 0]),(6,I v.1),(14,lv (.t156 p1_0)),(15,I (p1_0.length:Int)),(16,I v.2.1)],[(1,(B2 p1_1)),(3,[.mp 4]),(4,[.mapO true false (.t186 v.2.2.1) (.t4 v.2.2.2)])],1005⟩
def M4 [An A (Nat×Avw)](L:Nat)(Am:Int)(Au:Int)(rec:Int→Int→List Br→List Bool→A)(o8:Akn):A:=
 (cn (o8.1 != 0)
 (lf (0,o8.1,Am,o8.2.1,o8.2.2))
 (rec Au (Bi (Am+1)) o8.2.1 o8.2.2))
def Rn [An A (Nat×Avw)](L:Nat)(p1_0:List B5)(p1_1:Aq)(rec:Int→Int→List Br→List Bool→A)(Au:Int)(Am:Int)(Bl:List Br)(C5:List Bool)(nx3:Int→(List Br)→(List Bool)→Int→A):A:=
 (lw Am p1_0
 (nx3 Am Bl C5 Au)
 (lf (1,Au,Am,Bl,C5)))
def Wd [An A (Nat×Avw)](p1_0:List B5)(p1_1:Aq)(rec:Int→Int→List Br→List Bool→A)(Au:Int)(Am:Int)(Bl:List Br)(C5:List Bool):A:=Rn L p1_0 p1_1 rec Au Am Bl C5 (fun Am Bl C5 Au=>bd (Mq L (p1_0.getD (Int.toNat Am) default) p1_1 Bl C5 (p1_0.getD (Int.toNat Am) default)) fun o8=>M4 L Am Au rec o8)
def Gi(L:Nat)(p1_0:List B5)(p1_1:Aq):Nat→Int→Int→List Br→List Bool→Option (Nat×Avw)
 |0,_,_,_,_=>none
 |n+1,Au,Am,Bl,C5=>Wd L p1_0 p1_1 (Gi L p1_0 p1_1 n) Au Am Bl C5
def A4q(p1_0:List B5)(p1_1:Aq):Prop:=LI (EV (O61 L) L 8 A2y.w.l.u.l.l) [0,1,2,6,14,15,16] [1,3,4] (Axu p1_0 p1_1) [.ret,.exit 0] (fun n v=>Gi L p1_0 p1_1 n v.1 v.2.1 v.2.2.1 v.2.2.2) K n
def A6s(p1_0:List B5)(Am:Int)(Au:Int)(p1_1:Aq)(Bl:List Br)(C5:List Bool):Bn:=(Bx Tryz.prog (O61 L) (EI (O61 L) L 8) 1 (List.drop 3 A2y.w.l.u.l.l.w.l.l.u.l.ops) ⟨[(21,.agg (Nq (p1_0.getD (Int.toNat Am) default))),(20,.clo 120 0 [.loc 1 0,.loc 3 0]),(2,.clo 120 0 [.loc 1 0,.loc 3 0]),(6,I Au),(8,.loc 1013 0),(14,lv (.t156 p1_0)),(15,I (p1_0.length:Int)),(16,I Am),(17,B (decide (Am < (p1_0.length:Int)))),(18,.ref (Nq (p1_0.getD (Int.toNat Am) default))),(19,.agg (Nq (p1_0.getD (Int.toNat Am) default)))],[(1,(B2 p1_1)),(3,[.mp 4]),(4,[.mapO true false (.t186 Bl) (.t4 C5)]),(1013,(Nq (p1_0.getD (Int.toNat Am) default)))],1005⟩ (some 22) (fun st9=>(Bz (EV (O61 L) L 8 A2y.w.l.u.l.l.w.l.l.u.r) (Bs 1 (Bz (EV (O61 L) L 8 A2y.w.l.u.l.l.w.r) (H6 (Kj (EV (O61 L) L 8 A2y.w.l.u.l.l) [0,1,2,6,14,15,16] [1,3,4] n) [0,1,2,6,14,15,16] [1,3,4] K)))) .normal st9))
theorem Blq(p1_0:List B5)(Am:Int)(p1_1:Aq)(Bl:List Br)(C5:List Bool)(Au:Int)(ih:A4q L n K p1_0 p1_1)(o8:Akn):A4s (p1_0.getD (Int.toNat Am) default) p1_1 Bl C5 (p1_0.getD (Int.toNat Am) default) (A6s L n K p1_0 Am Au p1_1 Bl C5) o8=ob (M4 L Am Au (Gi L p1_0 p1_1 n) o8) (kX [.ret,.exit 0] (Axu p1_0 p1_1) K):=eE (M4 L Am Au (fun Au Am Bl C5=>re (ih (Au,Am,Bl,C5))) o8)
theorem Bgn(p1_0:List B5)(p1_1:Aq):∀n,A4q L n K p1_0 p1_1:=lE (fun _=>rfl) fun n v ih=>eE (Rn L p1_0 p1_1 (fun Au Am Bl C5=>re (ih (Au,Am,Bl,C5))) v.1 v.2.1 v.2.2.1 v.2.2.2 (fun Am Bl C5 Au=>ho (Bfr L (A6s L n K p1_0 Am Au p1_1 Bl C5) (p1_0.getD (Int.toNat Am) default) p1_1 Bl C5 (p1_0.getD (Int.toNat Am) default)) fun o8=>Blq L n K p1_0 Am p1_1 Bl C5 Au ih o8))
def Avp(p1_0:List B5)(p1_1:Aq)(k:Bn):Akn→Prop:=fun o=>k (I o.1) [(1,(B2 p1_1)),(3,[.mp 4]),(4,[.mapO true false (.t186 o.2.1) (.t4 o.2.2)])]
def Rc [An A Akn](L:Nat)(o9:Nat×Avw):A:=
 (sl o9.1 [(lf (o9.2.1,o9.2.2.2.1,o9.2.2.2.2)),
 (lf (0,o9.2.2.2.1,o9.2.2.2.2))])
def A6t:Ci:=(Bs 0 (Bz (EV (O61 L) L 8 A2y.w.r) (Dg Tryz.prog (RS Tryz.f119) k)))
theorem Blr(p1_0:List B5)(p1_1:Aq)(o9:Nat×Avw):kX [.ret,.exit 0] (Axu p1_0 p1_1) (A6t L k) o9=ob (Rc L o9) (Avp p1_0 p1_1 k):=eE (Rc L o9)
def Wz [An A Akn](L:Nat)(p1_0:List B5)(p1_1:Aq)(nx4:A):A:=
 (cn (decide ((p1_0.length:Int) > 32))
 (lf (6,[],[]))
 nx4)
def Aaj [An A Akn](p1_0:List B5)(p1_1:Aq):A:=Wz L p1_0 p1_1 (bd (Gi L p1_0 p1_1 L 0 0 [] []) fun o9=>Rc L o9)
def Vz(p1_0:List B5)(p1_1:Aq):Option Akn:=Aaj L p1_0 p1_1
theorem Bfq(p1_0:List B5)(p1_1:Aq):YO (O61 L) L 9 119 [lv (.t156 p1_0),I 32,.clo 120 0 [.loc 1 0,.loc 3 0]] [(1,(B2 p1_1)),(3,[.mp 4]),(4,[.mapO true false (.t186 []) (.t4 [])])] k=ob (Vz L p1_0 p1_1) (Avp p1_0 p1_1 k):=(C6 _ _ _ y9 _ _ _ _ _ _ _).trans (eE (Wz L p1_0 p1_1 (ho (Bgn L (A6t L k) p1_0 p1_1 L (0,0,[],[])) fun o9=>Blr L k p1_0 p1_1 o9)))
def M5 [An A Int](L:Nat)(o10:Akn):A:=
 (lf o10.1)
def A6u(a0:Aq):Bn:=(Bx Tryz.prog (O61 L) (EI (O61 L) L 9) 1 (List.drop 4 c61.w.l.ops) ⟨[(7,.clo 120 0 [.loc 1 0,.loc 3 0]),(6,lv (.t156 a0.Links)),(5,.loc 1 3),(1,.loc 1 0),(2,I 0),(3,.loc 3 0)],[(1,(B2 a0)),(3,[.mp 4]),(4,[.mapO true false (.t186 []) (.t4 [])])],0⟩ (some 8) (fun st9=>(Bz (EV (O61 L) L 9 c61.w.r) (Kb Tryz.prog (RS Tryz.f61) kk)) .normal st9))
theorem Bls(a0:Aq)(o10:Akn):Avp a0.Links a0 (A6u L kk a0) o10=ob (M5 L o10) (kQ I kk):=eE (M5 L o10)
def Aeo [An A Int](a0:Aq):A:=(bd (Vz L a0.Links a0) fun o10=>M5 L o10)
def W7(a0:Aq):Option Int:=Aeo L a0
def X61:Qi:=E1 I 61 Abt (W7 L) fun a0 r h=>hF Tryz.func61 (C:=O61 L) (oS _) L (fun kk=>eE ((ho (Bfq L (A6u L kk a0) a0.Links a0) fun o10=>Bls L kk a0 o10))) h
def c57:=CC Tryz.f57
def c58:=CC Tryz.f58
def c36:=CC Tryz.f36
def O36:Bt:=oL [X35 L,X60 L,X61 L,Bev L,Bew L]
def A4r(p7_0:ByteArray)(p7_1:Aq)(p7_2:List ByteArray)(p7_3:List Bool)(p7_4:Ax)(p7_5:Ax)(k:Bn):Co→Prop:=fun o=>k (I o.1) [(1,(B2 p7_1)),(13,[.mapO false false (.t9 o.2.1) (.t4 o.2.2)]),(1022,(B9 p7_4)),(2026,(B9 p7_5))]
def Aah [An A Co](p7_0:ByteArray)(p7_1:Aq)(p7_2:List ByteArray)(p7_3:List Bool)(p7_4:Ax)(p7_5:Ax):A:=
 (bd (Cr L p7_0) fun r2=>
 (cn (r2 != 0)
 (lf (r2,p7_2,p7_3))
 (fq (p7_2.findIdx? fun b=>p7_0 == b) (fun i3=>
 (cn (p7_3.getD i3 default)
 (lf (4,p7_2,p7_3))
 (fq (p7_2.findIdx? fun b=>p7_0 == b) (fun i4=>
 (lf (0,p7_2,(p7_3.set i4 true))))
 (lf (0,(p7_2++ [p7_0]),(p7_3++ [true]))))))
 (fq (p7_2.findIdx? fun b=>p7_0 == b) (fun i5=>
 (lf (0,p7_2,(p7_3.set i5 true))))
 (lf (0,(p7_2++ [p7_0]),(p7_3++ [true])))))))
def Vv(p7_0:ByteArray)(p7_1:Aq)(p7_2:List ByteArray)(p7_3:List Bool)(p7_4:Ax)(p7_5:Ax):Option Co:=Aah L p7_0 p7_1 p7_2 p7_3 p7_4 p7_5
theorem Bfm(p7_0:ByteArray)(p7_1:Aq)(p7_2:List ByteArray)(p7_3:List Bool)(p7_4:Ax)(p7_5:Ax):YO (O36 L) L 6 59 [.mp 13,S p7_0] [(1,(B2 p7_1)),(13,[.mapO false false (.t9 p7_2) (.t4 p7_3)]),(1022,(B9 p7_4)),(2026,(B9 p7_5))] k=ob (Vv L p7_0 p7_1 p7_2 p7_3 p7_4 p7_5) (A4r p7_0 p7_1 p7_2 p7_3 p7_4 p7_5 k):=(C6 _ _ _ y9 _ _ _ _ _ _ _).trans (eE (Aah L p7_0 p7_1 p7_2 p7_3 p7_4 p7_5))
def Avm(p5_0:Ax)(p5_1:Aq)(p5_2:List ByteArray)(p5_3:List Bool)(p5_4:Ax)(k:Bn):Co→Prop:=fun o=>k (I o.1) [(1,(B2 p5_1)),(13,[.mapO false false (.t9 o.2.1) (.t4 o.2.2)]),(1022,(B9 p5_4)),(2026,(B9 p5_0))]
def Q0 [An A Co](p5_0:Ax)(o6:Co):A:=
 (cn (o6.1 != 0)
 (lf (o6.1,o6.2.1,o6.2.2))
 (bd (H0 L p5_0.Type_) fun r7=>
 (cn (!r7)
 (lf (1,o6.2.1,o6.2.2))
 (bd (Nm L p5_0.Type_ p5_0.N) fun r8=>
 (cn (!r8)
 (lf (2,o6.2.1,o6.2.2))
 (lf (0,o6.2.1,o6.2.2)))))))
def A6k(p5_0:Ax)(p5_1:Aq)(p5_2:List ByteArray)(p5_3:List Bool)(p5_4:Ax):Bn:=(Bx Tryz.prog (O36 L) (EI (O36 L) L 6) 1 (List.drop 4 c87.u.l.l.ops) ⟨[(8,S p5_0.Name),(7,.loc 2026 0),(6,.mp 13),(0,.mp 13),(3,.loc 2026 0),(4,I 0)],[(1,(B2 p5_1)),(13,[.mapO false false (.t9 p5_2) (.t4 p5_3)]),(1022,(B9 p5_4)),(2026,(B9 p5_0))],2023⟩ (some 9) (fun st9=>(Bz (EV (O36 L) L 6 c87.u.l.r) (Bz (EV (O36 L) L 6 c87.u.r) (Dg Tryz.prog (RS Tryz.f87) k))) .normal st9))
theorem Bli(p5_0:Ax)(p5_1:Aq)(p5_2:List ByteArray)(p5_3:List Bool)(p5_4:Ax)(o6:Co):A4r p5_0.Name p5_1 p5_2 p5_3 p5_4 p5_0 (A6k L k p5_0 p5_1 p5_2 p5_3 p5_4) o6=ob (Q0 L p5_0 o6) (Avm p5_0 p5_1 p5_2 p5_3 p5_4 k):=eE (Q0 L p5_0 o6)
def Aag [An A Co](p5_0:Ax)(p5_1:Aq)(p5_2:List ByteArray)(p5_3:List Bool)(p5_4:Ax):A:=(bd (Vv L p5_0.Name p5_1 p5_2 p5_3 p5_4 p5_0) fun o6=>Q0 L p5_0 o6)
def J4(p5_0:Ax)(p5_1:Aq)(p5_2:List ByteArray)(p5_3:List Bool)(p5_4:Ax):Option Co:=Aag L p5_0 p5_1 p5_2 p5_3 p5_4
theorem Bfl(p5_0:Ax)(p5_1:Aq)(p5_2:List ByteArray)(p5_3:List Bool)(p5_4:Ax):YO (O36 L) L 7 87 [.mp 13,.agg (B9 p5_0)] [(1,(B2 p5_1)),(13,[.mapO false false (.t9 p5_2) (.t4 p5_3)]),(1022,(B9 p5_4))] k=ob (J4 L p5_0 p5_1 p5_2 p5_3 p5_4) (Avm p5_0 p5_1 p5_2 p5_3 p5_4 k):=(C6 _ _ _ y9 _ _ _ _ _ _ _).trans (eE ((ho (Bfm L (A6k L k p5_0 p5_1 p5_2 p5_3 p5_4) p5_0.Name p5_1 p5_2 p5_3 p5_4 p5_0) fun o6=>Bli L k p5_0 p5_1 p5_2 p5_3 p5_4 o6)))
def Axm(p1_0:List Ax)(p1_1:Aq)(v:Y6):St:=⟨[(0,.any),(1,.any),(2,.clo 87 1 [.mp 13]),(6,I v.1),(14,lv (.t123 p1_0)),(15,I (p1_0.length:Int)),(16,I v.2.1)],[(1,(B2 p1_1)),(13,[.mapO false false (.t9 v.2.2.1) (.t4 v.2.2.2)])],1014⟩
def My [An A L5](L:Nat)(Am:Int)(Au:Int)(rec:Int→Int→List ByteArray→List Bool→A)(o9:Co):A:=
 (cn (o9.1 != 0)
 (lf (0,o9.1,Am,o9.2.1,o9.2.2))
 (rec Au (Bi (Am+1)) o9.2.1 o9.2.2))
def Rk [An A L5](L:Nat)(p1_0:List Ax)(p1_1:Aq)(rec:Int→Int→List ByteArray→List Bool→A)(Au:Int)(Am:Int)(Bl:List ByteArray)(C5:List Bool)(nx7:Int→(List ByteArray)→(List Bool)→Int→A):A:=
 (lw Am p1_0
 (nx7 Am Bl C5 Au)
 (lf (1,Au,Am,Bl,C5)))
def Wb [An A L5](p1_0:List Ax)(p1_1:Aq)(rec:Int→Int→List ByteArray→List Bool→A)(Au:Int)(Am:Int)(Bl:List ByteArray)(C5:List Bool):A:=Rk L p1_0 p1_1 rec Au Am Bl C5 (fun Am Bl C5 Au=>bd (J4 L (p1_0.getD (Int.toNat Am) default) p1_1 Bl C5 (p1_0.getD (Int.toNat Am) default)) fun o9=>My L Am Au rec o9)
def Gg(L:Nat)(p1_0:List Ax)(p1_1:Aq):Nat→Int→Int→List ByteArray→List Bool→Option L5
 |0,_,_,_,_=>none
 |n+1,Au,Am,Bl,C5=>Wb L p1_0 p1_1 (Gg L p1_0 p1_1 n) Au Am Bl C5
def A4i(p1_0:List Ax)(p1_1:Aq):Prop:=LI (EV (O36 L) L 7 c86.w.l.u.l.l) [0,1,2,6,14,15,16] [1,13] (Axm p1_0 p1_1) [.ret,.exit 0] (fun n v=>Gg L p1_0 p1_1 n v.1 v.2.1 v.2.2.1 v.2.2.2) K n
def A6l(p1_0:List Ax)(Am:Int)(Au:Int)(p1_1:Aq)(Bl:List ByteArray)(C5:List Bool):Bn:=(Bx Tryz.prog (O36 L) (EI (O36 L) L 7) 1 (List.drop 3 c86.w.l.u.l.l.w.l.l.u.l.ops) ⟨[(21,.agg (B9 (p1_0.getD (Int.toNat Am) default))),(20,.clo 87 1 [.mp 13]),(2,.clo 87 1 [.mp 13]),(6,I Au),(8,.loc 1022 0),(14,lv (.t123 p1_0)),(15,I (p1_0.length:Int)),(16,I Am),(17,B (decide (Am < (p1_0.length:Int)))),(18,.ref (B9 (p1_0.getD (Int.toNat Am) default))),(19,.agg (B9 (p1_0.getD (Int.toNat Am) default)))],[(1,(B2 p1_1)),(13,[.mapO false false (.t9 Bl) (.t4 C5)]),(1022,(B9 (p1_0.getD (Int.toNat Am) default)))],1014⟩ (some 22) (fun st9=>(Bz (EV (O36 L) L 7 c86.w.l.u.l.l.w.l.l.u.r) (Bs 1 (Bz (EV (O36 L) L 7 c86.w.l.u.l.l.w.r) (H6 (Kj (EV (O36 L) L 7 c86.w.l.u.l.l) [0,1,2,6,14,15,16] [1,13] n) [0,1,2,6,14,15,16] [1,13] K)))) .normal st9))
theorem Blj(p1_0:List Ax)(Am:Int)(p1_1:Aq)(Bl:List ByteArray)(C5:List Bool)(Au:Int)(ih:A4i L n K p1_0 p1_1)(o9:Co):Avm (p1_0.getD (Int.toNat Am) default) p1_1 Bl C5 (p1_0.getD (Int.toNat Am) default) (A6l L n K p1_0 Am Au p1_1 Bl C5) o9=ob (My L Am Au (Gg L p1_0 p1_1 n) o9) (kX [.ret,.exit 0] (Axm p1_0 p1_1) K):=eE (My L Am Au (fun Au Am Bl C5=>re (ih (Au,Am,Bl,C5))) o9)
theorem Bgb(p1_0:List Ax)(p1_1:Aq):∀n,A4i L n K p1_0 p1_1:=lE (fun _=>rfl) fun n v ih=>eE (Rk L p1_0 p1_1 (fun Au Am Bl C5=>re (ih (Au,Am,Bl,C5))) v.1 v.2.1 v.2.2.1 v.2.2.2 (fun Am Bl C5 Au=>ho (Bfl L (A6l L n K p1_0 Am Au p1_1 Bl C5) (p1_0.getD (Int.toNat Am) default) p1_1 Bl C5 (p1_0.getD (Int.toNat Am) default)) fun o9=>Blj L n K p1_0 Am p1_1 Bl C5 Au ih o9))
def Avl(p1_0:List Ax)(p1_1:Aq)(k:Bn):Co→Prop:=fun o=>k (I o.1) [(1,(B2 p1_1)),(13,[.mapO false false (.t9 o.2.1) (.t4 o.2.2)])]
def Wf [An A Co](L:Nat)(o10:Nat×Y6):A:=
 (sl o10.1 [(lf (o10.2.1,o10.2.2.2.1,o10.2.2.2.2)),
 (lf (0,o10.2.2.2.1,o10.2.2.2.2))])
def A6m:Ci:=(Bs 0 (Bz (EV (O36 L) L 7 c86.w.r) (Dg Tryz.prog (RS Tryz.f86) k)))
theorem Blk(p1_0:List Ax)(p1_1:Aq)(o10:Nat×Y6):kX [.ret,.exit 0] (Axm p1_0 p1_1) (A6m L k) o10=ob (Wf L o10) (Avl p1_0 p1_1 k):=eE (Wf L o10)
def Aa0 [An A Co](L:Nat)(p1_0:List Ax)(p1_1:Aq)(nx8:A):A:=
 (cn (decide ((p1_0.length:Int) > 32))
 (lf (6,[],[]))
 nx8)
def Aif [An A Co](p1_0:List Ax)(p1_1:Aq):A:=Aa0 L p1_0 p1_1 (bd (Gg L p1_0 p1_1 L 0 0 [] []) fun o10=>Wf L o10)
def Vu(p1_0:List Ax)(p1_1:Aq):Option Co:=Aif L p1_0 p1_1
theorem Bfk(p1_0:List Ax)(p1_1:Aq):YO (O36 L) L 8 86 [lv (.t123 p1_0),I 32,.clo 87 1 [.mp 13]] [(1,(B2 p1_1)),(13,[.mapO false false (.t9 []) (.t4 [])])] k=ob (Vu L p1_0 p1_1) (Avl p1_0 p1_1 k):=(C6 _ _ _ y9 _ _ _ _ _ _ _).trans (eE (Aa0 L p1_0 p1_1 (ho (Bgb L (A6m L k) p1_0 p1_1 L (0,0,[],[])) fun o10=>Blk L k p1_0 p1_1 o10)))
def Ayg(p14_0:ByteArray)(p14_1:Aq)(p14_2:List ByteArray)(p14_3:List Bool)(p14_4:List ByteArray)(p14_5:List Bool)(p14_6:Aa)(p14_7:Aa)(k:Bn):Co→Prop:=fun o=>k (I o.1) [(1,(B2 p14_1)),(5,[.mp 24]),(13,[.mapO false false (.t9 p14_2) (.t4 p14_3)]),(24,[.mapO false false (.t9 o.2.1) (.t4 o.2.2)]),(1033,(Ae p14_6)),(2036,(Ae p14_7))]
def l8 [An A Co](p14_0:ByteArray)(p14_1:Aq)(p14_2:List ByteArray)(p14_3:List Bool)(p14_4:List ByteArray)(p14_5:List Bool)(p14_6:Aa)(p14_7:Aa):A:=
 (bd (Cr L p14_0) fun r12=>
 (cn (r12 != 0)
 (lf (r12,p14_4,p14_5))
 (fq (p14_4.findIdx? fun b=>p14_0 == b) (fun i13=>
 (cn (p14_5.getD i13 default)
 (lf (4,p14_4,p14_5))
 (fq (p14_4.findIdx? fun b=>p14_0 == b) (fun i14=>
 (lf (0,p14_4,(p14_5.set i14 true))))
 (lf (0,(p14_4++ [p14_0]),(p14_5++ [true]))))))
 (fq (p14_4.findIdx? fun b=>p14_0 == b) (fun i15=>
 (lf (0,p14_4,(p14_5.set i15 true))))
 (lf (0,(p14_4++ [p14_0]),(p14_5++ [true])))))))
def Ui(p14_0:ByteArray)(p14_1:Aq)(p14_2:List ByteArray)(p14_3:List Bool)(p14_4:List ByteArray)(p14_5:List Bool)(p14_6:Aa)(p14_7:Aa):Option Co:=l8 L p14_0 p14_1 p14_2 p14_3 p14_4 p14_5 p14_6 p14_7
theorem Baj(p14_0:ByteArray)(p14_1:Aq)(p14_2:List ByteArray)(p14_3:List Bool)(p14_4:List ByteArray)(p14_5:List Bool)(p14_6:Aa)(p14_7:Aa):YO (O36 L) L 7 59 [.mp 24,S p14_0] [(1,(B2 p14_1)),(5,[.mp 24]),(13,[.mapO false false (.t9 p14_2) (.t4 p14_3)]),(24,[.mapO false false (.t9 p14_4) (.t4 p14_5)]),(1033,(Ae p14_6)),(2036,(Ae p14_7))] k=ob (Ui L p14_0 p14_1 p14_2 p14_3 p14_4 p14_5 p14_6 p14_7) (Ayg p14_0 p14_1 p14_2 p14_3 p14_4 p14_5 p14_6 p14_7 k):=(C6 _ _ _ y9 _ _ _ _ _ _ _).trans (eE (l8 L p14_0 p14_1 p14_2 p14_3 p14_4 p14_5 p14_6 p14_7))
def Ap2(p12_0:Aa)(p12_1:Aq)(p12_2:List ByteArray)(p12_3:List Bool)(p12_4:List ByteArray)(p12_5:List Bool)(p12_6:Aa)(k:Bn):Co→Prop:=fun o=>k (I o.1) [(1,(B2 p12_1)),(5,[.mp 24]),(13,[.mapO false false (.t9 p12_2) (.t4 p12_3)]),(24,[.mapO false false (.t9 o.2.1) (.t4 o.2.2)]),(1033,(Ae p12_6)),(2036,(Ae p12_0))]
def O8 [An A Co](p12_0:Aa)(o16:Co):A:=
 (cn (o16.1 != 0)
 (lf (o16.1,o16.2.1,o16.2.2))
 (bd (Y1 L p12_0) fun r17=>
 (lf (r17,o16.2.1,o16.2.2))))
def A0k(p12_0:Aa)(p12_1:Aq)(p12_2:List ByteArray)(p12_3:List Bool)(p12_4:List ByteArray)(p12_5:List Bool)(p12_6:Aa):Bn:=(Bx Tryz.prog (O36 L) (EI (O36 L) L 7) 1 (List.drop 4 c58.u.l.l.ops) ⟨[(7,S p12_0.Name),(6,.loc 2036 0),(5,.mp 24),(1,.loc 5 0),(2,.loc 2036 0),(3,I 0)],[(1,(B2 p12_1)),(5,[.mp 24]),(13,[.mapO false false (.t9 p12_2) (.t4 p12_3)]),(24,[.mapO false false (.t9 p12_4) (.t4 p12_5)]),(1033,(Ae p12_6)),(2036,(Ae p12_0))],2034⟩ (some 8) (fun st9=>(Bz (EV (O36 L) L 7 c58.u.l.r) (Bz (EV (O36 L) L 7 c58.u.r) (Dg Tryz.prog (RS Tryz.f58) k))) .normal st9))
theorem Bhy(p12_0:Aa)(p12_1:Aq)(p12_2:List ByteArray)(p12_3:List Bool)(p12_4:List ByteArray)(p12_5:List Bool)(p12_6:Aa)(o16:Co):Ayg p12_0.Name p12_1 p12_2 p12_3 p12_4 p12_5 p12_6 p12_0 (A0k L k p12_0 p12_1 p12_2 p12_3 p12_4 p12_5 p12_6) o16=ob (O8 L p12_0 o16) (Ap2 p12_0 p12_1 p12_2 p12_3 p12_4 p12_5 p12_6 k):=eE (O8 L p12_0 o16)
def l7 [An A Co](p12_0:Aa)(p12_1:Aq)(p12_2:List ByteArray)(p12_3:List Bool)(p12_4:List ByteArray)(p12_5:List Bool)(p12_6:Aa):A:=(bd (Ui L p12_0.Name p12_1 p12_2 p12_3 p12_4 p12_5 p12_6 p12_0) fun o16=>O8 L p12_0 o16)
def Ij(p12_0:Aa)(p12_1:Aq)(p12_2:List ByteArray)(p12_3:List Bool)(p12_4:List ByteArray)(p12_5:List Bool)(p12_6:Aa):Option Co:=l7 L p12_0 p12_1 p12_2 p12_3 p12_4 p12_5 p12_6
theorem Bai(p12_0:Aa)(p12_1:Aq)(p12_2:List ByteArray)(p12_3:List Bool)(p12_4:List ByteArray)(p12_5:List Bool)(p12_6:Aa):YO (O36 L) L 8 58 [.agg (Ae p12_0),.loc 5 0] [(1,(B2 p12_1)),(5,[.mp 24]),(13,[.mapO false false (.t9 p12_2) (.t4 p12_3)]),(24,[.mapO false false (.t9 p12_4) (.t4 p12_5)]),(1033,(Ae p12_6))] k=ob (Ij L p12_0 p12_1 p12_2 p12_3 p12_4 p12_5 p12_6) (Ap2 p12_0 p12_1 p12_2 p12_3 p12_4 p12_5 p12_6 k):=(C6 _ _ _ y9 _ _ _ _ _ _ _).trans (eE ((ho (Baj L (A0k L k p12_0 p12_1 p12_2 p12_3 p12_4 p12_5 p12_6) p12_0.Name p12_1 p12_2 p12_3 p12_4 p12_5 p12_6 p12_0) fun o16=>Bhy L k p12_0 p12_1 p12_2 p12_3 p12_4 p12_5 p12_6 o16)))
def Axn(p8_0:List Aa)(p8_1:Aq)(p8_2:List ByteArray)(p8_3:List Bool)(v:Y6):St:=⟨[(0,.any),(1,.any),(2,.clo 58 0 [.loc 5 0]),(6,I v.1),(14,lv (.t66 p8_0)),(15,I (p8_0.length:Int)),(16,I v.2.1)],[(1,(B2 p8_1)),(5,[.mp 24]),(13,[.mapO false false (.t9 p8_2) (.t4 p8_3)]),(24,[.mapO false false (.t9 v.2.2.1) (.t4 v.2.2.2)])],1025⟩
def Lt [An A L5](L:Nat)(Bw:Int)(Cn:Int)(rec:Int→Int→List ByteArray→List Bool→A)(o18:Co):A:=
 (cn (o18.1 != 0)
 (lf (0,o18.1,Bw,o18.2.1,o18.2.2))
 (rec Cn (Bi (Bw+1)) o18.2.1 o18.2.2))
def Pq [An A L5](L:Nat)(p8_0:List Aa)(p8_1:Aq)(p8_2:List ByteArray)(p8_3:List Bool)(rec:Int→Int→List ByteArray→List Bool→A)(Cn:Int)(Bw:Int)(Jg:List ByteArray)(Jh:List Bool)(nx16:Int→(List ByteArray)→(List Bool)→Int→A):A:=
 (lw Bw p8_0
 (nx16 Bw Jg Jh Cn)
 (lf (1,Cn,Bw,Jg,Jh)))
def Wc [An A L5](p8_0:List Aa)(p8_1:Aq)(p8_2:List ByteArray)(p8_3:List Bool)(rec:Int→Int→List ByteArray→List Bool→A)(Cn:Int)(Bw:Int)(Jg:List ByteArray)(Jh:List Bool):A:=Pq L p8_0 p8_1 p8_2 p8_3 rec Cn Bw Jg Jh (fun Bw Jg Jh Cn=>bd (Ij L (p8_0.getD (Int.toNat Bw) default) p8_1 p8_2 p8_3 Jg Jh (p8_0.getD (Int.toNat Bw) default)) fun o18=>Lt L Bw Cn rec o18)
def Gh(L:Nat)(p8_0:List Aa)(p8_1:Aq)(p8_2:List ByteArray)(p8_3:List Bool):Nat→Int→Int→List ByteArray→List Bool→Option L5
 |0,_,_,_,_=>none
 |n+1,Cn,Bw,Jg,Jh=>Wc L p8_0 p8_1 p8_2 p8_3 (Gh L p8_0 p8_1 p8_2 p8_3 n) Cn Bw Jg Jh
def A4j(p8_0:List Aa)(p8_1:Aq)(p8_2:List ByteArray)(p8_3:List Bool):Prop:=LI (EV (O36 L) L 8 c57.w.l.u.l.l) [0,1,2,6,14,15,16] [1,5,13,24] (Axn p8_0 p8_1 p8_2 p8_3) [.ret,.exit 0] (fun n v=>Gh L p8_0 p8_1 p8_2 p8_3 n v.1 v.2.1 v.2.2.1 v.2.2.2) K n
def A0l(p8_0:List Aa)(Bw:Int)(Cn:Int)(p8_1:Aq)(p8_2:List ByteArray)(p8_3:List Bool)(Jg:List ByteArray)(Jh:List Bool):Bn:=(Bx Tryz.prog (O36 L) (EI (O36 L) L 8) 1 (List.drop 3 c57.w.l.u.l.l.w.l.l.u.l.ops) ⟨[(21,.agg (Ae (p8_0.getD (Int.toNat Bw) default))),(20,.clo 58 0 [.loc 5 0]),(2,.clo 58 0 [.loc 5 0]),(6,I Cn),(8,.loc 1033 0),(14,lv (.t66 p8_0)),(15,I (p8_0.length:Int)),(16,I Bw),(17,B (decide (Bw < (p8_0.length:Int)))),(18,.ref (Ae (p8_0.getD (Int.toNat Bw) default))),(19,.agg (Ae (p8_0.getD (Int.toNat Bw) default)))],[(1,(B2 p8_1)),(5,[.mp 24]),(13,[.mapO false false (.t9 p8_2) (.t4 p8_3)]),(24,[.mapO false false (.t9 Jg) (.t4 Jh)]),(1033,(Ae (p8_0.getD (Int.toNat Bw) default)))],1025⟩ (some 22) (fun st9=>(Bz (EV (O36 L) L 8 c57.w.l.u.l.l.w.l.l.u.r) (Bs 1 (Bz (EV (O36 L) L 8 c57.w.l.u.l.l.w.r) (H6 (Kj (EV (O36 L) L 8 c57.w.l.u.l.l) [0,1,2,6,14,15,16] [1,5,13,24] n) [0,1,2,6,14,15,16] [1,5,13,24] K)))) .normal st9))
theorem Bhz(p8_0:List Aa)(Bw:Int)(p8_1:Aq)(p8_2:List ByteArray)(p8_3:List Bool)(Jg:List ByteArray)(Jh:List Bool)(Cn:Int)(ih:A4j L n K p8_0 p8_1 p8_2 p8_3)(o18:Co):Ap2 (p8_0.getD (Int.toNat Bw) default) p8_1 p8_2 p8_3 Jg Jh (p8_0.getD (Int.toNat Bw) default) (A0l L n K p8_0 Bw Cn p8_1 p8_2 p8_3 Jg Jh) o18=ob (Lt L Bw Cn (Gh L p8_0 p8_1 p8_2 p8_3 n) o18) (kX [.ret,.exit 0] (Axn p8_0 p8_1 p8_2 p8_3) K):=eE (Lt L Bw Cn (fun Cn Bw Jg Jh=>re (ih (Cn,Bw,Jg,Jh))) o18)
theorem Bgc(p8_0:List Aa)(p8_1:Aq)(p8_2:List ByteArray)(p8_3:List Bool):∀n,A4j L n K p8_0 p8_1 p8_2 p8_3:=lE (fun _=>rfl) fun n v ih=>eE (Pq L p8_0 p8_1 p8_2 p8_3 (fun Cn Bw Jg Jh=>re (ih (Cn,Bw,Jg,Jh))) v.1 v.2.1 v.2.2.1 v.2.2.2 (fun Bw Jg Jh Cn=>ho (Bai L (A0l L n K p8_0 Bw Cn p8_1 p8_2 p8_3 Jg Jh) (p8_0.getD (Int.toNat Bw) default) p8_1 p8_2 p8_3 Jg Jh (p8_0.getD (Int.toNat Bw) default)) fun o18=>Bhz L n K p8_0 Bw p8_1 p8_2 p8_3 Jg Jh Cn ih o18))
def Avn(p8_0:List Aa)(p8_1:Aq)(p8_2:List ByteArray)(p8_3:List Bool)(k:Bn):Co→Prop:=fun o=>k (I o.1) [(1,(B2 p8_1)),(5,[.mp 24]),(13,[.mapO false false (.t9 p8_2) (.t4 p8_3)]),(24,[.mapO false false (.t9 o.2.1) (.t4 o.2.2)])]
def Uv [An A Co](L:Nat)(o19:Nat×Y6):A:=
 (sl o19.1 [(lf (o19.2.1,o19.2.2.2.1,o19.2.2.2.2)),
 (lf (0,o19.2.2.2.1,o19.2.2.2.2))])
def A0m:Ci:=(Bs 0 (Bz (EV (O36 L) L 8 c57.w.r) (Dg Tryz.prog (RS Tryz.f57) k)))
theorem Bh0(p8_0:List Aa)(p8_1:Aq)(p8_2:List ByteArray)(p8_3:List Bool)(o19:Nat×Y6):kX [.ret,.exit 0] (Axn p8_0 p8_1 p8_2 p8_3) (A0m L k) o19=ob (Uv L o19) (Avn p8_0 p8_1 p8_2 p8_3 k):=eE (Uv L o19)
def q7 [An A Co](L:Nat)(p8_0:List Aa)(p8_1:Aq)(p8_2:List ByteArray)(p8_3:List Bool)(nx17:A):A:=
 (cn (decide ((p8_0.length:Int) > 16))
 (lf (6,[],[]))
 nx17)
def Aig [An A Co](p8_0:List Aa)(p8_1:Aq)(p8_2:List ByteArray)(p8_3:List Bool):A:=q7 L p8_0 p8_1 p8_2 p8_3 (bd (Gh L p8_0 p8_1 p8_2 p8_3 L 0 0 [] []) fun o19=>Uv L o19)
def Vw(p8_0:List Aa)(p8_1:Aq)(p8_2:List ByteArray)(p8_3:List Bool):Option Co:=Aig L p8_0 p8_1 p8_2 p8_3
theorem Bfn(p8_0:List Aa)(p8_1:Aq)(p8_2:List ByteArray)(p8_3:List Bool):YO (O36 L) L 9 57 [lv (.t66 p8_0),I 16,.clo 58 0 [.loc 5 0]] [(1,(B2 p8_1)),(5,[.mp 24]),(13,[.mapO false false (.t9 p8_2) (.t4 p8_3)]),(24,[.mapO false false (.t9 []) (.t4 [])])] k=ob (Vw L p8_0 p8_1 p8_2 p8_3) (Avn p8_0 p8_1 p8_2 p8_3 k):=(C6 _ _ _ y9 _ _ _ _ _ _ _).trans (eE (q7 L p8_0 p8_1 p8_2 p8_3 (ho (Bgc L (A0m L k) p8_0 p8_1 p8_2 p8_3 L (0,0,[],[])) fun o19=>Bh0 L k p8_0 p8_1 p8_2 p8_3 o19)))
def Lu [An A Int](a0:Aq)(o20:Co):A:=
 (cn (o20.1 != 0)
 (lf o20.1)
 (bd (W7 L a0) fun r21=>
 (lf r21)))
def A0n(a0:Aq)(o11:Co):Bn:=(Bx Tryz.prog (O36 L) (EI (O36 L) L 9) 1 (List.drop 4 c36.x.u.l.ops) ⟨[(27,.clo 58 0 [.loc 5 0]),(26,lv (.t66 a0.Sites)),(25,.loc 1 2),(1,.loc 1 0),(2,I 0),(5,.loc 5 0)],[(1,(B2 a0)),(5,[.mp 24]),(13,[.mapO false false (.t9 o11.2.1) (.t4 o11.2.2)]),(24,[.mapO false false (.t9 []) (.t4 [])])],0⟩ (some 28) (fun st9=>(Bz (EV (O36 L) L 9 c36.x.u.r) (Kb Tryz.prog (RS Tryz.f36) kk)) .normal st9))
theorem Bh1(a0:Aq)(o11:Co)(o20:Co):Avn a0.Sites a0 o11.2.1 o11.2.2 (A0n L kk a0 o11) o20=ob (Lu L a0 o20) (kQ I kk):=eE (Lu L a0 o20)
def Pr [An A Int](L:Nat)(a0:Aq)(o11:Co)(nx18:Co→A):A:=
 (cn (o11.1 != 0)
 (lf o11.1)
 (cn ((a0.Sites.length:Int) == 0)
 (lf 7)
 (nx18 o11)))
def Ra [An A Int](a0:Aq)(o11:Co):A:=Pr L a0 o11 (fun o11=>bd (Vw L a0.Sites a0 o11.2.1 o11.2.2) fun o20=>Lu L a0 o20)
def A6n(a0:Aq):Bn:=(Bx Tryz.prog (O36 L) (EI (O36 L) L 8) 1 (List.drop 4 c56.u.l.ops) ⟨[(7,.clo 87 1 [.mp 13]),(6,.mp 13),(5,lv (.t123 a0.Params)),(0,.mp 13),(1,lv (.t123 a0.Params)),(4,I 0)],[(1,(B2 a0)),(13,[.mapO false false (.t9 []) (.t4 [])])],1014⟩ (some 8) (fun st9=>(Bz (EV (O36 L) L 8 c56.u.r) (Dg Tryz.prog (RS Tryz.f56) (Bx Tryz.prog (O36 L) (EI (O36 L) L 9) 1 (List.drop 4 c36.w.l.l.ops) ⟨[(15,lv (.t123 a0.Params)),(14,.loc 1 1),(13,.mp 13),(1,.loc 1 0),(2,I 0)],[(13,[.mapO false false (.t9 []) (.t4 [])]),(1,(B2 a0))],0⟩ (some 16) (fun st9=>(Bz (EV (O36 L) L 9 c36.w.l.r) (Bz (EV (O36 L) L 9 c36.w.r) (Kb Tryz.prog (RS Tryz.f36) kk))) .normal st9)))) .normal st9))
theorem Bll(a0:Aq)(o11:Co):Avl a0.Params a0 (A6n L kk a0) o11=ob (Ra L a0 o11) (kQ I kk):=eE (Pr L a0 o11 (fun o11=>ho (Bfn L (A0n L kk a0 o11) a0.Sites a0 o11.2.1 o11.2.2) fun o20=>Bh1 L kk a0 o11 o20))
def Rl [An A Int](a0:Aq)(nx9:A):A:=
 (bd (Cr L a0.Name) fun r1=>
 (cn (r1 != 0)
 (lf r1)
 nx9))
def Aen [An A Int](a0:Aq):A:=Rl L a0 (bd (Vu L a0.Params a0) fun o11=>Ra L a0 o11)
def Oo(a0:Aq):Option Int:=Aen L a0
def X36:Qi:=E1 I 36 Abt (Oo L) fun a0 r h=>hF Tryz.func36 (C:=O36 L) (oS _) L (fun kk=>eE (Rl L a0 (ho (Bfk L (A6n L kk a0) a0.Params a0) fun o11=>Bll L kk a0 o11))) h
def c62:=CC Tryz.f62
def c37:=CC Tryz.f37
def O37(L:Nat):Bt:=oL []
def A70(p1_1:List Ao)(p1_0:List Bu)(p1_2:Bk)(v:Tu5):St:=⟨[(0,.any),(1,lv (.t93 p1_1)),(2,.clo 63 0 []),(6,B v.1),(15,lv (.t78 p1_0)),(16,I (p1_0.length:Int)),(17,I v.2)],[(1,(Mo p1_2))],1002⟩
def Qu [An A (Nat×Tu5)](L:Nat)(p1_1:List Ao)(p1_0:List Bu)(p1_2:Bk)(rec:Bool→Int→A)(Bg:Bool)(Af:Int):A:=
 (lw Af p1_0
 (gi Af p1_1
 (jp (.cn (((p1_0.getD (Int.toNat Af) default).Name).toList == ((p1_1.getD (Int.toNat Af) default).Name).toList)
 (.lf ((p1_0.getD (Int.toNat Af) default).Params == (((p1_1.getD (Int.toNat Af) default).Params).length:Int)))
 (.lf false)) (fun b1=>
 (jp (.cn b1
 (.lf ((((p1_1.getD (Int.toNat Af) default).Body).length:Int) == 0))
 (.lf false)) (fun b2=>
 (cn (!b2)
 (lf (0,false,Af))
 (rec Bg (Bi (Af+1)))))))))
 (lf (1,Bg,Af)))
def Hu(L:Nat)(p1_1:List Ao)(p1_0:List Bu)(p1_2:Bk):Nat→Bool→Int→Option (Nat×Tu5)
 |0,_,_=>none
 |n+1,Bg,Af=>Qu L p1_1 p1_0 p1_2 (Hu L p1_1 p1_0 p1_2 n) Bg Af
theorem Bgd(p1_1:List Ao)(p1_0:List Bu)(p1_2:Bk):LP (EV (O37 L) L 8 c62.w.l.u.l.l) [0,1,2,6,15,16,17] [1] (A70 p1_1 p1_0 p1_2) [.ret,.exit 0] (fun n v=>Hu L p1_1 p1_0 p1_2 n v.1 v.2) K:=lE (fun _=>rfl) fun n v ih=>eE (Qu L p1_1 p1_0 p1_2 (fun Bg Af=>re (ih (Bg,Af))) v.1 v.2)
def Avo(p1_0:List Bu)(p1_1:List Ao)(p1_2:Bk)(k:Bn):Bool→Prop:=fun o=>k (B o) [(1,(Mo p1_2))]
def Mv [An A Bool](L:Nat)(o3:Nat×Tu5):A:=
 (sl o3.1 [(lf o3.2.1),
 (lf true)])
def A6o:Ci:=(Bs 0 (Bz (EV (O37 L) L 8 c62.w.r) (Dg Tryz.prog (RS Tryz.f62) k)))
theorem Blm(p1_1:List Ao)(p1_0:List Bu)(p1_2:Bk)(o3:Nat×Tu5):kX [.ret,.exit 0] (A70 p1_1 p1_0 p1_2) (A6o L k) o3=ob (Mv L o3) (Avo p1_0 p1_1 p1_2 k):=eE (Mv L o3)
def Rj [An A Bool](L:Nat)(p1_0:List Bu)(p1_1:List Ao)(p1_2:Bk)(nx2:A):A:=
 (cn ((p1_0.length:Int) != (p1_1.length:Int))
 (lf false)
 nx2)
def Aae [An A Bool](p1_0:List Bu)(p1_1:List Ao)(p1_2:Bk):A:=Rj L p1_0 p1_1 p1_2 (bd (Hu L p1_1 p1_0 p1_2 L false 0) fun o3=>Mv L o3)
def Qt(p1_0:List Bu)(p1_1:List Ao)(p1_2:Bk):Option Bool:=Aae L p1_0 p1_1 p1_2
theorem Bfo(p1_0:List Bu)(p1_1:List Ao)(p1_2:Bk):YO (O37 L) L 9 62 [lv (.t78 p1_0),lv (.t93 p1_1),.clo 63 0 []] [(1,(Mo p1_2))] k=ob (Qt L p1_0 p1_1 p1_2) (Avo p1_0 p1_1 p1_2 k):=(C6 _ _ _ y9 _ _ _ _ _ _ _).trans (eE (Rj L p1_0 p1_1 p1_2 (ho (Bgd L (A6o L k) p1_1 p1_0 p1_2 L (false,0)) fun o3=>Blm L k p1_1 p1_0 p1_2 o3)))
def Mw [An A Bool](L:Nat)(o4:Bool):A:=
 (lf o4)
def A6p(a0:Bk):Bn:=(Bx Tryz.prog (O37 L) (EI (O37 L) L 9) 1 (List.drop 6 c37.u.l.ops) ⟨[(7,lv (.t93 a0.Decl.Routines)),(6,.loc 1 10),(5,.loc 1 0),(4,lv (.t78 a0.Routines)),(3,.loc 1 13),(1,.loc 1 0),(2,B false)],[(1,(Mo a0))],0⟩ (some 8) (fun st9=>(Bz (EV (O37 L) L 9 c37.u.r) (Kb Tryz.prog (RS Tryz.f37) kk)) .normal st9))
theorem Bln(a0:Bk)(o4:Bool):Avo a0.Routines a0.Decl.Routines a0 (A6p L kk a0) o4=ob (Mw L o4) (kQ B kk):=eE (Mw L o4)
def Ael [An A Bool](a0:Bk):A:=(bd (Qt L a0.Routines a0.Decl.Routines a0) fun o4=>Mw L o4)
def Jy(a0:Bk):Option Bool:=Ael L a0
def X37:Qi:=E1 B 37 Akq (Jy L) fun a0 r h=>hF Tryz.func37 (C:=O37 L) (oS _) L (fun kk=>eE ((ho (Bfo L (A6p L kk a0) a0.Routines a0.Decl.Routines a0) fun o4=>Bln L kk a0 o4))) h
def c38:=CC Tryz.f38
def O38(L:Nat):Bt:=oL []
def A71(a0:Ad)(v:Int×Int×List Dx×List Bool):St:=⟨[(0,.any),(1,.loc 1 0),(2,I v.1),(3,.mp 11),(13,lv (.t127 a0.Links)),(14,I (a0.Links.length:Int)),(15,I v.2.1)],[(1,(B4 a0)),(11,[.mapO true false (.t135 v.2.2.1) (.t4 v.2.2.2)])],0⟩
def Uj [An A (Nat×Int×Int×List Dx×List Bool)](L:Nat)(a0:Ad)(rec:Int→Int→List Dx→List Bool→A)(Au:Int)(Am:Int)(Df:List Dx)(Bl:List Bool):A:=
 (lw Am a0.Links
 (jp (.cn (decide ((if (a0.Links.getD (Int.toNat Am) default).To < (a0.Links.getD (Int.toNat Am) default).From then (a0.Links.getD (Int.toNat Am) default).To else (a0.Links.getD (Int.toNat Am) default).From) < 0))
 (.lf true)
 (.lf (decide ((if (a0.Links.getD (Int.toNat Am) default).To > (a0.Links.getD (Int.toNat Am) default).From then (a0.Links.getD (Int.toNat Am) default).To else (a0.Links.getD (Int.toNat Am) default).From)≥(a0.Sites.length:Int))))) (fun b1=>
 (jp (.cn b1
 (.lf true)
 (.lf ((a0.Links.getD (Int.toNat Am) default).From == (a0.Links.getD (Int.toNat Am) default).To))) (fun b2=>
 (cn b2
 (cn b2
 (lf (0,2,Am,Df,Bl))
 (fq (Df.findIdx? fun b=>((a0.Links.getD (Int.toNat Am) default).From == b.a0 && ((a0.Links.getD (Int.toNat Am) default).To == b.a1))) (fun i3=>
 (cn (Bl.getD i3 default)
 (lf (0,4,Am,Df,Bl))
 (fq (Df.findIdx? fun b=>((a0.Links.getD (Int.toNat Am) default).From == b.a0 && ((a0.Links.getD (Int.toNat Am) default).To == b.a1))) (fun i4=>
 (rec Au (Bi (Am+1)) Df (Bl.set i4 true)))
 (rec Au (Bi (Am+1)) (Df++ [(⟨(a0.Links.getD (Int.toNat Am) default).From,(a0.Links.getD (Int.toNat Am) default).To⟩:Dx)]) (Bl++ [true])))))
 (fq (Df.findIdx? fun b=>((a0.Links.getD (Int.toNat Am) default).From == b.a0 && ((a0.Links.getD (Int.toNat Am) default).To == b.a1))) (fun i5=>
 (rec Au (Bi (Am+1)) Df (Bl.set i5 true)))
 (rec Au (Bi (Am+1)) (Df++ [(⟨(a0.Links.getD (Int.toNat Am) default).From,(a0.Links.getD (Int.toNat Am) default).To⟩:Dx)]) (Bl++ [true])))))
 (jp (.cn (decide ((a0.Links.getD (Int.toNat Am) default).Delay < 1))
 (.lf true)
 (.lf (decide ((a0.Links.getD (Int.toNat Am) default).Delay > 1000000000)))) (fun b6=>
 (cn b6
 (lf (0,2,Am,Df,Bl))
 (fq (Df.findIdx? fun b=>((a0.Links.getD (Int.toNat Am) default).From == b.a0 && ((a0.Links.getD (Int.toNat Am) default).To == b.a1))) (fun i7=>
 (cn (Bl.getD i7 default)
 (lf (0,4,Am,Df,Bl))
 (fq (Df.findIdx? fun b=>((a0.Links.getD (Int.toNat Am) default).From == b.a0 && ((a0.Links.getD (Int.toNat Am) default).To == b.a1))) (fun i8=>
 (rec Au (Bi (Am+1)) Df (Bl.set i8 true)))
 (rec Au (Bi (Am+1)) (Df++ [(⟨(a0.Links.getD (Int.toNat Am) default).From,(a0.Links.getD (Int.toNat Am) default).To⟩:Dx)]) (Bl++ [true])))))
 (fq (Df.findIdx? fun b=>((a0.Links.getD (Int.toNat Am) default).From == b.a0 && ((a0.Links.getD (Int.toNat Am) default).To == b.a1))) (fun i9=>
 (rec Au (Bi (Am+1)) Df (Bl.set i9 true)))
 (rec Au (Bi (Am+1)) (Df++ [(⟨(a0.Links.getD (Int.toNat Am) default).From,(a0.Links.getD (Int.toNat Am) default).To⟩:Dx)]) (Bl++ [true]))))))))))))
 (lf (1,Au,Am,Df,Bl)))
def Kk(L:Nat)(a0:Ad):Nat→Int→Int→List Dx→List Bool→Option (Nat×Int×Int×List Dx×List Bool)
 |0,_,_,_,_=>none
 |n+1,Au,Am,Df,Bl=>Uj L a0 (Kk L a0 n) Au Am Df Bl
theorem Bge(a0:Ad):LP (EV (O38 L) L 9 c38.w.u.l.u.l.l) [0,1,2,3,13,14,15] [1,11] (A71 a0) [.ret,.exit 0] (fun n v=>Kk L a0 n v.1 v.2.1 v.2.2.1 v.2.2.2) K:=lE (fun _=>rfl) fun n v ih=>eE (Uj L a0 (fun Au Am Df Bl=>re (ih (Au,Am,Df,Bl))) v.1 v.2.1 v.2.2.1 v.2.2.2)
def Qa [An A Int](L:Nat)(o10:Nat×Int×Int×List Dx×List Bool):A:=
 (sl o10.1 [(lf o10.2.1),
 (lf 0)])
def A6q:Ci:=(Bs 0 (Bz (EV (O38 L) L 9 c38.w.u.r) (Kb Tryz.prog (RS Tryz.f38) kk)))
theorem Blo(a0:Ad)(o10:Nat×Int×Int×List Dx×List Bool):kX [.ret,.exit 0] (A71 a0) (A6q L kk) o10=ob (Qa L o10) (kQ I kk):=eE (Qa L o10)
def U5 [An A Int](L:Nat)(a0:Ad)(nx1:A):A:=
 (cn (decide ((a0.Links.length:Int) > 32))
 (lf 6)
 nx1)
def Ajy [An A Int](a0:Ad):A:=U5 L a0 (bd (Kk L a0 L 0 0 [] []) fun o10=>Qa L o10)
def Xf(a0:Ad):Option Int:=Ajy L a0
def X38:Qi:=E1 I 38 H5 (Xf L) fun a0 r h=>hF Tryz.func38 (C:=O38 L) (oS _) L (fun kk=>eE (U5 L a0 (ho (Bge L (A6q L kk) a0 L (0,0,[],[])) fun o10=>Blo L kk a0 o10))) h
def Abi [An A Bool](L:Nat)(a0:Int):A:=
 (jp (.cn (decide (a0≥1))
 (.lf (decide (a0≤19)))
 (.lf false)) (fun b1=>
 (lf b1)))
def Tx(a0:Int):Option Bool:=Abi L a0
def Bja:Qi:=E1 B 122 (cI .i64) (Tx L) fun a0 r h=>hF Tryz.func122 (oS []) L (fun kk=>eE (Abi L a0)) h
def Ac4 [An A Bool](a0:Ab):A:=
 (bd (J0 L (Ab.cp a0) (Ab.mk 0 (⟨#[]⟩:ByteArray) 0 [])) fun r1=>
 (lf r1))
def Xg(a0:Ab):Option Bool:=Ac4 L a0
def Bni:Qi:=E1 B 161 Cw (Xg L) fun a0 r h=>hF Tryz.func161 (oS [Bje L]) L (fun kk=>eE (Ac4 L a0)) h
def Abh [An A Bool](a0:Bm):A:=
 (gi a0.Op Z1
 (jp (.cn ((Z1.getD (Int.toNat a0.Op) default).u_a != 0)
 (.lf true)
 (.lf (a0.A == 0))) (fun b1=>
 (jp (.cn b1
 (.cn ((Z1.getD (Int.toNat a0.Op) default).u_b != 0)
 (.lf true)
 (.lf (a0.B == 0)))
 (.lf false)) (fun b2=>
 (jp (.cn b2
 (.cn ((Z1.getD (Int.toNat a0.Op) default).u_c)
 (.lf true)
 (.lf (a0.C == 0)))
 (.lf false)) (fun b3=>
 (jb (.cn b3
 (.cn ((Z1.getD (Int.toNat a0.Op) default).u_e)
 (.lf true)
 (.bd (Xg L (Ab.cp a0.E)) fun r5=>
 (.lf r5)))
 (.lf false)) (fun b4=>
 (jb (.cn b4
 (.cn ((Z1.getD (Int.toNat a0.Op) default).u_f)
 (.lf true)
 (.bd (Xg L (Ab.cp a0.F)) fun r7=>
 (.lf r7)))
 (.lf false)) (fun b6=>
 (jp (.cn b6
 (.cn ((Z1.getD (Int.toNat a0.Op) default).u_args)
 (.lf true)
 (.lf ((a0.Args.length:Int) == 0)))
 (.lf false)) (fun b8=>
 (cn b8
 (cn ((Z1.getD (Int.toNat a0.Op) default).u_dist)
 (nq (jp (.cn ((Z1.getD (Int.toNat a0.Op) default).u_preempt)
 (.lf true)
 (.lf (!a0.Flag))) (fun b9=>
 (lf b9))))
 (bd (Jz L a0.Dist (⟨0,0,0,0,[],[]⟩:Cp)) fun r10=>
 (nq (jp (.cn r10
 (.cn ((Z1.getD (Int.toNat a0.Op) default).u_preempt)
 (.lf true)
 (.lf (!a0.Flag)))
 (.lf false)) (fun b11=>
 (lf b11))))))
 (nq (nq (lf false)))))))))))))))))
def Tw(a0:Bm):Option Bool:=Abh L a0
def Bna:Qi:=E1 B 123 Abs (Tw L) fun a0 r h=>hF Tryz.func123 (oS [Bex L,Bni L]) L (fun kk=>eE (Abh L a0)) h
def T2 [An A Int](L:Nat)(a0:Ar)(a1:Int)(a2:Int):A:=
 (gi a0.u_site a0.u_p.Sites
 (cn (a1 == 1)
 (lf a0.u_c.Slots)
 (cn (a1 == 2)
 (lf ((((a0.u_p.Sites.getD (Int.toNat a0.u_site) default).Decl).Vars).length:Int))
 (cn (a1 == 3)
 (lf ((((a0.u_p.Sites.getD (Int.toNat a0.u_site) default).Decl).Streams).length:Int))
 (cn (a1 == 4)
 (lf (a0.u_c.Instrs.length:Int))
 (cn (a1 == 5)
 (lf ((((a0.u_p.Sites.getD (Int.toNat a0.u_site) default).Decl).Resources).length:Int))
 (cn (a1 == 6)
 (lf ((((a0.u_p.Sites.getD (Int.toNat a0.u_site) default).Decl).Stores).length:Int))
 (cn (a1 == 7)
 (lf ((((a0.u_p.Sites.getD (Int.toNat a0.u_site) default).Decl).Belts).length:Int))
 (cn (a1 == 8)
 (lf ((((a0.u_p.Sites.getD (Int.toNat a0.u_site) default).Decl).Queues).length:Int))
 (cn (a1 == 9)
 (lf (a0.u_p.Sites.length:Int))
 (cn (a1 == 10)
 (gi a2 a0.u_p.Sites
 (lf (((a0.u_p.Sites.getD (Int.toNat a2) default).Routines).length:Int)))
 (cn (a1 == 11)
 (lf ((((a0.u_p.Sites.getD (Int.toNat a0.u_site) default).Decl).Tallies).length:Int))
 (cn (a1 == 12)
 (lf ((((a0.u_p.Sites.getD (Int.toNat a0.u_site) default).Decl).Levels).length:Int))
 (cn (a1 == 13)
 (lf ((((a0.u_p.Sites.getD (Int.toNat a0.u_site) default).Decl).Counts).length:Int))
 (lf 1)))))))))))))))
def F2(a0:Ar)(a1:Int)(a2:Int):Option Int:=T2 L a0 a1 a2
def Bez:Qi:=E3 I 162 Ot (cI .i64) (cI .i64) (F2 L) fun a0 a1 a2 r h=>hF Tryz.func162 (oS []) L (fun kk=>eE (T2 L a0 a1 a2)) h
def Vi [An A Bool](a0:Ar)(a1:Int)(a2:Int)(a3:Int):A:=
 (jb (.cn (decide (a2≥0))
 (.bd (F2 L (⟨(⟨a0.u_p.Name,a0.u_p.Sites,a0.u_p.Links⟩:Ad),a0.u_site,a0.u_c⟩:Ar) a1 a3) fun r2=>
 (.lf (decide (a2 < r2))))
 (.lf false)) (fun b1=>
 (lf b1)))
def Cu(a0:Ar)(a1:Int)(a2:Int)(a3:Int):Option Bool:=Vi L a0 a1 a2 a3
def Bet:Qi:=E4 B 124 Ot (cI .i64) (cI .i64) (cI .i64) (Cu L) fun a0 a1 a2 a3 r h=>hF Tryz.func124 (oS [Bez L]) L (fun kk=>eE (Vi L a0 a1 a2 a3)) h
def Bj4:=CC Tryz.f163
def Bj0:=CC Tryz.f125
def Avr(L:Nat):Bt:=oL []
def Bkv:(Int×Bool)→Prop:=fun x=>kk ((fun(x:Int×Bool)=> .tup [I x.1,B x.2]) x)
def A1q(p1_0:List D2)(p1_1:Ad)(p1_2:Int)(p1_3:Int)(v:L1):St:=⟨[(0,lv (.t127 p1_0)),(1,.clo 164 0 [.loc 4 0,.loc 5 0]),(4,I v.1),(7,I (p1_0.length:Int)),(8,I v.2)],[(3,(B4 p1_1)),(4,[I p1_2]),(5,[I p1_3])],1006⟩
def W9 [An A Hl](L:Nat)(p1_0:List D2)(p1_1:Ad)(p1_2:Int)(p1_3:Int)(rec:Int→Int→A)(Bg:Int)(Am:Int):A:=
 (lw Am p1_0
 (jp (.cn ((p1_0.getD (Int.toNat Am) default).From == p1_2)
 (.lf ((p1_0.getD (Int.toNat Am) default).To == p1_3))
 (.lf false)) (fun b1=>
 (cn b1
 (lf (0,Am,Am))
 (rec Bg (Bi (Am+1))))))
 (lf (1,Bg,Am)))
def L6(L:Nat)(p1_0:List D2)(p1_1:Ad)(p1_2:Int)(p1_3:Int):Nat→Int→Int→Option Hl
 |0,_,_=>none
 |n+1,Bg,Am=>W9 L p1_0 p1_1 p1_2 p1_3 (L6 L p1_0 p1_1 p1_2 p1_3 n) Bg Am
theorem Bba(p1_0:List D2)(p1_1:Ad)(p1_2:Int)(p1_3:Int):LP (EV (Avr L) L 8 Bj4.u.l.u.l.l) [0,1,4,7,8] [3,4,5] (A1q p1_0 p1_1 p1_2 p1_3) [.ret,.exit 0] (fun n v=>L6 L p1_0 p1_1 p1_2 p1_3 n v.1 v.2) K:=lE (fun _=>rfl) fun n v ih=>eE (W9 L p1_0 p1_1 p1_2 p1_3 (fun Bg Am=>re (ih (Bg,Am))) v.1 v.2)
def Apz(p1_0:List D2)(p1_1:Ad)(p1_2:Int)(p1_3:Int)(k:Bn):Int→Prop:=fun o=>k (I o) [(3,(B4 p1_1)),(4,[I p1_2]),(5,[I p1_3])]
def Xd [An A Int](L:Nat)(o2:Nat×L1):A:=
 (sl o2.1 [(lf o2.2.1),
 (lf (-1))])
def Azm:Ci:=(Bs 0 (Bz (EV (Avr L) L 8 Bj4.u.r) (Dg Tryz.prog (RS Tryz.f163) k)))
theorem Bg0(p1_0:List D2)(p1_1:Ad)(p1_2:Int)(p1_3:Int)(o2:Nat×L1):kX [.ret,.exit 0] (A1q p1_0 p1_1 p1_2 p1_3) (Azm L k) o2=ob (Xd L o2) (Apz p1_0 p1_1 p1_2 p1_3 k):=eE (Xd L o2)
def Aex [An A Int](p1_0:List D2)(p1_1:Ad)(p1_2:Int)(p1_3:Int):A:=(bd (L6 L p1_0 p1_1 p1_2 p1_3 L 0 0) fun o2=>Xd L o2)
def W8(p1_0:List D2)(p1_1:Ad)(p1_2:Int)(p1_3:Int):Option Int:=Aex L p1_0 p1_1 p1_2 p1_3
theorem Baf(p1_0:List D2)(p1_1:Ad)(p1_2:Int)(p1_3:Int):YO (Avr L) L 9 163 [lv (.t127 p1_0),.clo 164 0 [.loc 4 0,.loc 5 0]] [(3,(B4 p1_1)),(4,[I p1_2]),(5,[I p1_3])] k=ob (W8 L p1_0 p1_1 p1_2 p1_3) (Apz p1_0 p1_1 p1_2 p1_3 k):=(C6 _ _ _ y9 _ _ _ _ _ _ _).trans (eE ((ho (Bba L (Azm L k) p1_0 p1_1 p1_2 p1_3 L (0,0)) fun o2=>Bg0 L k p1_0 p1_1 p1_2 p1_3 o2)))
def Sc [An A (Int×Bool)](L:Nat)(a0:Ad)(o3:Int):A:=
 (cn (decide (o3 < 0))
 (lf (0,false))
 (gi o3 a0.Links
 (lf ((a0.Links.getD (Int.toNat o3) default).Delay,true))))
def Azn(a0:Ad)(a1:Int)(a2:Int):Bn:=(Bx Tryz.prog (Avr L) (EI (Avr L) L 9) 1 (List.drop 4 Bj0.u.l.ops) ⟨[(11,.clo 164 0 [.loc 4 0,.loc 5 0]),(10,lv (.t127 a0.Links)),(9,.loc 3 2),(3,.loc 3 0),(4,.loc 4 0),(5,.loc 5 0),(6,I 0),(7,B false)],[(3,(B4 a0)),(4,[I a1]),(5,[I a2])],0⟩ (some 12) (fun st9=>(Bz (EV (Avr L) L 9 Bj0.u.r) (Kb Tryz.prog (RS Tryz.f125) kk)) .normal st9))
theorem Bg1(a0:Ad)(a1:Int)(a2:Int)(o3:Int):Apz a0.Links a0 a1 a2 (Azn L kk a0 a1 a2) o3=ob (Sc L a0 o3) (Bkv kk):=eE (Sc L a0 o3)
def Aln [An A (Int×Bool)](a0:Ad)(a1:Int)(a2:Int):A:=(bd (W8 L a0.Links a0 a1 a2) fun o3=>Sc L a0 o3)
def Zm(a0:Ad)(a1:Int)(a2:Int):Option (Int×Bool):=Aln L a0 a1 a2
def Bnb:Qi:=E3 (fun(x:Int×Bool)=> .tup [I x.1,B x.2]) 125 H5 (cI .i64) (cI .i64) (Zm L) fun a0 a1 a2 r h=>hF Tryz.func125 (C:=Avr L) (oS _) L (fun kk=>eE ((ho (Baf L (Azn L kk a0 a1 a2) a0.Links a0 a1 a2) fun o3=>Bg1 L kk a0 a1 a2 o3))) h
def Th [An A (List Ab)](a0:Bm):A:=
 (bd (Tx L a0.Op) fun r1=>
 (cn (!r1)
 (lf [])
 (gi a0.Op Z1
 (cn ((Z1.getD (Int.toNat a0.Op) default).u_e)
 (gq ((0+ [(Ab.cp a0.E)].length)*56≤140737488355328)
 (gq (0+ [(Ab.cp a0.E)].length≤maxLen)
 (cn ((Z1.getD (Int.toNat a0.Op) default).u_f)
 (gq (([(Ab.cp a0.E)].length+ [(Ab.cp a0.F)].length)*56≤140737488355328)
 (gq ([(Ab.cp a0.E)].length+ [(Ab.cp a0.F)].length≤maxLen)
 (cn ((Z1.getD (Int.toNat a0.Op) default).u_args)
 (gq ((([(Ab.cp a0.E)]++ [(Ab.cp a0.F)]).length+a0.Args.length)*56≤140737488355328)
 (gq (([(Ab.cp a0.E)]++ [(Ab.cp a0.F)]).length+a0.Args.length≤maxLen)
 (lf (([(Ab.cp a0.E)]++ [(Ab.cp a0.F)])++a0.Args))))
 (lf ([(Ab.cp a0.E)]++ [(Ab.cp a0.F)])))))
 (cn ((Z1.getD (Int.toNat a0.Op) default).u_args)
 (gq (([(Ab.cp a0.E)].length+a0.Args.length)*56≤140737488355328)
 (gq ([(Ab.cp a0.E)].length+a0.Args.length≤maxLen)
 (lf ([(Ab.cp a0.E)]++a0.Args))))
 (lf [(Ab.cp a0.E)])))))
 (cn ((Z1.getD (Int.toNat a0.Op) default).u_f)
 (gq ((0+ [(Ab.cp a0.F)].length)*56≤140737488355328)
 (gq (0+ [(Ab.cp a0.F)].length≤maxLen)
 (cn ((Z1.getD (Int.toNat a0.Op) default).u_args)
 (gq (([(Ab.cp a0.F)].length+a0.Args.length)*56≤140737488355328)
 (gq ([(Ab.cp a0.F)].length+a0.Args.length≤maxLen)
 (lf ([(Ab.cp a0.F)]++a0.Args))))
 (lf [(Ab.cp a0.F)]))))
 (cn ((Z1.getD (Int.toNat a0.Op) default).u_args)
 (gq ((0+a0.Args.length)*56≤140737488355328)
 (gq (0+a0.Args.length≤maxLen)
 (lf a0.Args)))
 (lf [])))))))
def Ec(a0:Bm):Option (List Ab):=Th L a0
def Bnc:Qi:=E1 (fun(x:List Ab)=>lv (.t98 x)) 126 Abs (Ec L) fun a0 r h=>hF Tryz.func126 (oS [Bja L]) L (fun kk=>eE (Th L a0)) h
def Vj [An A Int](a0:Ab):A:=
 (bd (Lf L (⟨true⟩:Bj) (Ab.cp a0)) fun r1=>
 (lf r1))
def Hr(a0:Ab):Option Int:=Vj L a0
def Bnd:Qi:=E1 I 127 Cw (Hr L) fun a0 r h=>hF Tryz.func127 (oS [Bjd L]) L (fun kk=>eE (Vj L a0)) h
end
end Go.Proofs.YthjhkpgonleelaaGreatDoor.Ev
