import Derived.Test.YtofcpkmnhmnfcaaGreatRG3
import Derived.Test.YtofcpkmnhmnfcaaGreatRG6
namespace Go.Proofs.YtofcpkmnhmnfcaaGreatR.Ev
open Go An
set_option maxRecDepth 100000
set_option maxHeartbeats 4000000
set_option linter.unusedVariables false
set_option linter.unusedSimpArgs false
set_option linter.unnecessarySimpa false
noncomputable section
variable {A:Type} (L n:Nat) (kk:Cz) (K:Ax) (k:Bk)
def Cd8:=CC Tryz.f182
def Cdl:=CC Tryz.f132
def Bcm(L:Nat):Ba:=oL []
def Bjo(p1_0:List Aa)(p1_1:Ac)(p1_2:ByteArray)(v:Co):St:=⟨[(0,lv (.t53 p1_0)),(1,.clo 183 0 [.loc 3 0]),(4,I v.1),(7,I (p1_0.length:Int)),(8,I v.2)],[(2,(Aq p1_1)),(3,[S p1_2])],4⟩
def Yj [An A B7](L:Nat)(p1_0:List Aa)(p1_1:Ac)(p1_2:ByteArray)(rec:Int→Int→A)(Aj:Int)(Ai:Int):A:=
 (lw Ai p1_0
 (cn (((p1_0.getD (Int.toNat Ai) default).Name).toList == p1_2.toList)
 (lf (0,Ai,Ai))
 (rec Aj (B6 (Ai+1))))
 (lf (1,Aj,Ai)))
def L4(L:Nat)(p1_0:List Aa)(p1_1:Ac)(p1_2:ByteArray):Nat→Int→Int→Option B7
 |0,_,_=>none
 |n+1,Aj,Ai=>Yj L p1_0 p1_1 p1_2 (L4 L p1_0 p1_1 p1_2 n) Aj Ai
theorem Bx6(p1_0:List Aa)(p1_1:Ac)(p1_2:ByteArray):LP (EV (Bcm L) L 8 Cd8.u.l.u.l.l) [0,1,4,7,8] [2,3] (Bjo p1_0 p1_1 p1_2) [.ret,.exit 0] (fun n v=>L4 L p1_0 p1_1 p1_2 n v.1 v.2) K:=lE (fun _=>rfl) fun n v ih=>eE (Yj L p1_0 p1_1 p1_2 (fun Aj Ai=>re (ih (Aj,Ai))) v.1 v.2)
def A6v(p1_0:List Aa)(p1_1:Ac)(p1_2:ByteArray)(k:Bk):Int→Prop:=fun o=>k (I o) [(2,(Aq p1_1)),(3,[S p1_2])]
def Yx [An A Int](L:Nat)(o1:Nat×Co):A:=
 (sl o1.1 [(lf o1.2.1),
 (lf (-1))])
def Bf6:Ax:=(Av 0 (Bb (EV (Bcm L) L 8 Cd8.u.r) (Dz Tryz.prog (RS Tryz.f182) k)))
theorem B7y(p1_0:List Aa)(p1_1:Ac)(p1_2:ByteArray)(o1:Nat×Co):kX [.ret,.exit 0] (Bjo p1_0 p1_1 p1_2) (Bf6 L k) o1=ob (Yx L o1) (A6v p1_0 p1_1 p1_2 k):=eE (Yx L o1)
def Alq [An A Int](p1_0:List Aa)(p1_1:Ac)(p1_2:ByteArray):A:=(bd (L4 L p1_0 p1_1 p1_2 L 0 0) fun o1=>Yx L o1)
def Yc(p1_0:List Aa)(p1_1:Ac)(p1_2:ByteArray):Option Int:=Alq L p1_0 p1_1 p1_2
theorem Bw9(p1_0:List Aa)(p1_1:Ac)(p1_2:ByteArray):YO (Bcm L) L 9 182 [lv (.t53 p1_0),.clo 183 0 [.loc 3 0]] [(2,(Aq p1_1)),(3,[S p1_2])] k=ob (Yc L p1_0 p1_1 p1_2) (A6v p1_0 p1_1 p1_2 k):=(C3 _ _ _ jn4 _ _ _ _ _ _ _).trans (eE ((ho (Bx6 L (Bf6 L k) p1_0 p1_1 p1_2 L (0,0)) fun o1=>B7y L k p1_0 p1_1 p1_2 o1)))
def Tc [An A Int](L:Nat)(o2:Int):A:=
 (lf o2)
def Bf7(a0:Ac)(a1:ByteArray):Bk:=(Bz Tryz.prog (Bcm L) (EI (Bcm L) L 9) 1 (List.drop 4 Cdl.u.l.ops) ⟨[(7,.clo 183 0 [.loc 3 0]),(6,lv (.t53 a0.Sites)),(5,.loc 2 2),(2,.loc 2 0),(3,.loc 3 0),(4,I 0)],[(2,(Aq a0)),(3,[S a1])],0⟩ (some 8) (fun st9=>(Bb (EV (Bcm L) L 9 Cdl.u.r) (Cm Tryz.prog (RS Tryz.f132) kk)) .normal st9))
theorem B7z(a0:Ac)(a1:ByteArray)(o2:Int):A6v a0.Sites a0 a1 (Bf7 L kk a0 a1) o2=ob (Tc L o2) (kQ I kk):=eE (Tc L o2)
def Atj [An A Int](a0:Ac)(a1:ByteArray):A:=(bd (Yc L a0.Sites a0 a1) fun o2=>Tc L o2)
def Vq(a0:Ac)(a1:ByteArray):Option Int:=Atj L a0 a1
def B3y:Ew:=E2 I 132 Cq cS (Vq L) fun a0 a1 r h=>hF Tryz.func132 (C:=Bcm L) (oS _) L (fun kk=>eE ((ho (Bw9 L (Bf7 L kk a0 a1) a0.Sites a0 a1) fun o2=>B7z L kk a0 a1 o2))) h
def Bl3:=CC Tryz.f130
def c71:=CC Tryz.f71
def O71:Ba:=oL [Bc2 L,B3y L]
def Bnt(p3_0:Bj)(p3_1:Ac)(p3_2:List Bo)(p3_3:List Bool)(p3_4:Bj)(k:Bk):Ay8→Prop:=fun o=>k (I o.1) [(1,(Aq p3_1)),(3,[.mp 4]),(4,[.mapO true false (.t193 o.2.1) (.t4 o.2.2)]),(13,(N1 p3_4)),(17,(N1 p3_0)),(19,[S p3_0.From,S p3_0.To])]
def w3 [An A Ay8](p3_0:Bj)(p3_1:Ac)(p3_2:List Bo)(p3_3:List Bool)(p3_4:Bj):A:=
 (bd (Vq L p3_1 p3_0.From) fun r1=>
 (jb (.cn (decide (r1 < 0))
 (.lf true)
 (.bd (Vq L p3_1 p3_0.To) fun r3=>
 (.lf (decide (r3 < 0))))) (fun b2=>
 (cn b2
 (lf (5,p3_2,p3_3))
 (cn (p3_0.From.toList == p3_0.To.toList)
 (lf (1,p3_2,p3_3))
 (bd (Be L p3_0.Delay 1 1000000000) fun r4=>
 (cn (!r4)
 (lf (2,p3_2,p3_3))
 (fq (p3_2.findIdx? fun b=>(p3_0.From == b.a0 && (p3_0.To == b.a1))) (fun i5=>
 (cn (p3_3.getD i5 default)
 (lf (4,p3_2,p3_3))
 (fq (p3_2.findIdx? fun b=>(p3_0.From == b.a0 && (p3_0.To == b.a1))) (fun i6=>
 (lf (0,p3_2,(p3_3.set i6 true))))
 (lf (0,(p3_2++ [(⟨p3_0.From,p3_0.To⟩:Bo)]),(p3_3++ [true]))))))
 (fq (p3_2.findIdx? fun b=>(p3_0.From == b.a0 && (p3_0.To == b.a1))) (fun i7=>
 (lf (0,p3_2,(p3_3.set i7 true))))
 (lf (0,(p3_2++ [(⟨p3_0.From,p3_0.To⟩:Bo)]),(p3_3++ [true]))))))))))))
def Rm(p3_0:Bj)(p3_1:Ac)(p3_2:List Bo)(p3_3:List Bool)(p3_4:Bj):Option Ay8:=w3 L p3_0 p3_1 p3_2 p3_3 p3_4
theorem B5u(p3_0:Bj)(p3_1:Ac)(p3_2:List Bo)(p3_3:List Bool)(p3_4:Bj):YO (O71 L) L 8 131 [.agg (N1 p3_0),.loc 1 0,.loc 3 0] [(1,(Aq p3_1)),(3,[.mp 4]),(4,[.mapO true false (.t193 p3_2) (.t4 p3_3)]),(13,(N1 p3_4))] k=ob (Rm L p3_0 p3_1 p3_2 p3_3 p3_4) (Bnt p3_0 p3_1 p3_2 p3_3 p3_4 k):=(C3 _ _ _ jn4 _ _ _ _ _ _ _).trans (eE (w3 L p3_0 p3_1 p3_2 p3_3 p3_4))
def Bej(p1_0:List Bj)(p1_1:Ac)(v:Bc1):St:=⟨[(0,.any),(1,.any),(2,.clo 131 0 [.loc 1 0,.loc 3 0]),(6,I v.1),(14,lv (.t81 p1_0)),(15,I (p1_0.length:Int)),(16,I v.2.1)],[(1,(Aq p1_1)),(3,[.mp 4]),(4,[.mapO true false (.t193 v.2.2.1) (.t4 v.2.2.2)])],5⟩
def Rx [An A (Nat×Bc1)](L:Nat)(Ai:Int)(Al:Int)(rec:Int→Int→List Bo→List Bool→A)(o8:Ay8):A:=
 (cn (o8.1 != 0)
 (lf (0,o8.1,Ai,o8.2.1,o8.2.2))
 (rec Al (B6 (Ai+1)) o8.2.1 o8.2.2))
def W4 [An A (Nat×Bc1)](L:Nat)(p1_0:List Bj)(p1_1:Ac)(rec:Int→Int→List Bo→List Bool→A)(Al:Int)(Ai:Int)(C2:List Bo)(Dg:List Bool)(nx3:Int→(List Bo)→(List Bool)→Int→A):A:=
 (lw Ai p1_0
 (nx3 Ai C2 Dg Al)
 (lf (1,Al,Ai,C2,Dg)))
def Aae [An A (Nat×Bc1)](p1_0:List Bj)(p1_1:Ac)(rec:Int→Int→List Bo→List Bool→A)(Al:Int)(Ai:Int)(C2:List Bo)(Dg:List Bool):A:=W4 L p1_0 p1_1 rec Al Ai C2 Dg (fun Ai C2 Dg Al=>bd (Rm L (p1_0.getD (Int.toNat Ai) default) p1_1 C2 Dg (p1_0.getD (Int.toNat Ai) default)) fun o8=>Rx L Ai Al rec o8)
def Im(L:Nat)(p1_0:List Bj)(p1_1:Ac):Nat→Int→Int→List Bo→List Bool→Option (Nat×Bc1)
 |0,_,_,_,_=>none
 |n+1,Al,Ai,C2,Dg=>Aae L p1_0 p1_1 (Im L p1_0 p1_1 n) Al Ai C2 Dg
def Bnn(p1_0:List Bj)(p1_1:Ac):Prop:=LI (EV (O71 L) L 8 Bl3.w.l.u.l.l) [0,1,2,6,14,15,16] [1,3,4] (Bej p1_0 p1_1) [.ret,.exit 0] (fun n v=>Im L p1_0 p1_1 n v.1 v.2.1 v.2.2.1 v.2.2.2) K n
def Bqn(p1_0:List Bj)(Ai:Int)(Al:Int)(p1_1:Ac)(C2:List Bo)(Dg:List Bool):Bk:=(Bz Tryz.prog (O71 L) (EI (O71 L) L 8) 1 (List.drop 3 Bl3.w.l.u.l.l.w.l.l.u.l.ops) ⟨[(21,.agg (N1 (p1_0.getD (Int.toNat Ai) default))),(20,.clo 131 0 [.loc 1 0,.loc 3 0]),(2,.clo 131 0 [.loc 1 0,.loc 3 0]),(6,I Al),(8,.loc 13 0),(14,lv (.t81 p1_0)),(15,I (p1_0.length:Int)),(16,I Ai),(17,B (decide (Ai < (p1_0.length:Int)))),(18,.ref (N1 (p1_0.getD (Int.toNat Ai) default))),(19,.agg (N1 (p1_0.getD (Int.toNat Ai) default)))],[(1,(Aq p1_1)),(3,[.mp 4]),(4,[.mapO true false (.t193 C2) (.t4 Dg)]),(13,(N1 (p1_0.getD (Int.toNat Ai) default)))],5⟩ (some 22) (fun st9=>(Bb (EV (O71 L) L 8 Bl3.w.l.u.l.l.w.l.l.u.r) (Av 1 (Bb (EV (O71 L) L 8 Bl3.w.l.u.l.l.w.r) (Gj (Ix (EV (O71 L) L 8 Bl3.w.l.u.l.l) [0,1,2,6,14,15,16] [1,3,4] n) [0,1,2,6,14,15,16] [1,3,4] K)))) .normal st9))
theorem Cg4(p1_0:List Bj)(Ai:Int)(p1_1:Ac)(C2:List Bo)(Dg:List Bool)(Al:Int)(ih:Bnn L n K p1_0 p1_1)(o8:Ay8):Bnt (p1_0.getD (Int.toNat Ai) default) p1_1 C2 Dg (p1_0.getD (Int.toNat Ai) default) (Bqn L n K p1_0 Ai Al p1_1 C2 Dg) o8=ob (Rx L Ai Al (Im L p1_0 p1_1 n) o8) (kX [.ret,.exit 0] (Bej p1_0 p1_1) K):=eE (Rx L Ai Al (fun Al Ai C2 Dg=>re (ih (Al,Ai,C2,Dg))) o8)
theorem B68(p1_0:List Bj)(p1_1:Ac):∀n,Bnn L n K p1_0 p1_1:=lE (fun _=>rfl) fun n v ih=>eE (W4 L p1_0 p1_1 (fun Al Ai C2 Dg=>re (ih (Al,Ai,C2,Dg))) v.1 v.2.1 v.2.2.1 v.2.2.2 (fun Ai C2 Dg Al=>ho (B5u L (Bqn L n K p1_0 Ai Al p1_1 C2 Dg) (p1_0.getD (Int.toNat Ai) default) p1_1 C2 Dg (p1_0.getD (Int.toNat Ai) default)) fun o8=>Cg4 L n K p1_0 Ai p1_1 C2 Dg Al ih o8))
def Bch(p1_0:List Bj)(p1_1:Ac)(k:Bk):Ay8→Prop:=fun o=>k (I o.1) [(1,(Aq p1_1)),(3,[.mp 4]),(4,[.mapO true false (.t193 o.2.1) (.t4 o.2.2)])]
def Wm [An A Ay8](L:Nat)(o9:Nat×Bc1):A:=
 (sl o9.1 [(lf (o9.2.1,o9.2.2.2.1,o9.2.2.2.2)),
 (lf (0,o9.2.2.2.1,o9.2.2.2.2))])
def Bqo:Ax:=(Av 0 (Bb (EV (O71 L) L 8 Bl3.w.r) (Dz Tryz.prog (RS Tryz.f130) k)))
theorem Cg5(p1_0:List Bj)(p1_1:Ac)(o9:Nat×Bc1):kX [.ret,.exit 0] (Bej p1_0 p1_1) (Bqo L k) o9=ob (Wm L o9) (Bch p1_0 p1_1 k):=eE (Wm L o9)
def Aa3 [An A Ay8](L:Nat)(p1_0:List Bj)(p1_1:Ac)(nx4:A):A:=
 (cn (decide ((p1_0.length:Int) > 32))
 (lf (6,[],[]))
 nx4)
def Ai5 [An A Ay8](p1_0:List Bj)(p1_1:Ac):A:=Aa3 L p1_0 p1_1 (bd (Im L p1_0 p1_1 L 0 0 [] []) fun o9=>Wm L o9)
def x0(p1_0:List Bj)(p1_1:Ac):Option Ay8:=Ai5 L p1_0 p1_1
theorem B5t(p1_0:List Bj)(p1_1:Ac):YO (O71 L) L 9 130 [lv (.t81 p1_0),I 32,.clo 131 0 [.loc 1 0,.loc 3 0]] [(1,(Aq p1_1)),(3,[.mp 4]),(4,[.mapO true false (.t193 []) (.t4 [])])] k=ob (x0 L p1_0 p1_1) (Bch p1_0 p1_1 k):=(C3 _ _ _ jn4 _ _ _ _ _ _ _).trans (eE (Aa3 L p1_0 p1_1 (ho (B68 L (Bqo L k) p1_0 p1_1 L (0,0,[],[])) fun o9=>Cg5 L k p1_0 p1_1 o9)))
def Ry [An A Int](L:Nat)(o10:Ay8):A:=
 (lf o10.1)
def Bqp(a0:Ac):Bk:=(Bz Tryz.prog (O71 L) (EI (O71 L) L 9) 1 (List.drop 4 c71.w.l.ops) ⟨[(7,.clo 131 0 [.loc 1 0,.loc 3 0]),(6,lv (.t81 a0.Links)),(5,.loc 1 3),(1,.loc 1 0),(2,I 0),(3,.loc 3 0)],[(1,(Aq a0)),(3,[.mp 4]),(4,[.mapO true false (.t193 []) (.t4 [])])],0⟩ (some 8) (fun st9=>(Bb (EV (O71 L) L 9 c71.w.r) (Cm Tryz.prog (RS Tryz.f71) kk)) .normal st9))
theorem Cg6(a0:Ac)(o10:Ay8):Bch a0.Links a0 (Bqp L kk a0) o10=ob (Ry L o10) (kQ I kk):=eE (Ry L o10)
def Ap7 [An A Int](a0:Ac):A:=(bd (x0 L a0.Links a0) fun o10=>Ry L o10)
def Abd(a0:Ac):Option Int:=Ap7 L a0
def X71:Ew:=E1 I 71 Cq (Abd L) fun a0 r h=>hF Tryz.func71 (C:=O71 L) (oS _) L (fun kk=>eE ((ho (B5t L (Bqp L kk a0) a0.Links a0) fun o10=>Cg6 L kk a0 o10))) h
def c67:=CC Tryz.f67
def c68:=CC Tryz.f68
def c39:=CC Tryz.f39
def O39:Ba:=oL [X65 L,X70 L,X71 L,Bul L,Bum L]
def Bns(p7_0:ByteArray)(p7_1:Ac)(p7_2:List ByteArray)(p7_3:List Bool)(p7_4:Ag)(p7_5:Ag)(k:Bk):Cv→Prop:=fun o=>k (I o.1) [(1,(Aq p7_1)),(13,[.mapO false false (.t9 o.2.1) (.t4 o.2.2)]),(22,(B5 p7_4)),(26,(B5 p7_5))]
def Ai3 [An A Cv](p7_0:ByteArray)(p7_1:Ac)(p7_2:List ByteArray)(p7_3:List Bool)(p7_4:Ag)(p7_5:Ag):A:=
 (bd (C9 L p7_0) fun r2=>
 (cn (r2 != 0)
 (lf (r2,p7_2,p7_3))
 (fq (p7_2.findIdx? fun b=>p7_0 == b) (fun i3=>
 (cn (p7_3.getD i3 default)
 (lf (4,p7_2,p7_3))
 (fq (p7_2.findIdx? fun b=>p7_0 == b) (fun i4=>
 (lf (0,p7_2,(p7_3.set i4 true))))
 (lf (0,(p7_2++ [p7_0]),(p7_3++ [true]))))))
 (fq (p7_2.findIdx? fun b=>p7_0 == b) (fun i5=>
 (lf (0,p7_2,(p7_3.set i5 true))))
 (lf (0,(p7_2++ [p7_0]),(p7_3++ [true])))))))
def w6(p7_0:ByteArray)(p7_1:Ac)(p7_2:List ByteArray)(p7_3:List Bool)(p7_4:Ag)(p7_5:Ag):Option Cv:=Ai3 L p7_0 p7_1 p7_2 p7_3 p7_4 p7_5
theorem B5q(p7_0:ByteArray)(p7_1:Ac)(p7_2:List ByteArray)(p7_3:List Bool)(p7_4:Ag)(p7_5:Ag):YO (O39 L) L 6 69 [.mp 13,S p7_0] [(1,(Aq p7_1)),(13,[.mapO false false (.t9 p7_2) (.t4 p7_3)]),(22,(B5 p7_4)),(26,(B5 p7_5))] k=ob (w6 L p7_0 p7_1 p7_2 p7_3 p7_4 p7_5) (Bns p7_0 p7_1 p7_2 p7_3 p7_4 p7_5 k):=(C3 _ _ _ jn4 _ _ _ _ _ _ _).trans (eE (Ai3 L p7_0 p7_1 p7_2 p7_3 p7_4 p7_5))
def Bcf(p5_0:Ag)(p5_1:Ac)(p5_2:List ByteArray)(p5_3:List Bool)(p5_4:Ag)(k:Bk):Cv→Prop:=fun o=>k (I o.1) [(1,(Aq p5_1)),(13,[.mapO false false (.t9 o.2.1) (.t4 o.2.2)]),(22,(B5 p5_4)),(26,(B5 p5_0))]
def Wj [An A Cv](p5_0:Ag)(o6:Cv):A:=
 (cn (o6.1 != 0)
 (lf (o6.1,o6.2.1,o6.2.2))
 (bd (K6 L p5_0.Type_) fun r7=>
 (cn (!r7)
 (lf (1,o6.2.1,o6.2.2))
 (bd (Si L p5_0.Type_ p5_0.N) fun r8=>
 (cn (!r8)
 (lf (2,o6.2.1,o6.2.2))
 (lf (0,o6.2.1,o6.2.2)))))))
def Bp6(p5_0:Ag)(p5_1:Ac)(p5_2:List ByteArray)(p5_3:List Bool)(p5_4:Ag):Bk:=(Bz Tryz.prog (O39 L) (EI (O39 L) L 6) 1 (List.drop 4 c98.u.l.l.ops) ⟨[(8,S p5_0.Name),(7,.loc 26 0),(6,.mp 13),(0,.mp 13),(3,.loc 26 0),(4,I 0)],[(1,(Aq p5_1)),(13,[.mapO false false (.t9 p5_2) (.t4 p5_3)]),(22,(B5 p5_4)),(26,(B5 p5_0))],23⟩ (some 9) (fun st9=>(Bb (EV (O39 L) L 6 c98.u.l.r) (Bb (EV (O39 L) L 6 c98.u.r) (Dz Tryz.prog (RS Tryz.f98) k))) .normal st9))
theorem Cgn(p5_0:Ag)(p5_1:Ac)(p5_2:List ByteArray)(p5_3:List Bool)(p5_4:Ag)(o6:Cv):Bns p5_0.Name p5_1 p5_2 p5_3 p5_4 p5_0 (Bp6 L k p5_0 p5_1 p5_2 p5_3 p5_4) o6=ob (Wj L p5_0 o6) (Bcf p5_0 p5_1 p5_2 p5_3 p5_4 k):=eE (Wj L p5_0 o6)
def Ai2 [An A Cv](p5_0:Ag)(p5_1:Ac)(p5_2:List ByteArray)(p5_3:List Bool)(p5_4:Ag):A:=(bd (w6 L p5_0.Name p5_1 p5_2 p5_3 p5_4 p5_0) fun o6=>Wj L p5_0 o6)
def Nk(p5_0:Ag)(p5_1:Ac)(p5_2:List ByteArray)(p5_3:List Bool)(p5_4:Ag):Option Cv:=Ai2 L p5_0 p5_1 p5_2 p5_3 p5_4
theorem B5p(p5_0:Ag)(p5_1:Ac)(p5_2:List ByteArray)(p5_3:List Bool)(p5_4:Ag):YO (O39 L) L 7 98 [.mp 13,.agg (B5 p5_0)] [(1,(Aq p5_1)),(13,[.mapO false false (.t9 p5_2) (.t4 p5_3)]),(22,(B5 p5_4))] k=ob (Nk L p5_0 p5_1 p5_2 p5_3 p5_4) (Bcf p5_0 p5_1 p5_2 p5_3 p5_4 k):=(C3 _ _ _ jn4 _ _ _ _ _ _ _).trans (eE ((ho (B5q L (Bp6 L k p5_0 p5_1 p5_2 p5_3 p5_4) p5_0.Name p5_1 p5_2 p5_3 p5_4 p5_0) fun o6=>Cgn L k p5_0 p5_1 p5_2 p5_3 p5_4 o6)))
def Beb(p1_0:List Ag)(p1_1:Ac)(v:Tu5):St:=⟨[(0,.any),(1,.any),(2,.clo 98 1 [.mp 13]),(6,I v.1),(14,lv (.t39 p1_0)),(15,I (p1_0.length:Int)),(16,I v.2.1)],[(1,(Aq p1_1)),(13,[.mapO false false (.t9 v.2.2.1) (.t4 v.2.2.2)])],14⟩
def Ru [An A Se](L:Nat)(Ai:Int)(Al:Int)(rec:Int→Int→List ByteArray→List Bool→A)(o9:Cv):A:=
 (cn (o9.1 != 0)
 (lf (0,o9.1,Ai,o9.2.1,o9.2.2))
 (rec Al (B6 (Ai+1)) o9.2.1 o9.2.2))
def W1 [An A Se](L:Nat)(p1_0:List Ag)(p1_1:Ac)(rec:Int→Int→List ByteArray→List Bool→A)(Al:Int)(Ai:Int)(C2:List ByteArray)(Dg:List Bool)(nx7:Int→(List ByteArray)→(List Bool)→Int→A):A:=
 (lw Ai p1_0
 (nx7 Ai C2 Dg Al)
 (lf (1,Al,Ai,C2,Dg)))
def Aac [An A Se](p1_0:List Ag)(p1_1:Ac)(rec:Int→Int→List ByteArray→List Bool→A)(Al:Int)(Ai:Int)(C2:List ByteArray)(Dg:List Bool):A:=W1 L p1_0 p1_1 rec Al Ai C2 Dg (fun Ai C2 Dg Al=>bd (Nk L (p1_0.getD (Int.toNat Ai) default) p1_1 C2 Dg (p1_0.getD (Int.toNat Ai) default)) fun o9=>Ru L Ai Al rec o9)
def Ik(L:Nat)(p1_0:List Ag)(p1_1:Ac):Nat→Int→Int→List ByteArray→List Bool→Option Se
 |0,_,_,_,_=>none
 |n+1,Al,Ai,C2,Dg=>Aac L p1_0 p1_1 (Ik L p1_0 p1_1 n) Al Ai C2 Dg
def Bnf(p1_0:List Ag)(p1_1:Ac):Prop:=LI (EV (O39 L) L 7 c97.w.l.u.l.l) [0,1,2,6,14,15,16] [1,13] (Beb p1_0 p1_1) [.ret,.exit 0] (fun n v=>Ik L p1_0 p1_1 n v.1 v.2.1 v.2.2.1 v.2.2.2) K n
def Bp7(p1_0:List Ag)(Ai:Int)(Al:Int)(p1_1:Ac)(C2:List ByteArray)(Dg:List Bool):Bk:=(Bz Tryz.prog (O39 L) (EI (O39 L) L 7) 1 (List.drop 3 c97.w.l.u.l.l.w.l.l.u.l.ops) ⟨[(21,.agg (B5 (p1_0.getD (Int.toNat Ai) default))),(20,.clo 98 1 [.mp 13]),(2,.clo 98 1 [.mp 13]),(6,I Al),(8,.loc 22 0),(14,lv (.t39 p1_0)),(15,I (p1_0.length:Int)),(16,I Ai),(17,B (decide (Ai < (p1_0.length:Int)))),(18,.ref (B5 (p1_0.getD (Int.toNat Ai) default))),(19,.agg (B5 (p1_0.getD (Int.toNat Ai) default)))],[(1,(Aq p1_1)),(13,[.mapO false false (.t9 C2) (.t4 Dg)]),(22,(B5 (p1_0.getD (Int.toNat Ai) default)))],14⟩ (some 22) (fun st9=>(Bb (EV (O39 L) L 7 c97.w.l.u.l.l.w.l.l.u.r) (Av 1 (Bb (EV (O39 L) L 7 c97.w.l.u.l.l.w.r) (Gj (Ix (EV (O39 L) L 7 c97.w.l.u.l.l) [0,1,2,6,14,15,16] [1,13] n) [0,1,2,6,14,15,16] [1,13] K)))) .normal st9))
theorem Cgo(p1_0:List Ag)(Ai:Int)(p1_1:Ac)(C2:List ByteArray)(Dg:List Bool)(Al:Int)(ih:Bnf L n K p1_0 p1_1)(o9:Cv):Bcf (p1_0.getD (Int.toNat Ai) default) p1_1 C2 Dg (p1_0.getD (Int.toNat Ai) default) (Bp7 L n K p1_0 Ai Al p1_1 C2 Dg) o9=ob (Ru L Ai Al (Ik L p1_0 p1_1 n) o9) (kX [.ret,.exit 0] (Beb p1_0 p1_1) K):=eE (Ru L Ai Al (fun Al Ai C2 Dg=>re (ih (Al,Ai,C2,Dg))) o9)
theorem B6m(p1_0:List Ag)(p1_1:Ac):∀n,Bnf L n K p1_0 p1_1:=lE (fun _=>rfl) fun n v ih=>eE (W1 L p1_0 p1_1 (fun Al Ai C2 Dg=>re (ih (Al,Ai,C2,Dg))) v.1 v.2.1 v.2.2.1 v.2.2.2 (fun Ai C2 Dg Al=>ho (B5p L (Bp7 L n K p1_0 Ai Al p1_1 C2 Dg) (p1_0.getD (Int.toNat Ai) default) p1_1 C2 Dg (p1_0.getD (Int.toNat Ai) default)) fun o9=>Cgo L n K p1_0 Ai p1_1 C2 Dg Al ih o9))
def Bce(p1_0:List Ag)(p1_1:Ac)(k:Bk):Cv→Prop:=fun o=>k (I o.1) [(1,(Aq p1_1)),(13,[.mapO false false (.t9 o.2.1) (.t4 o.2.2)])]
def Aak [An A Cv](L:Nat)(o10:Nat×Tu5):A:=
 (sl o10.1 [(lf (o10.2.1,o10.2.2.2.1,o10.2.2.2.2)),
 (lf (0,o10.2.2.2.1,o10.2.2.2.2))])
def Bp8:Ax:=(Av 0 (Bb (EV (O39 L) L 7 c97.w.r) (Dz Tryz.prog (RS Tryz.f97) k)))
theorem Cgp(p1_0:List Ag)(p1_1:Ac)(o10:Nat×Tu5):kX [.ret,.exit 0] (Beb p1_0 p1_1) (Bp8 L k) o10=ob (Aak L o10) (Bce p1_0 p1_1 k):=eE (Aak L o10)
def Ajx [An A Cv](L:Nat)(p1_0:List Ag)(p1_1:Ac)(nx8:A):A:=
 (cn (decide ((p1_0.length:Int) > 32))
 (lf (6,[],[]))
 nx8)
def Avq [An A Cv](p1_0:List Ag)(p1_1:Ac):A:=Ajx L p1_0 p1_1 (bd (Ik L p1_0 p1_1 L 0 0 [] []) fun o10=>Aak L o10)
def w5(p1_0:List Ag)(p1_1:Ac):Option Cv:=Avq L p1_0 p1_1
theorem B5o(p1_0:List Ag)(p1_1:Ac):YO (O39 L) L 8 97 [lv (.t39 p1_0),I 32,.clo 98 1 [.mp 13]] [(1,(Aq p1_1)),(13,[.mapO false false (.t9 []) (.t4 [])])] k=ob (w5 L p1_0 p1_1) (Bce p1_0 p1_1 k):=(C3 _ _ _ jn4 _ _ _ _ _ _ _).trans (eE (Ajx L p1_0 p1_1 (ho (B6m L (Bp8 L k) p1_0 p1_1 L (0,0,[],[])) fun o10=>Cgp L k p1_0 p1_1 o10)))
def Be4(p14_0:ByteArray)(p14_1:Ac)(p14_2:List ByteArray)(p14_3:List Bool)(p14_4:List ByteArray)(p14_5:List Bool)(p14_6:Aa)(p14_7:Aa)(k:Bk):Cv→Prop:=fun o=>k (I o.1) [(1,(Aq p14_1)),(5,[.mp 24]),(13,[.mapO false false (.t9 p14_2) (.t4 p14_3)]),(24,[.mapO false false (.t9 o.2.1) (.t4 o.2.2)]),(33,(Af p14_6)),(36,(Af p14_7))]
def Ag2 [An A Cv](p14_0:ByteArray)(p14_1:Ac)(p14_2:List ByteArray)(p14_3:List Bool)(p14_4:List ByteArray)(p14_5:List Bool)(p14_6:Aa)(p14_7:Aa):A:=
 (bd (C9 L p14_0) fun r12=>
 (cn (r12 != 0)
 (lf (r12,p14_4,p14_5))
 (fq (p14_4.findIdx? fun b=>p14_0 == b) (fun i13=>
 (cn (p14_5.getD i13 default)
 (lf (4,p14_4,p14_5))
 (fq (p14_4.findIdx? fun b=>p14_0 == b) (fun i14=>
 (lf (0,p14_4,(p14_5.set i14 true))))
 (lf (0,(p14_4++ [p14_0]),(p14_5++ [true]))))))
 (fq (p14_4.findIdx? fun b=>p14_0 == b) (fun i15=>
 (lf (0,p14_4,(p14_5.set i15 true))))
 (lf (0,(p14_4++ [p14_0]),(p14_5++ [true])))))))
def d9(p14_0:ByteArray)(p14_1:Ac)(p14_2:List ByteArray)(p14_3:List Bool)(p14_4:List ByteArray)(p14_5:List Bool)(p14_6:Aa)(p14_7:Aa):Option Cv:=Ag2 L p14_0 p14_1 p14_2 p14_3 p14_4 p14_5 p14_6 p14_7
theorem Bxe(p14_0:ByteArray)(p14_1:Ac)(p14_2:List ByteArray)(p14_3:List Bool)(p14_4:List ByteArray)(p14_5:List Bool)(p14_6:Aa)(p14_7:Aa):YO (O39 L) L 7 69 [.mp 24,S p14_0] [(1,(Aq p14_1)),(5,[.mp 24]),(13,[.mapO false false (.t9 p14_2) (.t4 p14_3)]),(24,[.mapO false false (.t9 p14_4) (.t4 p14_5)]),(33,(Af p14_6)),(36,(Af p14_7))] k=ob (d9 L p14_0 p14_1 p14_2 p14_3 p14_4 p14_5 p14_6 p14_7) (Be4 p14_0 p14_1 p14_2 p14_3 p14_4 p14_5 p14_6 p14_7 k):=(C3 _ _ _ jn4 _ _ _ _ _ _ _).trans (eE (Ag2 L p14_0 p14_1 p14_2 p14_3 p14_4 p14_5 p14_6 p14_7))
def A6z(p12_0:Aa)(p12_1:Ac)(p12_2:List ByteArray)(p12_3:List Bool)(p12_4:List ByteArray)(p12_5:List Bool)(p12_6:Aa)(k:Bk):Cv→Prop:=fun o=>k (I o.1) [(1,(Aq p12_1)),(5,[.mp 24]),(13,[.mapO false false (.t9 p12_2) (.t4 p12_3)]),(24,[.mapO false false (.t9 o.2.1) (.t4 o.2.2)]),(33,(Af p12_6)),(36,(Af p12_0))]
def Ul [An A Cv](p12_0:Aa)(o16:Cv):A:=
 (cn (o16.1 != 0)
 (lf (o16.1,o16.2.1,o16.2.2))
 (bd (Adt L p12_0) fun r17=>
 (lf (r17,o16.2.1,o16.2.2))))
def Bh3(p12_0:Aa)(p12_1:Ac)(p12_2:List ByteArray)(p12_3:List Bool)(p12_4:List ByteArray)(p12_5:List Bool)(p12_6:Aa):Bk:=(Bz Tryz.prog (O39 L) (EI (O39 L) L 7) 1 (List.drop 4 c68.u.l.l.ops) ⟨[(7,S p12_0.Name),(6,.loc 36 0),(5,.mp 24),(1,.loc 5 0),(2,.loc 36 0),(3,I 0)],[(1,(Aq p12_1)),(5,[.mp 24]),(13,[.mapO false false (.t9 p12_2) (.t4 p12_3)]),(24,[.mapO false false (.t9 p12_4) (.t4 p12_5)]),(33,(Af p12_6)),(36,(Af p12_0))],34⟩ (some 8) (fun st9=>(Bb (EV (O39 L) L 7 c68.u.l.r) (Bb (EV (O39 L) L 7 c68.u.r) (Dz Tryz.prog (RS Tryz.f68) k))) .normal st9))
theorem B9v(p12_0:Aa)(p12_1:Ac)(p12_2:List ByteArray)(p12_3:List Bool)(p12_4:List ByteArray)(p12_5:List Bool)(p12_6:Aa)(o16:Cv):Be4 p12_0.Name p12_1 p12_2 p12_3 p12_4 p12_5 p12_6 p12_0 (Bh3 L k p12_0 p12_1 p12_2 p12_3 p12_4 p12_5 p12_6) o16=ob (Ul L p12_0 o16) (A6z p12_0 p12_1 p12_2 p12_3 p12_4 p12_5 p12_6 k):=eE (Ul L p12_0 o16)
def Ag1 [An A Cv](p12_0:Aa)(p12_1:Ac)(p12_2:List ByteArray)(p12_3:List Bool)(p12_4:List ByteArray)(p12_5:List Bool)(p12_6:Aa):A:=(bd (d9 L p12_0.Name p12_1 p12_2 p12_3 p12_4 p12_5 p12_6 p12_0) fun o16=>Ul L p12_0 o16)
def Lr(p12_0:Aa)(p12_1:Ac)(p12_2:List ByteArray)(p12_3:List Bool)(p12_4:List ByteArray)(p12_5:List Bool)(p12_6:Aa):Option Cv:=Ag1 L p12_0 p12_1 p12_2 p12_3 p12_4 p12_5 p12_6
theorem Bxd(p12_0:Aa)(p12_1:Ac)(p12_2:List ByteArray)(p12_3:List Bool)(p12_4:List ByteArray)(p12_5:List Bool)(p12_6:Aa):YO (O39 L) L 8 68 [.agg (Af p12_0),.loc 5 0] [(1,(Aq p12_1)),(5,[.mp 24]),(13,[.mapO false false (.t9 p12_2) (.t4 p12_3)]),(24,[.mapO false false (.t9 p12_4) (.t4 p12_5)]),(33,(Af p12_6))] k=ob (Lr L p12_0 p12_1 p12_2 p12_3 p12_4 p12_5 p12_6) (A6z p12_0 p12_1 p12_2 p12_3 p12_4 p12_5 p12_6 k):=(C3 _ _ _ jn4 _ _ _ _ _ _ _).trans (eE ((ho (Bxe L (Bh3 L k p12_0 p12_1 p12_2 p12_3 p12_4 p12_5 p12_6) p12_0.Name p12_1 p12_2 p12_3 p12_4 p12_5 p12_6 p12_0) fun o16=>B9v L k p12_0 p12_1 p12_2 p12_3 p12_4 p12_5 p12_6 o16)))
def Bec(p8_0:List Aa)(p8_1:Ac)(p8_2:List ByteArray)(p8_3:List Bool)(v:Tu5):St:=⟨[(0,.any),(1,.any),(2,.clo 68 0 [.loc 5 0]),(6,I v.1),(14,lv (.t53 p8_0)),(15,I (p8_0.length:Int)),(16,I v.2.1)],[(1,(Aq p8_1)),(5,[.mp 24]),(13,[.mapO false false (.t9 p8_2) (.t4 p8_3)]),(24,[.mapO false false (.t9 v.2.2.1) (.t4 v.2.2.2)])],25⟩
def P7 [An A Se](L:Nat)(Bu:Int)(Bl:Int)(rec:Int→Int→List ByteArray→List Bool→A)(o18:Cv):A:=
 (cn (o18.1 != 0)
 (lf (0,o18.1,Bu,o18.2.1,o18.2.2))
 (rec Bl (B6 (Bu+1)) o18.2.1 o18.2.2))
def Uy [An A Se](L:Nat)(p8_0:List Aa)(p8_1:Ac)(p8_2:List ByteArray)(p8_3:List Bool)(rec:Int→Int→List ByteArray→List Bool→A)(Bl:Int)(Bu:Int)(Iz:List ByteArray)(Ms:List Bool)(nx16:Int→(List ByteArray)→(List Bool)→Int→A):A:=
 (lw Bu p8_0
 (nx16 Bu Iz Ms Bl)
 (lf (1,Bl,Bu,Iz,Ms)))
def Aad [An A Se](p8_0:List Aa)(p8_1:Ac)(p8_2:List ByteArray)(p8_3:List Bool)(rec:Int→Int→List ByteArray→List Bool→A)(Bl:Int)(Bu:Int)(Iz:List ByteArray)(Ms:List Bool):A:=Uy L p8_0 p8_1 p8_2 p8_3 rec Bl Bu Iz Ms (fun Bu Iz Ms Bl=>bd (Lr L (p8_0.getD (Int.toNat Bu) default) p8_1 p8_2 p8_3 Iz Ms (p8_0.getD (Int.toNat Bu) default)) fun o18=>P7 L Bu Bl rec o18)
def Il(L:Nat)(p8_0:List Aa)(p8_1:Ac)(p8_2:List ByteArray)(p8_3:List Bool):Nat→Int→Int→List ByteArray→List Bool→Option Se
 |0,_,_,_,_=>none
 |n+1,Bl,Bu,Iz,Ms=>Aad L p8_0 p8_1 p8_2 p8_3 (Il L p8_0 p8_1 p8_2 p8_3 n) Bl Bu Iz Ms
def Bng(p8_0:List Aa)(p8_1:Ac)(p8_2:List ByteArray)(p8_3:List Bool):Prop:=LI (EV (O39 L) L 8 c67.w.l.u.l.l) [0,1,2,6,14,15,16] [1,5,13,24] (Bec p8_0 p8_1 p8_2 p8_3) [.ret,.exit 0] (fun n v=>Il L p8_0 p8_1 p8_2 p8_3 n v.1 v.2.1 v.2.2.1 v.2.2.2) K n
def Bh4(p8_0:List Aa)(Bu:Int)(Bl:Int)(p8_1:Ac)(p8_2:List ByteArray)(p8_3:List Bool)(Iz:List ByteArray)(Ms:List Bool):Bk:=(Bz Tryz.prog (O39 L) (EI (O39 L) L 8) 1 (List.drop 3 c67.w.l.u.l.l.w.l.l.u.l.ops) ⟨[(21,.agg (Af (p8_0.getD (Int.toNat Bu) default))),(20,.clo 68 0 [.loc 5 0]),(2,.clo 68 0 [.loc 5 0]),(6,I Bl),(8,.loc 33 0),(14,lv (.t53 p8_0)),(15,I (p8_0.length:Int)),(16,I Bu),(17,B (decide (Bu < (p8_0.length:Int)))),(18,.ref (Af (p8_0.getD (Int.toNat Bu) default))),(19,.agg (Af (p8_0.getD (Int.toNat Bu) default)))],[(1,(Aq p8_1)),(5,[.mp 24]),(13,[.mapO false false (.t9 p8_2) (.t4 p8_3)]),(24,[.mapO false false (.t9 Iz) (.t4 Ms)]),(33,(Af (p8_0.getD (Int.toNat Bu) default)))],25⟩ (some 22) (fun st9=>(Bb (EV (O39 L) L 8 c67.w.l.u.l.l.w.l.l.u.r) (Av 1 (Bb (EV (O39 L) L 8 c67.w.l.u.l.l.w.r) (Gj (Ix (EV (O39 L) L 8 c67.w.l.u.l.l) [0,1,2,6,14,15,16] [1,5,13,24] n) [0,1,2,6,14,15,16] [1,5,13,24] K)))) .normal st9))
theorem B9w(p8_0:List Aa)(Bu:Int)(p8_1:Ac)(p8_2:List ByteArray)(p8_3:List Bool)(Iz:List ByteArray)(Ms:List Bool)(Bl:Int)(ih:Bng L n K p8_0 p8_1 p8_2 p8_3)(o18:Cv):A6z (p8_0.getD (Int.toNat Bu) default) p8_1 p8_2 p8_3 Iz Ms (p8_0.getD (Int.toNat Bu) default) (Bh4 L n K p8_0 Bu Bl p8_1 p8_2 p8_3 Iz Ms) o18=ob (P7 L Bu Bl (Il L p8_0 p8_1 p8_2 p8_3 n) o18) (kX [.ret,.exit 0] (Bec p8_0 p8_1 p8_2 p8_3) K):=eE (P7 L Bu Bl (fun Bl Bu Iz Ms=>re (ih (Bl,Bu,Iz,Ms))) o18)
theorem B6n(p8_0:List Aa)(p8_1:Ac)(p8_2:List ByteArray)(p8_3:List Bool):∀n,Bng L n K p8_0 p8_1 p8_2 p8_3:=lE (fun _=>rfl) fun n v ih=>eE (Uy L p8_0 p8_1 p8_2 p8_3 (fun Bl Bu Iz Ms=>re (ih (Bl,Bu,Iz,Ms))) v.1 v.2.1 v.2.2.1 v.2.2.2 (fun Bu Iz Ms Bl=>ho (Bxd L (Bh4 L n K p8_0 Bu Bl p8_1 p8_2 p8_3 Iz Ms) (p8_0.getD (Int.toNat Bu) default) p8_1 p8_2 p8_3 Iz Ms (p8_0.getD (Int.toNat Bu) default)) fun o18=>B9w L n K p8_0 Bu p8_1 p8_2 p8_3 Iz Ms Bl ih o18))
def Bcg(p8_0:List Aa)(p8_1:Ac)(p8_2:List ByteArray)(p8_3:List Bool)(k:Bk):Cv→Prop:=fun o=>k (I o.1) [(1,(Aq p8_1)),(5,[.mp 24]),(13,[.mapO false false (.t9 p8_2) (.t4 p8_3)]),(24,[.mapO false false (.t9 o.2.1) (.t4 o.2.2)])]
def m3 [An A Cv](L:Nat)(o19:Nat×Tu5):A:=
 (sl o19.1 [(lf (o19.2.1,o19.2.2.2.1,o19.2.2.2.2)),
 (lf (0,o19.2.2.2.1,o19.2.2.2.2))])
def Bh5:Ax:=(Av 0 (Bb (EV (O39 L) L 8 c67.w.r) (Dz Tryz.prog (RS Tryz.f67) k)))
theorem B9x(p8_0:List Aa)(p8_1:Ac)(p8_2:List ByteArray)(p8_3:List Bool)(o19:Nat×Tu5):kX [.ret,.exit 0] (Bec p8_0 p8_1 p8_2 p8_3) (Bh5 L k) o19=ob (m3 L o19) (Bcg p8_0 p8_1 p8_2 p8_3 k):=eE (m3 L o19)
def Ahf [An A Cv](L:Nat)(p8_0:List Aa)(p8_1:Ac)(p8_2:List ByteArray)(p8_3:List Bool)(nx17:A):A:=
 (cn (decide ((p8_0.length:Int) > 16))
 (lf (6,[],[]))
 nx17)
def Avr [An A Cv](p8_0:List Aa)(p8_1:Ac)(p8_2:List ByteArray)(p8_3:List Bool):A:=Ahf L p8_0 p8_1 p8_2 p8_3 (bd (Il L p8_0 p8_1 p8_2 p8_3 L 0 0 [] []) fun o19=>m3 L o19)
def w7(p8_0:List Aa)(p8_1:Ac)(p8_2:List ByteArray)(p8_3:List Bool):Option Cv:=Avr L p8_0 p8_1 p8_2 p8_3
theorem B5r(p8_0:List Aa)(p8_1:Ac)(p8_2:List ByteArray)(p8_3:List Bool):YO (O39 L) L 9 67 [lv (.t53 p8_0),I 16,.clo 68 0 [.loc 5 0]] [(1,(Aq p8_1)),(5,[.mp 24]),(13,[.mapO false false (.t9 p8_2) (.t4 p8_3)]),(24,[.mapO false false (.t9 []) (.t4 [])])] k=ob (w7 L p8_0 p8_1 p8_2 p8_3) (Bcg p8_0 p8_1 p8_2 p8_3 k):=(C3 _ _ _ jn4 _ _ _ _ _ _ _).trans (eE (Ahf L p8_0 p8_1 p8_2 p8_3 (ho (B6n L (Bh5 L k) p8_0 p8_1 p8_2 p8_3 L (0,0,[],[])) fun o19=>B9x L k p8_0 p8_1 p8_2 p8_3 o19)))
def P8 [An A Int](a0:Ac)(o20:Cv):A:=
 (cn (o20.1 != 0)
 (lf o20.1)
 (bd (Abd L a0) fun r21=>
 (lf r21)))
def Bh6(a0:Ac)(o11:Cv):Bk:=(Bz Tryz.prog (O39 L) (EI (O39 L) L 9) 1 (List.drop 4 c39.x.u.l.ops) ⟨[(27,.clo 68 0 [.loc 5 0]),(26,lv (.t53 a0.Sites)),(25,.loc 1 2),(1,.loc 1 0),(2,I 0),(5,.loc 5 0)],[(1,(Aq a0)),(5,[.mp 24]),(13,[.mapO false false (.t9 o11.2.1) (.t4 o11.2.2)]),(24,[.mapO false false (.t9 []) (.t4 [])])],0⟩ (some 28) (fun st9=>(Bb (EV (O39 L) L 9 c39.x.u.r) (Cm Tryz.prog (RS Tryz.f39) kk)) .normal st9))
theorem B9y(a0:Ac)(o11:Cv)(o20:Cv):Bcg a0.Sites a0 o11.2.1 o11.2.2 (Bh6 L kk a0 o11) o20=ob (P8 L a0 o20) (kQ I kk):=eE (P8 L a0 o20)
def Uz [An A Int](L:Nat)(a0:Ac)(o11:Cv)(nx18:Cv→A):A:=
 (cn (o11.1 != 0)
 (lf o11.1)
 (cn ((a0.Sites.length:Int) == 0)
 (lf 7)
 (nx18 o11)))
def Wk [An A Int](a0:Ac)(o11:Cv):A:=Uz L a0 o11 (fun o11=>bd (w7 L a0.Sites a0 o11.2.1 o11.2.2) fun o20=>P8 L a0 o20)
def Bp9(a0:Ac):Bk:=(Bz Tryz.prog (O39 L) (EI (O39 L) L 8) 1 (List.drop 4 c66.u.l.ops) ⟨[(7,.clo 98 1 [.mp 13]),(6,.mp 13),(5,lv (.t39 a0.Params)),(0,.mp 13),(1,lv (.t39 a0.Params)),(4,I 0)],[(1,(Aq a0)),(13,[.mapO false false (.t9 []) (.t4 [])])],14⟩ (some 8) (fun st9=>(Bb (EV (O39 L) L 8 c66.u.r) (Dz Tryz.prog (RS Tryz.f66) (Bz Tryz.prog (O39 L) (EI (O39 L) L 9) 1 (List.drop 4 c39.w.l.l.ops) ⟨[(15,lv (.t39 a0.Params)),(14,.loc 1 1),(13,.mp 13),(1,.loc 1 0),(2,I 0)],[(13,[.mapO false false (.t9 []) (.t4 [])]),(1,(Aq a0))],0⟩ (some 16) (fun st9=>(Bb (EV (O39 L) L 9 c39.w.l.r) (Bb (EV (O39 L) L 9 c39.w.r) (Cm Tryz.prog (RS Tryz.f39) kk))) .normal st9)))) .normal st9))
theorem Cgq(a0:Ac)(o11:Cv):Bce a0.Params a0 (Bp9 L kk a0) o11=ob (Wk L a0 o11) (kQ I kk):=eE (Uz L a0 o11 (fun o11=>ho (B5r L (Bh6 L kk a0 o11) a0.Sites a0 o11.2.1 o11.2.2) fun o20=>B9y L kk a0 o11 o20))
def W2 [An A Int](a0:Ac)(nx9:A):A:=
 (bd (C9 L a0.Name) fun r1=>
 (cn (r1 != 0)
 (lf r1)
 nx9))
def Ap6 [An A Int](a0:Ac):A:=W2 L a0 (bd (w5 L a0.Params a0) fun o11=>Wk L a0 o11)
def Abc(a0:Ac):Option Int:=Ap6 L a0
def X39:Ew:=E1 I 39 Cq (Abc L) fun a0 r h=>hF Tryz.func39 (C:=O39 L) (oS _) L (fun kk=>eE (W2 L a0 (ho (B5o L (Bp9 L kk a0) a0.Params a0) fun o11=>Cgq L kk a0 o11))) h
def Cej:=CC Tryz.f223
def B3o(L:Nat):Ba:=oL []
def Cfc:Tu6→Prop:=fun x=>kk ((fun(x:Tu6)=> .tup [I x.1,B x.2]) x)
def Bkr(a0:List Ao)(a1:ByteArray)(v:Tu7):St:=⟨[(0,lv (.t127 a0)),(1,S a1),(4,I v.1),(5,B v.2.1),(6,I v.2.2)],[],0⟩
def P3 [An A (Nat×Tu7)](L:Nat)(a0:List Ao)(a1:ByteArray)(rec:Int→Bool→Int→A)(Ak:Int)(Ai:Bool)(Bp:Int):A:=
 (cn (decide (Bp≥0))
 (gi Bp a0
 (cn (((a0.getD (Int.toNat Bp) default).Name).toList == a1.toList)
 (gi Bp a0
 (lf (0,(((a0.getD (Int.toNat Bp) default).Type_),true,Bp))))
 (rec Ak Ai (B6 (Bp - 1)))))
 (lf (1,Ak,Ai,Bp)))
def Jc(L:Nat)(a0:List Ao)(a1:ByteArray):Nat→Int→Bool→Int→Option (Nat×Tu7)
 |0,_,_,_=>none
 |n+1,Ak,Ai,Bp=>P3 L a0 a1 (Jc L a0 a1 n) Ak Ai Bp
theorem By9(a0:List Ao)(a1:ByteArray):LP (EV (B3o L) L 9 Cej.u.l.u.l.l) [0,1,4,5,6] [] (Bkr a0 a1) [.ret,.exit 0] (fun n v=>Jc L a0 a1 n v.1 v.2.1 v.2.2) K:=lE (fun _=>rfl) fun n v ih=>eE (P3 L a0 a1 (fun Ak Ai Bp=>re (ih (Ak,Ai,Bp))) v.1 v.2.1 v.2.2)
def Qe [An A Tu6](L:Nat)(o1:Nat×Tu7):A:=
 (sl o1.1 [(lf (o1.2.1,o1.2.2.1)),
 (lf (0,false))])
def Bhj:Ax:=(Av 0 (Bb (EV (B3o L) L 9 Cej.u.r) (Cm Tryz.prog (RS Tryz.f223) kk)))
theorem B9b(a0:List Ao)(a1:ByteArray)(o1:Nat×Tu7):kX [.ret,.exit 0] (Bkr a0 a1) (Bhj L kk) o1=ob (Qe L o1) (Cfc kk):=eE (Qe L o1)
def Amy [An A Tu6](a0:List Ao)(a1:ByteArray):A:=(bd (Jc L a0 a1 L 0 false (B6 ((a0.length:Int) - 1))) fun o1=>Qe L o1)
def Nx(a0:List Ao)(a1:ByteArray):Option Tu6:=Amy L a0 a1
def Bn4:Ew:=E2 (fun(x:Tu6)=> .tup [I x.1,B x.2]) 223 A2e cS (Nx L) fun a0 a1 r h=>hF Tryz.func223 (C:=B3o L) (oS _) L (fun kk=>eE ((ho (By9 L (Bhj L kk) a0 a1 L (0,false,(B6 ((a0.length:Int) - 1)))) fun o1=>B9b L kk a0 a1 o1))) h
def Buw:=CC Tryz.f195
def Bnz:Ba:=oL [Bn4 L]
def B11:Tu6→Prop:=fun x=>kk ((fun(x:Tu6)=> .tup [I x.1,B x.2]) x)
def Bkj(a1:ByteArray)(a0:Au)(v:Tu7):St:=⟨[(0,.any),(1,S a1),(2,.loc 2 0),(4,I v.1),(5,B v.2.1),(6,.any),(7,.any),(11,.any),(23,lv (.t39 a0.Site.Vars)),(24,I (a0.Site.Vars.length:Int)),(25,I v.2.2),(39,.any)],[(2,(Nj a0))],0⟩
def V9 [An A (Nat×Tu7)](L:Nat)(a1:ByteArray)(a0:Au)(rec:Int→Bool→Int→A)(Aj:Int)(Ak:Bool)(Zq:Int):A:=
 (lw Zq a0.Site.Vars
 (cn (((a0.Site.Vars.getD (Int.toNat Zq) default).Name).toList == a1.toList)
 (lf (0,(((a0.Site.Vars.getD (Int.toNat Zq) default).Type_),true,Zq)))
 (rec Aj Ak (B6 (Zq+1))))
 (lf (1,Aj,Ak,Zq)))
def Kt(L:Nat)(a1:ByteArray)(a0:Au):Nat→Int→Bool→Int→Option (Nat×Tu7)
 |0,_,_,_=>none
 |n+1,Aj,Ak,Zq=>V9 L a1 a0 (Kt L a1 a0 n) Aj Ak Zq
theorem By1(a1:ByteArray)(a0:Au):LP (EV (Bnz L) L 9 Buw.w.l.u.l.l) [0,1,2,4,5,6,7,11,23,24,25,39] [2] (Bkj a1 a0) [.ret,.exit 0] (fun n v=>Kt L a1 a0 n v.1 v.2.1 v.2.2) K:=lE (fun _=>rfl) fun n v ih=>eE (V9 L a1 a0 (fun Aj Ak Zq=>re (ih (Aj,Ak,Zq))) v.1 v.2.1 v.2.2)
def Bkk(a1:ByteArray)(a0:Au)(v:Tu7):St:=⟨[(0,.any),(1,S a1),(2,.any),(4,I v.1),(5,B v.2.1),(6,.any),(7,.any),(9,.any),(25,.any),(37,lv (.t39 a0.Params)),(38,I (a0.Params.length:Int)),(39,I v.2.2)],[(2,(Nj a0))],0⟩
def Wa [An A (Nat×Tu7)](L:Nat)(a1:ByteArray)(a0:Au)(rec:Int→Bool→Int→A)(Bv:Int)(It:Bool)(Xo:Int):A:=
 (lw Xo a0.Params
 (cn (((a0.Params.getD (Int.toNat Xo) default).Name).toList == a1.toList)
 (lf (0,(((a0.Params.getD (Int.toNat Xo) default).Type_),true,Xo)))
 (rec Bv It (B6 (Xo+1))))
 (lf (1,Bv,It,Xo)))
def Ku(L:Nat)(a1:ByteArray)(a0:Au):Nat→Int→Bool→Int→Option (Nat×Tu7)
 |0,_,_,_=>none
 |n+1,Bv,It,Xo=>Wa L a1 a0 (Ku L a1 a0 n) Bv It Xo
theorem By2(a1:ByteArray)(a0:Au):LP (EV (Bnz L) L 9 Buw.w.u.l.u.l.l) [0,1,2,4,5,6,7,9,25,37,38,39] [2] (Bkk a1 a0) [.ret,.exit 2] (fun n v=>Ku L a1 a0 n v.1 v.2.1 v.2.2) K:=lE (fun _=>rfl) fun n v ih=>eE (Wa L a1 a0 (fun Bv It Xo=>re (ih (Bv,It,Xo))) v.1 v.2.1 v.2.2)
def R9 [An A Tu6](L:Nat)(o3:Nat×Tu7):A:=
 (sl o3.1 [(lf (o3.2.1,o3.2.2.1)),
 (lf (0,false))])
def Bhb:Ax:=(Av 2 (Bb (EV (Bnz L) L 9 Buw.w.u.r) (Cm Tryz.prog (RS Tryz.f195) kk)))
theorem B83(a1:ByteArray)(a0:Au)(o3:Nat×Tu7):kX [.ret,.exit 2] (Bkk a1 a0) (Bhb L kk) o3=ob (R9 L o3) (B11 kk):=eE (R9 L o3)
def Xf [An A Tu6](L:Nat)(a1:ByteArray)(a0:Au)(o2:Nat×Tu7)(nx2:(Nat×Tu7)→A):A:=
 (sl o2.1 [(lf (o2.2.1,o2.2.2.1)),
 (nx2 o2)])
def Wx [An A Tu6](a1:ByteArray)(a0:Au)(o2:Nat×Tu7):A:=Xf L a1 a0 o2 (fun o2=>bd (Ku L a1 a0 L o2.2.1 o2.2.2.1 0) fun o3=>R9 L o3)
def Bha:Ax:=(Av 0 (Bb (EV (Bnz L) L 9 Buw.w.r) (Cm Tryz.prog (RS Tryz.f195) kk)))
theorem B82(a1:ByteArray)(a0:Au)(o2:Nat×Tu7):kX [.ret,.exit 0] (Bkj a1 a0) (Bha L kk) o2=ob (Wx L a1 a0 o2) (B11 kk):=eE (Xf L a1 a0 o2 (fun o2=>ho (By2 L (Bhb L kk) a1 a0 L (o2.2.1,o2.2.2.1,0)) fun o3=>B83 L kk a1 a0 o3))
def Xe [An A Tu6](a0:Au)(a1:ByteArray)(nx1:A):A:=
 (bd (Nx L a0.Locals a1) fun r1=>
 (cn r1.2
 (lf (r1.1,true))
 nx1))
def Aqb [An A Tu6](a0:Au)(a1:ByteArray):A:=Xe L a0 a1 (bd (Kt L a1 a0 L 0 false 0) fun o2=>Wx L a1 a0 o2)
def Abg(a0:Au)(a1:ByteArray):Option Tu6:=Aqb L a0 a1
def B4c:Ew:=E2 (fun(x:Tu6)=> .tup [I x.1,B x.2]) 195 E9 cS (Abg L) fun a0 a1 r h=>hF Tryz.func195 (C:=Bnz L) (oS _) L (fun kk=>eE (Xe L a0 a1 (ho (By1 L (Bha L kk) a1 a0 L (0,false,0)) fun o2=>B82 L kk a1 a0 o2))) h
end
end Go.Proofs.YtofcpkmnhmnfcaaGreatR.Ev
