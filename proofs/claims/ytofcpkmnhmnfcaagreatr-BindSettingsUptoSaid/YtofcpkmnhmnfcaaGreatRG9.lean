import Derived.Test.YtofcpkmnhmnfcaaGreatRG3
import Derived.Test.YtofcpkmnhmnfcaaGreatRG4
import Derived.Test.YtofcpkmnhmnfcaaGreatRG7
import Derived.Test.YtofcpkmnhmnfcaaGreatRG8
namespace Go.Proofs.YtofcpkmnhmnfcaaGreatR.Ev
open Go An
set_option maxRecDepth 100000
set_option maxHeartbeats 4000000
set_option linter.unusedVariables false
set_option linter.unusedSimpArgs false
set_option linter.unnecessarySimpa false
noncomputable section
variable {A:Type} (L n:Nat) (kk:Cz) (K:Ax) (k:Bk)
def Buh(F:Am→(List Ad)→Option Int):Prop:=∀y0 y1 r,F y0 y1=some r→Ho Tryz.prog 73 [Dl.en y0,Tw.en y1] I r
def c73:=CC Tryz.f73
def O73(H6:Am→(List Ad)→Option Int)(L:Nat):Ba:=(orc 73 (A2 I Dl Tw H6) (oL [B3z L]))
theorem s73(H6:Am→(List Ad)→Option Int)(B5m:Buh H6)(L:Nat):Dm Tryz.prog (O73 H6 L):=(Dt (a2 _ B5m) (oS [B3z L]))
def Bs1(a0:Am)(a1:List Ad)(v:Co):St:=⟨[(0,.ref (Ij a0)),(1,.any),(4,I v.1),(10,lv (.t96 a1)),(11,I (a1.length:Int)),(12,I v.2)],[],0⟩
def La [An A B7](H6:Am→(List Ad)→Option Int)(L:Nat)(a0:Am)(a1:List Ad)(rec:Int→Int→A)(C4:Int)(Lm:Int):A:=
 (lw Lm a1
 (bd (Li L a0 (Ad.cp (a1.getD (Int.toNat Lm) default))) fun r1=>
 (cn (r1 != 0)
 (lf (0,r1,Lm))
 (bd (H6 a0 ((a1.getD (Int.toNat Lm) default).Body)) fun r2=>
 (cn (r2 != 0)
 (lf (0,r2,Lm))
 (bd (H6 a0 ((a1.getD (Int.toNat Lm) default).Else)) fun r3=>
 (cn (r3 != 0)
 (lf (0,r3,Lm))
 (rec C4 (B6 (Lm+1)))))))))
 (lf (1,C4,Lm)))
def D8(H6:Am→(List Ad)→Option Int)(L:Nat)(a0:Am)(a1:List Ad):Nat→Int→Int→Option B7
 |0,_,_=>none
 |n+1,C4,Lm=>La H6 L a0 a1 (D8 H6 L a0 a1 n) C4 Lm
theorem B69(H6:Am→(List Ad)→Option Int)(L:Nat)(K:Ax)(a0:Am)(a1:List Ad):LP (EV (O73 H6 L) L 9 c73.u.l.u.l.l) [0,1,4,10,11,12] [] (Bs1 a0 a1) [.ret,.exit 0] (fun n v=>D8 H6 L a0 a1 n v.1 v.2) K:=lE (fun _=>rfl) fun n v ih=>eE (La H6 L a0 a1 (fun C4 Lm=>re (ih (C4,Lm))) v.1 v.2)
def Hu [An A Int](H6:Am→(List Ad)→Option Int)(L:Nat)(o4:Nat×Co):A:=
 (sl o4.1 [(lf o4.2.1),
 (lf 0)])
def Bqq(H6:Am→(List Ad)→Option Int)(L:Nat)(kk:Cz):Ax:=(Av 0 (Bb (EV (O73 H6 L) L 9 c73.u.r) (Cm Tryz.prog (RS Tryz.f73) kk)))
theorem Cg7(H6:Am→(List Ad)→Option Int)(L:Nat)(kk:Cz)(a0:Am)(a1:List Ad)(o4:Nat×Co):kX [.ret,.exit 0] (Bs1 a0 a1) (Bqq H6 L kk) o4=ob (Hu H6 L o4) (kQ I kk):=eE (Hu H6 L o4)
def t6 [An A Int](H6:Am→(List Ad)→Option Int)(L:Nat)(a0:Am)(a1:List Ad):A:=(bd (D8 H6 L a0 a1 L 0 0) fun o4=>Hu H6 L o4)
def Tt(H6:Am→(List Ad)→Option Int)(L:Nat)(a0:Am)(a1:List Ad):Option Int:=t6 H6 L a0 a1
theorem b73(H6:Am→(List Ad)→Option Int)(B5m:Buh H6)(L:Nat):Buh (Tt H6 L):=fun a0 a1 r h=>hF Tryz.func73 (s73 H6 B5m L) L (fun kk=>eE ((ho (B69 H6 L (Bqq H6 L kk) a0 a1 L (0,0)) fun o4=>Cg7 H6 L kk a0 a1 o4))) h
def Dr:Nat→Am→(List Ad)→Option Int
 |0,_,_=>none
 |L+1,a0,a1=>Tt (Dr L) L a0 a1
theorem B5h(L:Nat):Buh (Dr L):=by
 induction L with
 |zero=>exact fun _ _ _ h=>(by cases h)
 |succ L ih=>
  have i73:=ih
  exact b73 (Dr L) i73 L
def X73(L:Nat):Ew:=E2 I 73 Dl Tw (Dr L) (B5h L)
def Aeo [An A Int](a0:Ac)(a1:Int)(a2:List Ao)(a3:List Ad):A:=
 (bd (Zw L a3) fun r1=>
 (cn (r1 != 0)
 (lf r1)
 (jp (.cn (decide (a1 < 0))
 (.lf true)
 (.lf (decide (a1≥(a0.Sites.length:Int))))) (fun b2=>
 (cn b2
 (lf 2)
 (gi a1 a0.Sites
 (bd (Dr L (⟨a0,a1,(⟨a0.Params,a2,(a0.Sites.getD (Int.toNat a1) default)⟩:Au)⟩:Am) a3) fun r3=>
 (lf r3))))))))
def Rf(a0:Ac)(a1:Int)(a2:List Ao)(a3:List Ad):Option Int:=Aeo L a0 a1 a2 a3
def X40:Ew:=E4 I 40 Cq (cI .i64) A2e Tw (Rf L) fun a0 a1 a2 a3 r h=>hF Tryz.func40 (oS [X72 L,X73 L]) L (fun kk=>eE (Aeo L a0 a1 a2 a3)) h
def c15:=CC Tryz.f15
def O15:Ba:=oL [X39 L,X40 L]
def Bsa(Ai:Int)(a0:Ac)(v:Co):St:=⟨[(0,.any),(1,.loc 1 0),(2,I v.1),(3,.any),(4,I Ai),(5,.loc 5 0),(16,lv (.t53 a0.Sites)),(17,I (a0.Sites.length:Int)),(18,I Ai),(24,lv (.t58 ((a0.Sites.getD (Int.toNat Ai) default).Routines))),(25,I (((a0.Sites.getD (Int.toNat Ai) default).Routines).length:Int)),(26,I v.2)],[(1,(Aq a0)),(5,(Af (a0.Sites.getD (Int.toNat Ai) default)))],0⟩
def Ud [An A B7](Ai:Int)(a0:Ac)(rec:Int→Int→A)(Bl:Int)(Aoo:Int):A:=
 (lw Aoo ((a0.Sites.getD (Int.toNat Ai) default).Routines)
 (gq ((0+((((a0.Sites.getD (Int.toNat Ai) default).Routines).getD (Int.toNat Aoo) default).Params).length)*24≤140737488355328)
 (gq (0+((((a0.Sites.getD (Int.toNat Ai) default).Routines).getD (Int.toNat Aoo) default).Params).length≤maxLen)
 (gq ((((((a0.Sites.getD (Int.toNat Ai) default).Routines).getD (Int.toNat Aoo) default).Params).length+((((a0.Sites.getD (Int.toNat Ai) default).Routines).getD (Int.toNat Aoo) default).Locals).length)*24≤140737488355328)
 (gq (((((a0.Sites.getD (Int.toNat Ai) default).Routines).getD (Int.toNat Aoo) default).Params).length+((((a0.Sites.getD (Int.toNat Ai) default).Routines).getD (Int.toNat Aoo) default).Locals).length≤maxLen)
 (bd (Rf L a0 Ai ((((a0.Sites.getD (Int.toNat Ai) default).Routines).getD (Int.toNat Aoo) default).Params++(((a0.Sites.getD (Int.toNat Ai) default).Routines).getD (Int.toNat Aoo) default).Locals) ((((a0.Sites.getD (Int.toNat Ai) default).Routines).getD (Int.toNat Aoo) default).Body)) fun r2=>
 (cn (r2 != 0)
 (lf (0,r2,Aoo))
 (rec Bl (B6 (Aoo+1)))))))))
 (lf (1,Bl,Aoo)))
def Hk(L:Nat)(Ai:Int)(a0:Ac):Nat→Int→Int→Option B7
 |0,_,_=>none
 |n+1,Bl,Aoo=>Ud L Ai a0 (Hk L Ai a0 n) Bl Aoo
theorem B59(Ai:Int)(a0:Ac):LP (EV (O15 L) L 9 c15.w.l.u.l.l.w.l.l.w.l.l) [0,1,2,3,4,5,16,17,18,24,25,26] [1,5] (Bsa Ai a0) [.ret,.exit 2] (fun n v=>Hk L Ai a0 n v.1 v.2) K:=lE (fun _=>rfl) fun n v ih=>eE (Ud L Ai a0 (fun Bl Aoo=>re (ih (Bl,Aoo))) v.1 v.2)
def Bd8(a0:Ac)(v:Co):St:=⟨[(0,.any),(1,.loc 1 0),(2,I v.1),(3,.any),(16,lv (.t53 a0.Sites)),(17,I (a0.Sites.length:Int)),(18,I v.2)],[(1,(Aq a0))],0⟩
def Qc [An A B7](L:Nat)(Ai:Int)(rec:Int→Int→A)(o3:Nat×Co):A:=
 (sl o3.1 [(lf (0,o3.2.1,Ai)),
 (rec o3.2.1 (B6 (Ai+1)))])
def U2 [An A B7](L:Nat)(a0:Ac)(rec:Int→Int→A)(Al:Int)(Ai:Int)(nx1:Int→Int→A):A:=
 (lw Ai a0.Sites
 (nx1 Ai Al)
 (lf (1,Al,Ai)))
def g0 [An A B7](a0:Ac)(rec:Int→Int→A)(Al:Int)(Ai:Int):A:=U2 L a0 rec Al Ai (fun Ai Al=>bd (Hk L Ai a0 L Al 0) fun o3=>Qc L Ai rec o3)
def Hj(L:Nat)(a0:Ac):Nat→Int→Int→Option B7
 |0,_,_=>none
 |n+1,Al,Ai=>g0 L a0 (Hj L a0 n) Al Ai
def Bnc(a0:Ac):Prop:=LI (EV (O15 L) L 9 c15.w.l.u.l.l) [0,1,2,3,16,17,18] [1] (Bd8 a0) [.ret,.exit 0] (fun n v=>Hj L a0 n v.1 v.2) K n
def Bps:Ax:=(Av 2 (Av 1 (Bb (EV (O15 L) L 9 c15.w.l.u.l.l.w.r) (Gj (Ix (EV (O15 L) L 9 c15.w.l.u.l.l) [0,1,2,3,16,17,18] [1] n) [0,1,2,3,16,17,18] [1] K))))
theorem Cf9(Ai:Int)(a0:Ac)(ih:Bnc L n K a0)(o3:Nat×Co):kX [.ret,.exit 2] (Bsa Ai a0) (Bps L n K) o3=ob (Qc L Ai (Hj L a0 n) o3) (kX [.ret,.exit 0] (Bd8 a0) K):=eE (Qc L Ai (fun Al Ai=>re (ih (Al,Ai))) o3)
theorem B58(a0:Ac):∀n,Bnc L n K a0:=lE (fun _=>rfl) fun n v ih=>eE (U2 L a0 (fun Al Ai=>re (ih (Al,Ai))) v.1 v.2 (fun Ai Al=>ho (B59 L (Bps L n K) Ai a0 L (Al,0)) fun o3=>Cf9 L n K Ai a0 ih o3))
def Qd [An A Int](L:Nat)(o4:Nat×Co):A:=
 (sl o4.1 [(lf o4.2.1),
 (lf 0)])
def Bpt:Ax:=(Av 0 (Bb (EV (O15 L) L 9 c15.w.r) (Cm Tryz.prog (RS Tryz.f15) kk)))
theorem Cga(a0:Ac)(o4:Nat×Co):kX [.ret,.exit 0] (Bd8 a0) (Bpt L kk) o4=ob (Qd L o4) (kQ I kk):=eE (Qd L o4)
def U3 [An A Int](a0:Ac)(nx2:A):A:=
 (bd (Abc L a0) fun r1=>
 (cn (r1 != 0)
 (lf r1)
 nx2))
def Amx [An A Int](a0:Ac):A:=U3 L a0 (bd (Hj L a0 L 0 0) fun o4=>Qd L o4)
def Nw(a0:Ac):Option Int:=Amx L a0
def X15:Ew:=E1 I 15 Cq (Nw L) fun a0 r h=>hF Tryz.func15 (C:=O15 L) (oS _) L (fun kk=>eE (U3 L a0 (ho (B58 L (Bpt L kk) a0 L (0,0)) fun o4=>Cga L kk a0 o4))) h
def Amt [An A Bool](a0:Int)(a1:Int):A:=
 (cn (a0 == 2)
 (jp (.cn (a1 == 0)
 (.lf true)
 (.lf (a1 == 1))) (fun b1=>
 (lf b1)))
 (cn (a0 == 3)
 (jp (.cn (decide (a1≥0))
 (.lf (decide (a1≤1000000000)))
 (.lf false)) (fun b2=>
 (lf b2)))
 (bd (Ab5 L a1) fun r3=>
 (lf r3))))
def Zi(a0:Int)(a1:Int):Option Bool:=Amt L a0 a1
def X29:Ew:=E2 B 29 (cI .i64) (cI .i64) (Zi L) fun a0 a1 r h=>hF Tryz.func29 (oS [X46 L]) L (fun kk=>eE (Amt L a0 a1)) h
def c28:=CC Tryz.f28
def c45:=CC Tryz.f45
def c8:=CC Tryz.f8
def O8:Ba:=oL [X15 L,X29 L]
def kq8:Tu8→Prop:=fun x=>kk ((fun(x:Tu8)=> .tup [.agg (Aq x.1),I x.2]) x)
def B1z:Ax:=(Av 1 (Bb (EV (O8 L) L 9 c8.w.u.l.u.l.l.w.r) (Gj (Ix (EV (O8 L) L 9 c8.w.u.l.u.l.l) [0,1,2,4,5,6,7,21,22,23] [2,4,12] n) [0,1,2,4,5,6,7,21,22,23] [2,4,12] K)))
def B10:Ax:=(Av 1 (Bb (EV (O8 L) L 9 c8.w.u.l.u.l.l.w.r) (Gj (Ix (EV (O8 L) L 9 c8.w.u.l.u.l.l) [0,1,2,4,5,6,7,21,22,23] [2,4] n) [0,1,2,4,5,6,7,21,22,23] [2,4] K)))
def Brb:Ax:=(Av 0 (Bb (EV (O8 L) L 9 c8.w.u.r) (Cm Tryz.prog (RS Tryz.f8) kk)))
def B2q(p1_0:Ac)(p1_1:ByteArray)(p1_2:Ae)(v:Co):St:=⟨[(0,lv (.t39 [])),(1,.clo 27 0 [.loc 9 0]),(4,I v.1),(7,I 0),(8,I v.2)],[(2,(Aq p1_0)),(4,[S p1_1,.lst true (.t39 []),.lst true (.t53 []),.lst true (.t81 [])]),(9,(Bw p1_2))],10⟩
def Ac1 [An A B7](L:Nat)(p1_0:Ac)(p1_1:ByteArray)(p1_2:Ae)(rec:Int→Int→A)(Bv:Int)(Bu:Int):A:=
 (cn (decide (Bu < 0))
 (gq (0≤Bu)
 (gq (Bu < ((0:Nat):Int))
 (cn (((([]:List Ag).getD (Int.toNat Bu) default).Name).toList == p1_2.Name.toList)
 (lf (0,Bu,Bu))
 (rec Bv (B6 (Bu+1))))))
 (lf (1,Bv,Bu)))
def Ys(L:Nat)(p1_0:Ac)(p1_1:ByteArray)(p1_2:Ae):Nat→Int→Int→Option B7
 |0,_,_=>none
 |n+1,Bv,Bu=>Ac1 L p1_0 p1_1 p1_2 (Ys L p1_0 p1_1 p1_2 n) Bv Bu
theorem Cfm(p1_0:Ac)(p1_1:ByteArray)(p1_2:Ae):LP (EV (O8 L) L 8 c26.u.l.u.l.l) [0,1,4,7,8] [2,4,9] (B2q p1_0 p1_1 p1_2) [.ret,.exit 0] (fun n v=>Ys L p1_0 p1_1 p1_2 n v.1 v.2) K:=lE (fun _=>rfl) fun n v ih=>eE (Ac1 L p1_0 p1_1 p1_2 (fun Bv Bu=>re (ih (Bv,Bu))) v.1 v.2)
def Bnu(p1_0:Ac)(p1_1:ByteArray)(p1_2:Ae)(k:Bk):Int→Prop:=fun o=>k (I o) [(2,(Aq p1_0)),(4,[S p1_1,.lst true (.t39 []),.lst true (.t53 []),.lst true (.t81 [])]),(9,(Bw p1_2))]
def Yu [An A Int](L:Nat)(o2:Nat×Co):A:=
 (sl o2.1 [(lf o2.2.1),
 (lf (-1))])
def B1p:Ax:=(Av 0 (Bb (EV (O8 L) L 8 c26.u.r) (Dz Tryz.prog (RS Tryz.f26) k)))
theorem Cku(p1_0:Ac)(p1_1:ByteArray)(p1_2:Ae)(o2:Nat×Co):kX [.ret,.exit 0] (B2q p1_0 p1_1 p1_2) (B1p L k) o2=ob (Yu L o2) (Bnu p1_0 p1_1 p1_2 k):=eE (Yu L o2)
def Alm [An A Int](p1_0:Ac)(p1_1:ByteArray)(p1_2:Ae):A:=(bd (Ys L p1_0 p1_1 p1_2 L 0 0) fun o2=>Yu L o2)
def Acx(p1_0:Ac)(p1_1:ByteArray)(p1_2:Ae):Option Int:=Alm L p1_0 p1_1 p1_2
theorem Ce5(p1_0:Ac)(p1_1:ByteArray)(p1_2:Ae):YO (O8 L) L 9 26 [lv (.t39 []),.clo 27 0 [.loc 9 0]] [(2,(Aq p1_0)),(4,[S p1_1,.lst true (.t39 []),.lst true (.t53 []),.lst true (.t81 [])]),(9,(Bw p1_2))] k=ob (Acx L p1_0 p1_1 p1_2) (Bnu p1_0 p1_1 p1_2 k):=(C3 _ _ _ jn4 _ _ _ _ _ _ _).trans (eE ((ho (Cfm L (B1p L k) p1_0 p1_1 p1_2 L (0,0)) fun o2=>Cku L k p1_0 p1_1 p1_2 o2)))
def B2r(p2_0:List Ae)(p2_1:Ac)(p2_2:ByteArray)(p2_3:Ae)(v:Co):St:=⟨[(0,lv (.t41 p2_0)),(1,.clo 25 0 [.loc 9 0]),(4,I v.1),(7,I (p2_0.length:Int)),(8,I v.2)],[(2,(Aq p2_1)),(4,[S p2_2,.lst true (.t39 []),.lst true (.t53 []),.lst true (.t81 [])]),(9,(Bw p2_3))],10⟩
def Alw [An A B7](L:Nat)(p2_0:List Ae)(p2_1:Ac)(p2_2:ByteArray)(p2_3:Ae)(rec:Int→Int→A)(Fs:Int)(C5:Int):A:=
 (lw C5 p2_0
 (cn (((p2_0.getD (Int.toNat C5) default).Name).toList == p2_3.Name.toList)
 (lf (0,C5,C5))
 (rec Fs (B6 (C5+1))))
 (lf (1,Fs,C5)))
def Adf(L:Nat)(p2_0:List Ae)(p2_1:Ac)(p2_2:ByteArray)(p2_3:Ae):Nat→Int→Int→Option B7
 |0,_,_=>none
 |n+1,Fs,C5=>Alw L p2_0 p2_1 p2_2 p2_3 (Adf L p2_0 p2_1 p2_2 p2_3 n) Fs C5
theorem Cfn(p2_0:List Ae)(p2_1:Ac)(p2_2:ByteArray)(p2_3:Ae):LP (EV (O8 L) L 7 c45.u.l.u.l.l) [0,1,4,7,8] [2,4,9] (B2r p2_0 p2_1 p2_2 p2_3) [.ret,.exit 0] (fun n v=>Adf L p2_0 p2_1 p2_2 p2_3 n v.1 v.2) K:=lE (fun _=>rfl) fun n v ih=>eE (Alw L p2_0 p2_1 p2_2 p2_3 (fun Fs C5=>re (ih (Fs,C5))) v.1 v.2)
def Bnv(p2_0:List Ae)(p2_1:Ac)(p2_2:ByteArray)(p2_3:Ae)(k:Bk):Int→Prop:=fun o=>k (I o) [(2,(Aq p2_1)),(4,[S p2_2,.lst true (.t39 []),.lst true (.t53 []),.lst true (.t81 [])]),(9,(Bw p2_3))]
def Adl [An A Int](L:Nat)(o4:Nat×Co):A:=
 (sl o4.1 [(lf o4.2.1),
 (lf (-1))])
def B1r:Ax:=(Av 0 (Bb (EV (O8 L) L 7 c45.u.r) (Dz Tryz.prog (RS Tryz.f45) k)))
theorem Ckw(p2_0:List Ae)(p2_1:Ac)(p2_2:ByteArray)(p2_3:Ae)(o4:Nat×Co):kX [.ret,.exit 0] (B2r p2_0 p2_1 p2_2 p2_3) (B1r L k) o4=ob (Adl L o4) (Bnv p2_0 p2_1 p2_2 p2_3 k):=eE (Adl L o4)
def Azf [An A Int](p2_0:List Ae)(p2_1:Ac)(p2_2:ByteArray)(p2_3:Ae):A:=(bd (Adf L p2_0 p2_1 p2_2 p2_3 L 0 0) fun o4=>Adl L o4)
def Alu(p2_0:List Ae)(p2_1:Ac)(p2_2:ByteArray)(p2_3:Ae):Option Int:=Azf L p2_0 p2_1 p2_2 p2_3
theorem Ce6(p2_0:List Ae)(p2_1:Ac)(p2_2:ByteArray)(p2_3:Ae):YO (O8 L) L 8 45 [lv (.t41 p2_0),.clo 25 0 [.loc 9 0]] [(2,(Aq p2_1)),(4,[S p2_2,.lst true (.t39 []),.lst true (.t53 []),.lst true (.t81 [])]),(9,(Bw p2_3))] k=ob (Alu L p2_0 p2_1 p2_2 p2_3) (Bnv p2_0 p2_1 p2_2 p2_3 k):=(C3 _ _ _ jn4 _ _ _ _ _ _ _).trans (eE ((ho (Cfn L (B1r L k) p2_0 p2_1 p2_2 p2_3 L (0,0)) fun o4=>Ckw L k p2_0 p2_1 p2_2 p2_3 o4)))
def Bbv(a1:List Ae)(a0:Ac)(v:Int×ByteArray):St:=⟨[(0,.any),(1,lv (.t41 a1)),(2,.loc 2 0),(4,.loc 4 0),(5,I v.1),(6,.any),(7,.lst true (.t39 [])),(21,lv (.t41 a1)),(22,I (a1.length:Int)),(23,I 0)],[(2,(Aq a0)),(4,[S v.2,.lst true (.t39 []),.lst true (.t53 []),.lst true (.t81 [])])],0⟩
def S8 [An A (Nat×Int×ByteArray)](o3:Int)(a1:List Ae)(rec:Int→ByteArray→A)(o5:Int):A:=
 (cn (decide (o5≥0))
 (lf (0,(4,(⟨#[]⟩:ByteArray))))
 (gq (0≤o3)
 (gq (o3 < ((0:Nat):Int))
 (bd (Zi L ((([]:List Ag).getD (Int.toNat o3) default).Type_) ((a1.getD 0 default).N)) fun r6=>
 (cn (!r6)
 (lf (0,(2,(⟨#[]⟩:ByteArray))))
 (gq (0≤o3)
 (gq (o3 < ((0:Nat):Int))
 fl)))))))
def Y2 [An A (Nat×Int×ByteArray)](L:Nat)(a1:List Ae)(H7:ByteArray)(Aj:Int)(a0:Ac)(rec:Int→ByteArray→A)(o3:Int)(nx6:ByteArray→Int→Int→A):A:=
 (cn (decide (o3 < 0))
 (lf (0,(5,(⟨#[]⟩:ByteArray))))
 (gq ((0:Int)≤0)
 (gq ((0:Int)≤0)
 (gq (0≤(a1.length:Int))
 (gq (((a1.length:Int):Int)≤(a1.length:Int))
 (nx6 H7 Aj o3))))))
def Yv [An A (Nat×Int×ByteArray)](a1:List Ae)(H7:ByteArray)(Aj:Int)(a0:Ac)(rec:Int→ByteArray→A)(o3:Int):A:=Y2 L a1 H7 Aj a0 rec o3 (fun H7 Aj o3=>bd (Alu L ((a1.take 0).drop 0) a0 H7 (a1.getD 0 default)) fun o5=>S8 L o3 a1 rec o5)
def Y1 [An A (Nat×Int×ByteArray)](L:Nat)(a1:List Ae)(a0:Ac)(rec:Int→ByteArray→A)(Aj:Int)(H7:ByteArray)(nx3:ByteArray→Int→A):A:=
 (lw 0 a1
 (nx3 H7 Aj)
 (lf (1,Aj,H7)))
def Ac0 [An A (Nat×Int×ByteArray)](a1:List Ae)(a0:Ac)(rec:Int→ByteArray→A)(Aj:Int)(H7:ByteArray):A:=Y1 L a1 a0 rec Aj H7 (fun H7 Aj=>bd (Acx L a0 H7 (a1.getD 0 default)) fun o3=>Yv L a1 H7 Aj a0 rec o3)
def Hz(L:Nat)(a1:List Ae)(a0:Ac):Nat→Int→ByteArray→Option (Nat×Int×ByteArray)
 |0,_,_=>none
 |n+1,Aj,H7=>Ac0 L a1 a0 (Hz L a1 a0 n) Aj H7
def Bnq(a1:List Ae)(a0:Ac):Prop:=LI (EV (O8 L) L 9 c8.w.u.l.u.l.l) [0,1,2,4,5,6,7,21,22,23] [2,4] (Bbv a1 a0) [.ret,.exit 0] (fun n v=>Hz L a1 a0 n v.1 v.2) K n
def B1s(a1:List Ae)(a0:Ac)(H7:ByteArray)(Aj:Int)(o3:Int):Bk:=(Bz Tryz.prog (O8 L) (EI (O8 L) L 8) 2 (List.drop 3 c28.u.l.ops) ⟨[(6,.clo 25 0 [.loc 9 0]),(5,lv (.t41 ((a1.take 0).drop 0))),(0,lv (.t41 ((a1.take 0).drop 0))),(1,.clo 25 0 [.loc 9 0]),(4,B false)],[(2,(Aq a0)),(4,[S H7,.lst true (.t39 []),.lst true (.t53 []),.lst true (.t81 [])]),(9,(Bw (a1.getD 0 default)))],10⟩ (some 7) (fun st9=>(Bb (EV (O8 L) L 8 c28.u.r) (Dz Tryz.prog (RS Tryz.f28) (Bz Tryz.prog (O8 L) (EI (O8 L) L 9) 1 (List.drop 5 c8.w.u.l.u.l.l.w.l.l.w.u.l.l.u.r.l.ops) ⟨[(40,.clo 25 0 [.loc 9 0]),(39,lv (.t41 ((a1.take 0).drop 0))),(38,I 0),(37,lv (.t41 a1)),(1,lv (.t41 a1)),(2,.loc 2 0),(4,.loc 4 0),(5,I Aj),(7,.lst true (.t39 [])),(8,I 0),(9,.loc 9 0),(10,.clo 25 0 [.loc 9 0]),(11,I o3),(21,lv (.t41 a1)),(22,I (a1.length:Int)),(23,I 0),(24,B (decide (0 < (a1.length:Int)))),(25,I 0),(26,.ref (Bw (a1.getD 0 default))),(27,.agg (Bw (a1.getD 0 default))),(28,.clo 25 0 [.loc 9 0]),(29,lv (.t39 [])),(30,.clo 27 0 [.loc 9 0]),(31,I o3),(32,B (decide (o3 < 0))),(33,I o3),(34,B (decide (o3 < 0)))],[(2,(Aq a0)),(4,[S H7,.lst true (.t39 []),.lst true (.t53 []),.lst true (.t81 [])]),(9,(Bw (a1.getD 0 default)))],0⟩ (some 41) (fun st9=>(Bb (EV (O8 L) L 9 c8.w.u.l.u.l.l.w.l.l.w.u.l.l.w) (Av 2 (Bb (EV (O8 L) L 9 c8.w.u.l.u.l.l.w.l.l.w.u.r) (B10 L n K)))) .normal st9)))) .normal st9))
theorem Ckx(a1:List Ae)(a0:Ac)(H7:ByteArray)(Aj:Int)(o3:Int)(ih:Bnq L n K a1 a0)(o5:Int):Bnv ((a1.take 0).drop 0) a0 H7 (a1.getD 0 default) (B1s L n K a1 a0 H7 Aj o3) o5=ob (S8 L o3 a1 (Hz L a1 a0 n) o5) (kX [.ret,.exit 0] (Bbv a1 a0) K):=eE (S8 L o3 a1 (fun Aj H7=>re (ih (Aj,H7))) o5)
def B1q(a1:List Ae)(Aj:Int)(a0:Ac)(H7:ByteArray):Bk:=(Bz Tryz.prog (O8 L) (EI (O8 L) L 9) 1 (List.drop 3 c8.w.u.l.u.l.l.w.l.l.w.l.ops) ⟨[(30,.clo 27 0 [.loc 9 0]),(29,lv (.t39 [])),(1,lv (.t41 a1)),(2,.loc 2 0),(4,.loc 4 0),(5,I Aj),(7,.lst true (.t39 [])),(8,I 0),(9,.loc 9 0),(10,.clo 25 0 [.loc 9 0]),(21,lv (.t41 a1)),(22,I (a1.length:Int)),(23,I 0),(24,B (decide (0 < (a1.length:Int)))),(25,I 0),(26,.ref (Bw (a1.getD 0 default))),(27,.agg (Bw (a1.getD 0 default))),(28,.clo 25 0 [.loc 9 0])],[(2,(Aq a0)),(4,[S H7,.lst true (.t39 []),.lst true (.t53 []),.lst true (.t81 [])]),(9,(Bw (a1.getD 0 default)))],0⟩ (some 31) (fun st9=>(Bb (EV (O8 L) L 9 c8.w.u.l.u.l.l.w.l.l.w.r) (B10 L n K)) .normal st9))
theorem Ckv(a0:Ac)(H7:ByteArray)(a1:List Ae)(Aj:Int)(ih:Bnq L n K a1 a0)(o3:Int):Bnu a0 H7 (a1.getD 0 default) (B1q L n K a1 Aj a0 H7) o3=ob (Yv L a1 H7 Aj a0 (Hz L a1 a0 n) o3) (kX [.ret,.exit 0] (Bbv a1 a0) K):=eE (Y2 L a1 H7 Aj a0 (fun Aj H7=>re (ih (Aj,H7))) o3 (fun H7 Aj o3=>ho (Ce6 L (B1s L n K a1 a0 H7 Aj o3) ((a1.take 0).drop 0) a0 H7 (a1.getD 0 default)) fun o5=>Ckx L n K a1 a0 H7 Aj o3 ih o5))
theorem B13(a1:List Ae)(a0:Ac):∀n,Bnq L n K a1 a0:=lE (fun _=>rfl) fun n v ih=>eE (Y1 L a1 a0 (fun Aj H7=>re (ih (Aj,H7))) v.1 v.2 (fun H7 Aj=>ho (Ce5 L (B1q L n K a1 Aj a0 H7) a0 H7 (a1.getD 0 default)) fun o3=>Ckv L n K a0 H7 a1 Aj ih o3))
def B2s(p3_0:Nat)(p3_1:Ac)(p3_2:ByteArray)(p3_3:Ae)(p3_4:List Ag)(v:Co):St:=⟨[(0,.vw false 12 39 3 p3_0),(1,.clo 27 0 [.loc 9 0]),(4,I v.1),(7,I (p3_0:Int)),(8,I v.2)],[(2,(Aq p3_1)),(4,[S p3_2,.lst true (.t39 []),.lst true (.t53 []),.lst true (.t81 [])]),(9,(Bw p3_3)),(12,[.arrO (.t39 p3_4)])],13⟩
def Ye [An A B7](L:Nat)(p3_0:Nat)(p3_1:Ac)(p3_2:ByteArray)(p3_3:Ae)(p3_4:List Ag)(rec:Int→Int→A)(Tp:Int)(Oo:Int):A:=
 (cn (decide (Oo < (p3_0:Int)))
 (gq (0≤Oo)
 (gq (Oo < ((p3_0:Nat):Int))
 (cn (((p3_4.getD (Int.toNat Oo) default).Name).toList == p3_3.Name.toList)
 (lf (0,Oo,Oo))
 (rec Tp (B6 (Oo+1))))))
 (lf (1,Tp,Oo)))
def Ly(L:Nat)(p3_0:Nat)(p3_1:Ac)(p3_2:ByteArray)(p3_3:Ae)(p3_4:List Ag):Nat→Int→Int→Option B7
 |0,_,_=>none
 |n+1,Tp,Oo=>Ye L p3_0 p3_1 p3_2 p3_3 p3_4 (Ly L p3_0 p3_1 p3_2 p3_3 p3_4 n) Tp Oo
theorem Cfp(p3_0:Nat)(p3_1:Ac)(p3_2:ByteArray)(p3_3:Ae)(p3_4:List Ag):LP (EV (O8 L) L 8 c26.u.l.u.l.l) [0,1,4,7,8] [2,4,9,12] (B2s p3_0 p3_1 p3_2 p3_3 p3_4) [.ret,.exit 0] (fun n v=>Ly L p3_0 p3_1 p3_2 p3_3 p3_4 n v.1 v.2) K:=lE (fun _=>rfl) fun n v ih=>eE (Ye L p3_0 p3_1 p3_2 p3_3 p3_4 (fun Tp Oo=>re (ih (Tp,Oo))) v.1 v.2)
def Bnw(p3_0:Nat)(p3_1:Ac)(p3_2:ByteArray)(p3_3:Ae)(p3_4:List Ag)(k:Bk):Int→Prop:=fun o=>k (I o) [(2,(Aq p3_1)),(4,[S p3_2,.lst true (.t39 []),.lst true (.t53 []),.lst true (.t81 [])]),(9,(Bw p3_3)),(12,[.arrO (.t39 p3_4)])]
def Wf [An A Int](L:Nat)(o7:Nat×Co):A:=
 (sl o7.1 [(lf o7.2.1),
 (lf (-1))])
def Bqz:Ax:=(Av 0 (Bb (EV (O8 L) L 8 c26.u.r) (Dz Tryz.prog (RS Tryz.f26) k)))
theorem Chg(p3_0:Nat)(p3_1:Ac)(p3_2:ByteArray)(p3_3:Ae)(p3_4:List Ag)(o7:Nat×Co):kX [.ret,.exit 0] (B2s p3_0 p3_1 p3_2 p3_3 p3_4) (Bqz L k) o7=ob (Wf L o7) (Bnw p3_0 p3_1 p3_2 p3_3 p3_4 k):=eE (Wf L o7)
def Aln [An A Int](p3_0:Nat)(p3_1:Ac)(p3_2:ByteArray)(p3_3:Ae)(p3_4:List Ag):A:=(bd (Ly L p3_0 p3_1 p3_2 p3_3 p3_4 L 0 0) fun o7=>Wf L o7)
def S5(p3_0:Nat)(p3_1:Ac)(p3_2:ByteArray)(p3_3:Ae)(p3_4:List Ag):Option Int:=Aln L p3_0 p3_1 p3_2 p3_3 p3_4
theorem Ce7(p3_0:Nat)(p3_1:Ac)(p3_2:ByteArray)(p3_3:Ae)(p3_4:List Ag):YO (O8 L) L 9 26 [.vw false 12 39 3 p3_0,.clo 27 0 [.loc 9 0]] [(2,(Aq p3_1)),(4,[S p3_2,.lst true (.t39 []),.lst true (.t53 []),.lst true (.t81 [])]),(9,(Bw p3_3)),(12,[.arrO (.t39 p3_4)])] k=ob (S5 L p3_0 p3_1 p3_2 p3_3 p3_4) (Bnw p3_0 p3_1 p3_2 p3_3 p3_4 k):=(C3 _ _ _ jn4 _ _ _ _ _ _ _).trans (eE ((ho (Cfp L (Bqz L k) p3_0 p3_1 p3_2 p3_3 p3_4 L (0,0)) fun o7=>Chg L k p3_0 p3_1 p3_2 p3_3 p3_4 o7)))
def B2t(p4_0:List Ae)(p4_1:Ac)(p4_2:ByteArray)(p4_3:Ae)(p4_4:List Ag)(v:Co):St:=⟨[(0,lv (.t41 p4_0)),(1,.clo 25 0 [.loc 9 0]),(4,I v.1),(7,I (p4_0.length:Int)),(8,I v.2)],[(2,(Aq p4_1)),(4,[S p4_2,.lst true (.t39 []),.lst true (.t53 []),.lst true (.t81 [])]),(9,(Bw p4_3)),(12,[.arrO (.t39 p4_4)])],13⟩
def Yf [An A B7](L:Nat)(p4_0:List Ae)(p4_1:Ac)(p4_2:ByteArray)(p4_3:Ae)(p4_4:List Ag)(rec:Int→Int→A)(Zr:Int)(Oc:Int):A:=
 (lw Oc p4_0
 (cn (((p4_0.getD (Int.toNat Oc) default).Name).toList == p4_3.Name.toList)
 (lf (0,Oc,Oc))
 (rec Zr (B6 (Oc+1))))
 (lf (1,Zr,Oc)))
def Lz(L:Nat)(p4_0:List Ae)(p4_1:Ac)(p4_2:ByteArray)(p4_3:Ae)(p4_4:List Ag):Nat→Int→Int→Option B7
 |0,_,_=>none
 |n+1,Zr,Oc=>Yf L p4_0 p4_1 p4_2 p4_3 p4_4 (Lz L p4_0 p4_1 p4_2 p4_3 p4_4 n) Zr Oc
theorem Cfq(p4_0:List Ae)(p4_1:Ac)(p4_2:ByteArray)(p4_3:Ae)(p4_4:List Ag):LP (EV (O8 L) L 7 c45.u.l.u.l.l) [0,1,4,7,8] [2,4,9,12] (B2t p4_0 p4_1 p4_2 p4_3 p4_4) [.ret,.exit 0] (fun n v=>Lz L p4_0 p4_1 p4_2 p4_3 p4_4 n v.1 v.2) K:=lE (fun _=>rfl) fun n v ih=>eE (Yf L p4_0 p4_1 p4_2 p4_3 p4_4 (fun Zr Oc=>re (ih (Zr,Oc))) v.1 v.2)
def Bnx(p4_0:List Ae)(p4_1:Ac)(p4_2:ByteArray)(p4_3:Ae)(p4_4:List Ag)(k:Bk):Int→Prop:=fun o=>k (I o) [(2,(Aq p4_1)),(4,[S p4_2,.lst true (.t39 []),.lst true (.t53 []),.lst true (.t81 [])]),(9,(Bw p4_3)),(12,[.arrO (.t39 p4_4)])]
def Wh [An A Int](L:Nat)(o9:Nat×Co):A:=
 (sl o9.1 [(lf o9.2.1),
 (lf (-1))])
def Bq1:Ax:=(Av 0 (Bb (EV (O8 L) L 7 c45.u.r) (Dz Tryz.prog (RS Tryz.f45) k)))
theorem Chi(p4_0:List Ae)(p4_1:Ac)(p4_2:ByteArray)(p4_3:Ae)(p4_4:List Ag)(o9:Nat×Co):kX [.ret,.exit 0] (B2t p4_0 p4_1 p4_2 p4_3 p4_4) (Bq1 L k) o9=ob (Wh L o9) (Bnx p4_0 p4_1 p4_2 p4_3 p4_4 k):=eE (Wh L o9)
def Alo [An A Int](p4_0:List Ae)(p4_1:Ac)(p4_2:ByteArray)(p4_3:Ae)(p4_4:List Ag):A:=(bd (Lz L p4_0 p4_1 p4_2 p4_3 p4_4 L 0 0) fun o9=>Wh L o9)
def S6(p4_0:List Ae)(p4_1:Ac)(p4_2:ByteArray)(p4_3:Ae)(p4_4:List Ag):Option Int:=Alo L p4_0 p4_1 p4_2 p4_3 p4_4
theorem Ce8(p4_0:List Ae)(p4_1:Ac)(p4_2:ByteArray)(p4_3:Ae)(p4_4:List Ag):YO (O8 L) L 8 45 [lv (.t41 p4_0),.clo 25 0 [.loc 9 0]] [(2,(Aq p4_1)),(4,[S p4_2,.lst true (.t39 []),.lst true (.t53 []),.lst true (.t81 [])]),(9,(Bw p4_3)),(12,[.arrO (.t39 p4_4)])] k=ob (S6 L p4_0 p4_1 p4_2 p4_3 p4_4) (Bnx p4_0 p4_1 p4_2 p4_3 p4_4 k):=(C3 _ _ _ jn4 _ _ _ _ _ _ _).trans (eE ((ho (Cfq L (Bq1 L k) p4_0 p4_1 p4_2 p4_3 p4_4 L (0,0)) fun o9=>Chi L k p4_0 p4_1 p4_2 p4_3 p4_4 o9)))
def Bk2(a1:List Ae)(a0:Ac)(v:Apg):St:=⟨[(0,.any),(1,lv (.t41 a1)),(2,.loc 2 0),(4,.loc 4 0),(5,I v.1),(6,.any),(7,.vw false 12 39 3 a0.Params.length),(21,lv (.t41 a1)),(22,I (a1.length:Int)),(23,I v.2.1)],[(2,(Aq a0)),(4,[S v.2.2.1,.lst true (.t39 []),.lst true (.t53 []),.lst true (.t81 [])]),(12,[.arrO (.t39 v.2.2.2)])],0⟩
def Rs [An A (Nat×Apg)](Ei:Int)(C6:List Ag)(o8:Int)(a0:Ac)(a1:List Ae)(Cx:Int)(Dc:ByteArray)(rec:Int→Int→ByteArray→List Ag→A)(o10:Int):A:=
 (cn (decide (o10≥0))
 (lf (0,(4,Ei,(⟨#[]⟩:ByteArray),C6)))
 (gi o8 a0.Params
 (bd (Zi L ((C6.getD (Int.toNat o8) default).Type_) ((a1.getD (Int.toNat Ei) default).N)) fun r11=>
 (cn (!r11)
 (lf (0,(2,Ei,(⟨#[]⟩:ByteArray),C6)))
 (gi o8 a0.Params
 (rec Cx (B6 (Ei+1)) Dc (C6.set (Int.toNat o8) (⟨(C6.getD (Int.toNat o8) default).Name,(C6.getD (Int.toNat o8) default).Type_,(a1.getD (Int.toNat Ei) default).N⟩:Ag))))))))
def W0 [An A (Nat×Apg)](L:Nat)(Ei:Int)(C6:List Ag)(a1:List Ae)(Dc:ByteArray)(Cx:Int)(a0:Ac)(rec:Int→Int→ByteArray→List Ag→A)(o8:Int)(nx14:Int→ByteArray→(List Ag)→Int→Int→A):A:=
 (cn (decide (o8 < 0))
 (lf (0,(5,Ei,(⟨#[]⟩:ByteArray),C6)))
 (gq ((0:Int)≤0)
 (gq (0≤Ei)
 (gq ((Ei:Int)≤(a1.length:Int))
 (gq (((a1.length:Int):Int)≤(a1.length:Int))
 (nx14 Ei Dc C6 Cx o8))))))
def Wg [An A (Nat×Apg)](Ei:Int)(C6:List Ag)(a1:List Ae)(Dc:ByteArray)(Cx:Int)(a0:Ac)(rec:Int→Int→ByteArray→List Ag→A)(o8:Int):A:=W0 L Ei C6 a1 Dc Cx a0 rec o8 (fun Ei Dc C6 Cx o8=>bd (S6 L ((a1.take (Int.toNat Ei)).drop 0) a0 Dc (a1.getD (Int.toNat Ei) default) C6) fun o10=>Rs L Ei C6 o8 a0 a1 Cx Dc rec o10)
def Wz [An A (Nat×Apg)](L:Nat)(a1:List Ae)(a0:Ac)(rec:Int→Int→ByteArray→List Ag→A)(Cx:Int)(Ei:Int)(Dc:ByteArray)(C6:List Ag)(nx11:ByteArray→Int→(List Ag)→Int→A):A:=
 (lw Ei a1
 (nx11 Dc Ei C6 Cx)
 (lf (1,Cx,Ei,Dc,C6)))
def Ac2 [An A (Nat×Apg)](a1:List Ae)(a0:Ac)(rec:Int→Int→ByteArray→List Ag→A)(Cx:Int)(Ei:Int)(Dc:ByteArray)(C6:List Ag):A:=Wz L a1 a0 rec Cx Ei Dc C6 (fun Dc Ei C6 Cx=>bd (S5 L a0.Params.length a0 Dc (a1.getD (Int.toNat Ei) default) C6) fun o8=>Wg L Ei C6 a1 Dc Cx a0 rec o8)
def H0(L:Nat)(a1:List Ae)(a0:Ac):Nat→Int→Int→ByteArray→List Ag→Option (Nat×Apg)
 |0,_,_,_,_=>none
 |n+1,Cx,Ei,Dc,C6=>Ac2 L a1 a0 (H0 L a1 a0 n) Cx Ei Dc C6
def Bnr(a1:List Ae)(a0:Ac):Prop:=LI (EV (O8 L) L 9 c8.w.u.l.u.l.l) [0,1,2,4,5,6,7,21,22,23] [2,4,12] (Bk2 a1 a0) [.ret,.exit 0] (fun n v=>H0 L a1 a0 n v.1 v.2.1 v.2.2.1 v.2.2.2) K n
def Bq2(a1:List Ae)(Ei:Int)(a0:Ac)(Dc:ByteArray)(C6:List Ag)(Cx:Int)(o8:Int):Bk:=(Bz Tryz.prog (O8 L) (EI (O8 L) L 8) 2 (List.drop 3 c28.u.l.ops) ⟨[(6,.clo 25 0 [.loc 9 0]),(5,lv (.t41 ((a1.take (Int.toNat Ei)).drop 0))),(0,lv (.t41 ((a1.take (Int.toNat Ei)).drop 0))),(1,.clo 25 0 [.loc 9 0]),(4,B false)],[(2,(Aq a0)),(4,[S Dc,.lst true (.t39 []),.lst true (.t53 []),.lst true (.t81 [])]),(9,(Bw (a1.getD (Int.toNat Ei) default))),(12,[.arrO (.t39 C6)])],13⟩ (some 7) (fun st9=>(Bb (EV (O8 L) L 8 c28.u.r) (Dz Tryz.prog (RS Tryz.f28) (Bz Tryz.prog (O8 L) (EI (O8 L) L 9) 1 (List.drop 5 c8.w.u.l.u.l.l.w.l.l.w.u.l.l.u.r.l.ops) ⟨[(40,.clo 25 0 [.loc 9 0]),(39,lv (.t41 ((a1.take (Int.toNat Ei)).drop 0))),(38,I Ei),(37,lv (.t41 a1)),(1,lv (.t41 a1)),(2,.loc 2 0),(4,.loc 4 0),(5,I Cx),(7,.vw false 12 39 3 a0.Params.length),(8,I Ei),(9,.loc 9 0),(10,.clo 25 0 [.loc 9 0]),(11,I o8),(21,lv (.t41 a1)),(22,I (a1.length:Int)),(23,I Ei),(24,B (decide (Ei < (a1.length:Int)))),(25,I Ei),(26,.ref (Bw (a1.getD (Int.toNat Ei) default))),(27,.agg (Bw (a1.getD (Int.toNat Ei) default))),(28,.clo 25 0 [.loc 9 0]),(29,.vw false 12 39 3 a0.Params.length),(30,.clo 27 0 [.loc 9 0]),(31,I o8),(32,B (decide (o8 < 0))),(33,I o8),(34,B (decide (o8 < 0)))],[(2,(Aq a0)),(4,[S Dc,.lst true (.t39 []),.lst true (.t53 []),.lst true (.t81 [])]),(9,(Bw (a1.getD (Int.toNat Ei) default))),(12,[.arrO (.t39 C6)])],0⟩ (some 41) (fun st9=>(Bb (EV (O8 L) L 9 c8.w.u.l.u.l.l.w.l.l.w.u.l.l.w) (Av 2 (Bb (EV (O8 L) L 9 c8.w.u.l.u.l.l.w.l.l.w.u.r) (B1z L n K)))) .normal st9)))) .normal st9))
theorem Chj(a1:List Ae)(Ei:Int)(a0:Ac)(Dc:ByteArray)(C6:List Ag)(Cx:Int)(o8:Int)(ih:Bnr L n K a1 a0)(o10:Int):Bnx ((a1.take (Int.toNat Ei)).drop 0) a0 Dc (a1.getD (Int.toNat Ei) default) C6 (Bq2 L n K a1 Ei a0 Dc C6 Cx o8) o10=ob (Rs L Ei C6 o8 a0 a1 Cx Dc (H0 L a1 a0 n) o10) (kX [.ret,.exit 0] (Bk2 a1 a0) K):=eE (Rs L Ei C6 o8 a0 a1 Cx Dc (fun Cx Ei Dc C6=>re (ih (Cx,Ei,Dc,C6))) o10)
def Bq0(a0:Ac)(a1:List Ae)(Cx:Int)(Ei:Int)(Dc:ByteArray)(C6:List Ag):Bk:=(Bz Tryz.prog (O8 L) (EI (O8 L) L 9) 1 (List.drop 3 c8.w.u.l.u.l.l.w.l.l.w.l.ops) ⟨[(30,.clo 27 0 [.loc 9 0]),(29,.vw false 12 39 3 a0.Params.length),(1,lv (.t41 a1)),(2,.loc 2 0),(4,.loc 4 0),(5,I Cx),(7,.vw false 12 39 3 a0.Params.length),(8,I Ei),(9,.loc 9 0),(10,.clo 25 0 [.loc 9 0]),(21,lv (.t41 a1)),(22,I (a1.length:Int)),(23,I Ei),(24,B (decide (Ei < (a1.length:Int)))),(25,I Ei),(26,.ref (Bw (a1.getD (Int.toNat Ei) default))),(27,.agg (Bw (a1.getD (Int.toNat Ei) default))),(28,.clo 25 0 [.loc 9 0])],[(2,(Aq a0)),(4,[S Dc,.lst true (.t39 []),.lst true (.t53 []),.lst true (.t81 [])]),(9,(Bw (a1.getD (Int.toNat Ei) default))),(12,[.arrO (.t39 C6)])],0⟩ (some 31) (fun st9=>(Bb (EV (O8 L) L 9 c8.w.u.l.u.l.l.w.l.l.w.r) (B1z L n K)) .normal st9))
theorem Chh(a0:Ac)(Dc:ByteArray)(a1:List Ae)(Ei:Int)(C6:List Ag)(Cx:Int)(ih:Bnr L n K a1 a0)(o8:Int):Bnw a0.Params.length a0 Dc (a1.getD (Int.toNat Ei) default) C6 (Bq0 L n K a0 a1 Cx Ei Dc C6) o8=ob (Wg L Ei C6 a1 Dc Cx a0 (H0 L a1 a0 n) o8) (kX [.ret,.exit 0] (Bk2 a1 a0) K):=eE (W0 L Ei C6 a1 Dc Cx a0 (fun Cx Ei Dc C6=>re (ih (Cx,Ei,Dc,C6))) o8 (fun Ei Dc C6 Cx o8=>ho (Ce8 L (Bq2 L n K a1 Ei a0 Dc C6 Cx o8) ((a1.take (Int.toNat Ei)).drop 0) a0 Dc (a1.getD (Int.toNat Ei) default) C6) fun o10=>Chj L n K a1 Ei a0 Dc C6 Cx o8 ih o10))
theorem Cfo(a1:List Ae)(a0:Ac):∀n,Bnr L n K a1 a0:=lE (fun _=>rfl) fun n v ih=>eE (Wz L a1 a0 (fun Cx Ei Dc C6=>re (ih (Cx,Ei,Dc,C6))) v.1 v.2.1 v.2.2.1 v.2.2.2 (fun Dc Ei C6 Cx=>ho (Ce7 L (Bq0 L n K a0 a1 Cx Ei Dc C6) a0.Params.length a0 Dc (a1.getD (Int.toNat Ei) default) C6) fun o8=>Chh L n K a0 Dc a1 Ei C6 Cx ih o8))
def H2 [An A Tu8](L:Nat)(a0:Ac)(o12:Nat×Int×ByteArray):A:=
 (sl o12.1 [(lf ((⟨o12.2.2,[],[],[]⟩:Ac),o12.2.1)),
 (lf ((⟨a0.Name,[],a0.Sites,a0.Links⟩:Ac),0))])
def B1t:Ax:=(Brb L kk)
theorem Cky(a1:List Ae)(a0:Ac)(o12:Nat×Int×ByteArray):kX [.ret,.exit 0] (Bbv a1 a0) (B1t L kk) o12=ob (H2 L a0 o12) (kq8 kk):=eE (H2 L a0 o12)
def H3 [An A Tu8](L:Nat)(a0:Ac)(o13:Nat×Int×ByteArray):A:=
 (sl o13.1 [(lf ((⟨o13.2.2,[],[],[]⟩:Ac),o13.2.1)),
 (lf ((⟨a0.Name,[],a0.Sites,a0.Links⟩:Ac),0))])
def B1u:Ax:=(Brb L kk)
theorem Ckz(a1:List Ae)(a0:Ac)(o13:Nat×Int×ByteArray):kX [.ret,.exit 0] (Bbv a1 a0) (B1u L kk) o13=ob (H3 L a0 o13) (kq8 kk):=eE (H3 L a0 o13)
def Gt [An A Tu8](L:Nat)(a0:Ac)(o14:Nat×Apg):A:=
 (sl o14.1 [(lf ((⟨o14.2.2.2.1,[],[],[]⟩:Ac),o14.2.1)),
 (lf ((⟨a0.Name,o14.2.2.2.2,a0.Sites,a0.Links⟩:Ac),0))])
def Bq3:Ax:=(Brb L kk)
theorem Chk(a1:List Ae)(a0:Ac)(o14:Nat×Apg):kX [.ret,.exit 0] (Bk2 a1 a0) (Bq3 L kk) o14=ob (Gt L a0 o14) (kq8 kk):=eE (Gt L a0 o14)
def J5 [An A Tu8](a0:Ac)(a1:List Ae)(nx7:A)(nx8:A)(nx15:A):A:=
 (bd (Nw L a0) fun r1=>
 (cn (r1 != 0)
 (lf ((⟨(⟨#[]⟩:ByteArray),[],[],[]⟩:Ac),r1))
 (cn (Nat.beq a0.Params.length 0)
 nx7
 (gq (0 < a0.Params.length)
 (cn (Nat.beq a0.Params.length 0)
 nx8
 (gq (a0.Params.length*32≤140737488355328)
 (gq (a0.Params.length≤maxLen)
 nx15)))))))
def Adx [An A Tu8](a0:Ac)(a1:List Ae):A:=J5 L a0 a1 (bd (Hz L a1 a0 L 0 (⟨#[]⟩:ByteArray)) fun o12=>H2 L a0 o12) (bd (Hz L a1 a0 L 0 (⟨#[]⟩:ByteArray)) fun o13=>H3 L a0 o13) (bd (H0 L a1 a0 L 0 0 (⟨#[]⟩:ByteArray) a0.Params) fun o14=>Gt L a0 o14)
def M4(a0:Ac)(a1:List Ae):Option Tu8:=Adx L a0 a1
def X8:Ew:=E2 (fun(x:Tu8)=> .tup [.agg (Aq x.1),I x.2]) 8 Cq Bu0 (M4 L) fun a0 a1 r h=>hF Tryz.func8 (C:=O8 L) (oS _) L (fun kk=>eE (J5 L a0 a1 (ho (B13 L (B1t L kk) a1 a0 L (0,(⟨#[]⟩:ByteArray))) fun o12=>Cky L kk a1 a0 o12) (ho (B13 L (B1u L kk) a1 a0 L (0,(⟨#[]⟩:ByteArray))) fun o13=>Ckz L kk a1 a0 o13) (ho (Cfo L (Bq3 L kk) a1 a0 L (0,0,(⟨#[]⟩:ByteArray),a0.Params)) fun o14=>Chk L kk a1 a0 o14))) h
end
end Go.Proofs.YtofcpkmnhmnfcaaGreatR.Ev
