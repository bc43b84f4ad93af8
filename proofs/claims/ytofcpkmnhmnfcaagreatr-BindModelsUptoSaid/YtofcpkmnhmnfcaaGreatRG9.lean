import Derived.Test.YtofcpkmnhmnfcaaGreatRG3
import Derived.Test.YtofcpkmnhmnfcaaGreatRG4
import Derived.Test.YtofcpkmnhmnfcaaGreatRG7
import Derived.Test.YtofcpkmnhmnfcaaGreatRG8
namespace Go.Proofs.YtofcpkmnhmnfcaaGreatR.Ev
open Go An
set_option maxRecDepth 100000
set_option maxHeartbeats 4000000
set_option linter.unusedVariables false
set_option linter.unusedSimpArgs false
set_option linter.unnecessarySimpa false
noncomputable section
variable {A:Type} (L n:Nat) (kk:Cz) (K:Ba) (k:Bq)
def B0t(F:Ao→(List Ad)→Option Int):Prop:=∀y0 y1 r,F y0 y1=some r→Ho Tryz.prog 73 [Du.en y0,Xe.en y1] I r
def c73:=CC Tryz.f73
def O73(Iz:Ao→(List Ad)→Option Int)(L:Nat):Bd:=(orc 73 (A2 I Du Xe Iz) (oL [B93 L]))
theorem s73(Iz:Ao→(List Ad)→Option Int)(Cbq:B0t Iz)(L:Nat):Dv Tryz.prog (O73 Iz L):=(D4 (a2 _ Cbq) (oS [B93 L]))
def By6(a0:Ao)(a1:List Ad)(v:Cs):St:=⟨[(0,.ref (I9 a0)),(1,.any),(4,I v.1),(10,lv (.t96 a1)),(11,I (a1.length:Int)),(12,I v.2)],[],0⟩
def L6 [An A Cm](Iz:Ao→(List Ad)→Option Int)(L:Nat)(a0:Ao)(a1:List Ad)(rec:Int→Int→A)(C6:Int)(My:Int):A:=
 (lw My a1
 (bd (Md L a0 (Ad.cp (a1.getD (Int.toNat My) default))) fun r1=>
 (cn (r1 != 0)
 (lf (0,r1,My))
 (bd (Iz a0 ((a1.getD (Int.toNat My) default).Body)) fun r2=>
 (cn (r2 != 0)
 (lf (0,r2,My))
 (bd (Iz a0 ((a1.getD (Int.toNat My) default).Else)) fun r3=>
 (cn (r3 != 0)
 (lf (0,r3,My))
 (rec C6 (B7 (My+1)))))))))
 (lf (1,C6,My)))
def Em(Iz:Ao→(List Ad)→Option Int)(L:Nat)(a0:Ao)(a1:List Ad):Nat→Int→Int→Option Cm
 |0,_,_=>none
 |n+1,C6,My=>L6 Iz L a0 a1 (Em Iz L a0 a1 n) C6 My
theorem Cdl(Iz:Ao→(List Ad)→Option Int)(L:Nat)(K:Ba)(a0:Ao)(a1:List Ad):LP (EV (O73 Iz L) L 9 c73.u.l.u.l.l) [0,1,4,10,11,12] [] (By6 a0 a1) [.ret,.exit 0] (fun n v=>Em Iz L a0 a1 n v.1 v.2) K:=lE (fun _=>rfl) fun n v ih=>eE (L6 Iz L a0 a1 (fun C6 My=>re (ih (C6,My))) v.1 v.2)
def Im [An A Int](Iz:Ao→(List Ad)→Option Int)(L:Nat)(o4:Nat×Cs):A:=
 (sl o4.1 [(lf o4.2.1),
 (lf 0)])
def Bw2(Iz:Ao→(List Ad)→Option Int)(L:Nat)(kk:Cz):Ba:=(Av 0 (Be (EV (O73 Iz L) L 9 c73.u.r) (Cp Tryz.prog (RS Tryz.f73) kk)))
theorem Cni(Iz:Ao→(List Ad)→Option Int)(L:Nat)(kk:Cz)(a0:Ao)(a1:List Ad)(o4:Nat×Cs):kX [.ret,.exit 0] (By6 a0 a1) (Bw2 Iz L kk) o4=ob (Im Iz L o4) (kQ I kk):=eE (Im Iz L o4)
def Afw [An A Int](Iz:Ao→(List Ad)→Option Int)(L:Nat)(a0:Ao)(a1:List Ad):A:=(bd (Em Iz L a0 a1 L 0 0) fun o4=>Im Iz L o4)
def Xb(Iz:Ao→(List Ad)→Option Int)(L:Nat)(a0:Ao)(a1:List Ad):Option Int:=Afw Iz L a0 a1
theorem b73(Iz:Ao→(List Ad)→Option Int)(Cbq:B0t Iz)(L:Nat):B0t (Xb Iz L):=fun a0 a1 r h=>hF Tryz.func73 (s73 Iz Cbq L) L (fun kk=>eE ((ho (Cdl Iz L (Bw2 Iz L kk) a0 a1 L (0,0)) fun o4=>Cni Iz L kk a0 a1 o4))) h
def D2:Nat→Ao→(List Ad)→Option Int
 |0,_,_=>none
 |L+1,a0,a1=>Xb (D2 L) L a0 a1
theorem Cbl(L:Nat):B0t (D2 L):=by
 induction L with
 |zero=>exact fun _ _ _ h=>(by cases h)
 |succ L ih=>
  have i73:=ih
  exact b73 (D2 L) i73 L
def X73(L:Nat):F7:=E2 I 73 Du Xe (D2 L) (Cbl L)
def Al8 [An A Int](a0:Ac)(a1:Int)(a2:List Ap)(a3:List Ad):A:=
 (bd (Ac9 L a3) fun r1=>
 (cn (r1 != 0)
 (lf r1)
 (jp (.cn (decide (a1 < 0))
 (.lf true)
 (.lf (decide (a1≥(a0.Sites.length:Int))))) (fun b2=>
 (cn b2
 (lf 2)
 (gi a1 a0.Sites
 (bd (D2 L (⟨a0,a1,(⟨a0.Params,a2,(a0.Sites.getD (Int.toNat a1) default)⟩:Aq)⟩:Ao) a3) fun r3=>
 (lf r3))))))))
def Um(a0:Ac)(a1:Int)(a2:List Ap)(a3:List Ad):Option Int:=Al8 L a0 a1 a2 a3
def X40:F7:=E4 I 40 Cu (cI .i64) A7c Xe (Um L) fun a0 a1 a2 a3 r h=>hF Tryz.func40 (oS [X72 L,X73 L]) L (fun kk=>eE (Al8 L a0 a1 a2 a3)) h
def c15:=CC Tryz.f15
def O15:Bd:=oL [X39 L,X40 L]
def Byf(Aj:Int)(a0:Ac)(v:Cs):St:=⟨[(0,.any),(1,.loc 1 0),(2,I v.1),(3,.any),(4,I Aj),(5,.loc 5 0),(16,lv (.t53 a0.Sites)),(17,I (a0.Sites.length:Int)),(18,I Aj),(24,lv (.t58 ((a0.Sites.getD (Int.toNat Aj) default).Routines))),(25,I (((a0.Sites.getD (Int.toNat Aj) default).Routines).length:Int)),(26,I v.2)],[(1,(Au a0)),(5,(Af (a0.Sites.getD (Int.toNat Aj) default)))],0⟩
def Xv [An A Cm](Aj:Int)(a0:Ac)(rec:Int→Int→A)(Bo:Int)(Au3:Int):A:=
 (lw Au3 ((a0.Sites.getD (Int.toNat Aj) default).Routines)
 (gq ((0+((((a0.Sites.getD (Int.toNat Aj) default).Routines).getD (Int.toNat Au3) default).Params).length)*24≤140737488355328)
 (gq (0+((((a0.Sites.getD (Int.toNat Aj) default).Routines).getD (Int.toNat Au3) default).Params).length≤maxLen)
 (gq ((((((a0.Sites.getD (Int.toNat Aj) default).Routines).getD (Int.toNat Au3) default).Params).length+((((a0.Sites.getD (Int.toNat Aj) default).Routines).getD (Int.toNat Au3) default).Locals).length)*24≤140737488355328)
 (gq (((((a0.Sites.getD (Int.toNat Aj) default).Routines).getD (Int.toNat Au3) default).Params).length+((((a0.Sites.getD (Int.toNat Aj) default).Routines).getD (Int.toNat Au3) default).Locals).length≤maxLen)
 (bd (Um L a0 Aj ((((a0.Sites.getD (Int.toNat Aj) default).Routines).getD (Int.toNat Au3) default).Params++(((a0.Sites.getD (Int.toNat Aj) default).Routines).getD (Int.toNat Au3) default).Locals) ((((a0.Sites.getD (Int.toNat Aj) default).Routines).getD (Int.toNat Au3) default).Body)) fun r2=>
 (cn (r2 != 0)
 (lf (0,r2,Au3))
 (rec Bo (B7 (Au3+1)))))))))
 (lf (1,Bo,Au3)))
def Ia(L:Nat)(Aj:Int)(a0:Ac):Nat→Int→Int→Option Cm
 |0,_,_=>none
 |n+1,Bo,Au3=>Xv L Aj a0 (Ia L Aj a0 n) Bo Au3
theorem Ccl(Aj:Int)(a0:Ac):LP (EV (O15 L) L 9 c15.w.l.u.l.l.w.l.l.w.l.l) [0,1,2,3,4,5,16,17,18,24,25,26] [1,5] (Byf Aj a0) [.ret,.exit 2] (fun n v=>Ia L Aj a0 n v.1 v.2) K:=lE (fun _=>rfl) fun n v ih=>eE (Xv L Aj a0 (fun Bo Au3=>re (ih (Bo,Au3))) v.1 v.2)
def Bku(a0:Ac)(v:Cs):St:=⟨[(0,.any),(1,.loc 1 0),(2,I v.1),(3,.any),(16,lv (.t53 a0.Sites)),(17,I (a0.Sites.length:Int)),(18,I v.2)],[(1,(Au a0))],0⟩
def S9 [An A Cm](L:Nat)(Aj:Int)(rec:Int→Int→A)(o3:Nat×Cs):A:=
 (sl o3.1 [(lf (0,o3.2.1,Aj)),
 (rec o3.2.1 (B7 (Aj+1)))])
def Yn [An A Cm](L:Nat)(a0:Ac)(rec:Int→Int→A)(Al:Int)(Aj:Int)(nx1:Int→Int→A):A:=
 (lw Aj a0.Sites
 (nx1 Aj Al)
 (lf (1,Al,Aj)))
def Aed [An A Cm](a0:Ac)(rec:Int→Int→A)(Al:Int)(Aj:Int):A:=Yn L a0 rec Al Aj (fun Aj Al=>bd (Ia L Aj a0 L Al 0) fun o3=>S9 L Aj rec o3)
def H9(L:Nat)(a0:Ac):Nat→Int→Int→Option Cm
 |0,_,_=>none
 |n+1,Al,Aj=>Aed L a0 (H9 L a0 n) Al Aj
def Btv(a0:Ac):Prop:=LI (EV (O15 L) L 9 c15.w.l.u.l.l) [0,1,2,3,16,17,18] [1] (Bku a0) [.ret,.exit 0] (fun n v=>H9 L a0 n v.1 v.2) K n
def Bv4:Ba:=(Av 2 (Av 1 (Be (EV (O15 L) L 9 c15.w.l.u.l.l.w.r) (Hh (Jj (EV (O15 L) L 9 c15.w.l.u.l.l) [0,1,2,3,16,17,18] [1] n) [0,1,2,3,16,17,18] [1] K))))
theorem Cmk(Aj:Int)(a0:Ac)(ih:Btv L n K a0)(o3:Nat×Cs):kX [.ret,.exit 2] (Byf Aj a0) (Bv4 L n K) o3=ob (S9 L Aj (H9 L a0 n) o3) (kX [.ret,.exit 0] (Bku a0) K):=eE (S9 L Aj (fun Al Aj=>re (ih (Al,Aj))) o3)
theorem Cck(a0:Ac):∀n,Btv L n K a0:=lE (fun _=>rfl) fun n v ih=>eE (Yn L a0 (fun Al Aj=>re (ih (Al,Aj))) v.1 v.2 (fun Aj Al=>ho (Ccl L (Bv4 L n K) Aj a0 L (Al,0)) fun o3=>Cmk L n K Aj a0 ih o3))
def Ta [An A Int](L:Nat)(o4:Nat×Cs):A:=
 (sl o4.1 [(lf o4.2.1),
 (lf 0)])
def Bv5:Ba:=(Av 0 (Be (EV (O15 L) L 9 c15.w.r) (Cp Tryz.prog (RS Tryz.f15) kk)))
theorem Cml(a0:Ac)(o4:Nat×Cs):kX [.ret,.exit 0] (Bku a0) (Bv5 L kk) o4=ob (Ta L o4) (kQ I kk):=eE (Ta L o4)
def Yp [An A Int](a0:Ac)(nx2:A):A:=
 (bd (Ahu L a0) fun r1=>
 (cn (r1 != 0)
 (lf r1)
 nx2))
def At1 [An A Int](a0:Ac):A:=Yp L a0 (bd (H9 L a0 L 0 0) fun o4=>Ta L o4)
def Ul(a0:Ac):Option Int:=At1 L a0
def X15:F7:=E1 I 15 Cu (Ul L) fun a0 r h=>hF Tryz.func15 (C:=O15 L) (oS _) L (fun kk=>eE (Yp L a0 (ho (Cck L (Bv5 L kk) a0 L (0,0)) fun o4=>Cml L kk a0 o4))) h
def Atx [An A Bool](a0:Int)(a1:Int):A:=
 (cn (a0 == 2)
 (jp (.cn (a1 == 0)
 (.lf true)
 (.lf (a1 == 1))) (fun b1=>
 (lf b1)))
 (cn (a0 == 3)
 (jp (.cn (decide (a1≥0))
 (.lf (decide (a1≤1000000000)))
 (.lf false)) (fun b2=>
 (lf b2)))
 (bd (Ai4 L a1) fun r3=>
 (lf r3))))
def Acq(a0:Int)(a1:Int):Option Bool:=Atx L a0 a1
def X29:F7:=E2 B 29 (cI .i64) (cI .i64) (Acq L) fun a0 a1 r h=>hF Tryz.func29 (oS [X46 L]) L (fun kk=>eE (Atx L a0 a1)) h
def c28:=CC Tryz.f28
def c45:=CC Tryz.f45
def c8:=CC Tryz.f8
def O8:Bd:=oL [X15 L,X29 L]
def kq8:Tu8→Prop:=fun x=>kk ((fun(x:Tu8)=> .tup [.agg (Au x.1),I x.2]) x)
def B71:Ba:=(Av 1 (Be (EV (O8 L) L 9 c8.w.u.l.u.l.l.w.r) (Hh (Jj (EV (O8 L) L 9 c8.w.u.l.u.l.l) [0,1,2,4,5,6,7,21,22,23] [2,4,12] n) [0,1,2,4,5,6,7,21,22,23] [2,4,12] K)))
def B72:Ba:=(Av 1 (Be (EV (O8 L) L 9 c8.w.u.l.u.l.l.w.r) (Hh (Jj (EV (O8 L) L 9 c8.w.u.l.u.l.l) [0,1,2,4,5,6,7,21,22,23] [2,4] n) [0,1,2,4,5,6,7,21,22,23] [2,4] K)))
def Bxn:Ba:=(Av 0 (Be (EV (O8 L) L 9 c8.w.u.r) (Cp Tryz.prog (RS Tryz.f8) kk)))
def B8n(p1_0:Ac)(p1_1:ByteArray)(p1_2:Ae)(v:Cs):St:=⟨[(0,lv (.t39 [])),(1,.clo 27 0 [.loc 9 0]),(4,I v.1),(7,I 0),(8,I v.2)],[(2,(Au p1_0)),(4,[S p1_1,.lst true (.t39 []),.lst true (.t53 []),.lst true (.t81 [])]),(9,(B3 p1_2))],10⟩
def Aj3 [An A Cm](L:Nat)(p1_0:Ac)(p1_1:ByteArray)(p1_2:Ae)(rec:Int→Int→A)(Bt:Int)(B1:Int):A:=
 (cn (decide (B1 < 0))
 (gq (0≤B1)
 (gq (B1 < ((0:Nat):Int))
 (cn (((([]:List Ag).getD (Int.toNat B1) default).Name).toList == p1_2.Name.toList)
 (lf (0,B1,B1))
 (rec Bt (B7 (B1+1))))))
 (lf (1,Bt,B1)))
def Abu(L:Nat)(p1_0:Ac)(p1_1:ByteArray)(p1_2:Ae):Nat→Int→Int→Option Cm
 |0,_,_=>none
 |n+1,Bt,B1=>Aj3 L p1_0 p1_1 p1_2 (Abu L p1_0 p1_1 p1_2 n) Bt B1
theorem Cly(p1_0:Ac)(p1_1:ByteArray)(p1_2:Ae):LP (EV (O8 L) L 8 c26.u.l.u.l.l) [0,1,4,7,8] [2,4,9] (B8n p1_0 p1_1 p1_2) [.ret,.exit 0] (fun n v=>Abu L p1_0 p1_1 p1_2 n v.1 v.2) K:=lE (fun _=>rfl) fun n v ih=>eE (Aj3 L p1_0 p1_1 p1_2 (fun Bt B1=>re (ih (Bt,B1))) v.1 v.2)
def Bud(p1_0:Ac)(p1_1:ByteArray)(p1_2:Ae)(k:Bq):Int→Prop:=fun o=>k (I o) [(2,(Au p1_0)),(4,[S p1_1,.lst true (.t39 []),.lst true (.t53 []),.lst true (.t81 [])]),(9,(B3 p1_2))]
def Abw [An A Int](L:Nat)(o2:Nat×Cs):A:=
 (sl o2.1 [(lf o2.2.1),
 (lf (-1))])
def B7r:Ba:=(Av 0 (Be (EV (O8 L) L 8 c26.u.r) (Eb Tryz.prog (RS Tryz.f26) k)))
theorem Cqw(p1_0:Ac)(p1_1:ByteArray)(p1_2:Ae)(o2:Nat×Cs):kX [.ret,.exit 0] (B8n p1_0 p1_1 p1_2) (B7r L k) o2=ob (Abw L o2) (Bud p1_0 p1_1 p1_2 k):=eE (Abw L o2)
def Asf [An A Int](p1_0:Ac)(p1_1:ByteArray)(p1_2:Ae):A:=(bd (Abu L p1_0 p1_1 p1_2 L 0 0) fun o2=>Abw L o2)
def Ajy(p1_0:Ac)(p1_1:ByteArray)(p1_2:Ae):Option Int:=Asf L p1_0 p1_1 p1_2
theorem Clf(p1_0:Ac)(p1_1:ByteArray)(p1_2:Ae):YO (O8 L) L 9 26 [lv (.t39 []),.clo 27 0 [.loc 9 0]] [(2,(Au p1_0)),(4,[S p1_1,.lst true (.t39 []),.lst true (.t53 []),.lst true (.t81 [])]),(9,(B3 p1_2))] k=ob (Ajy L p1_0 p1_1 p1_2) (Bud p1_0 p1_1 p1_2 k):=(C3 _ _ _ jn4 _ _ _ _ _ _ _).trans (eE ((ho (Cly L (B7r L k) p1_0 p1_1 p1_2 L (0,0)) fun o2=>Cqw L k p1_0 p1_1 p1_2 o2)))
def B8o(p2_0:List Ae)(p2_1:Ac)(p2_2:ByteArray)(p2_3:Ae)(v:Cs):St:=⟨[(0,lv (.t41 p2_0)),(1,.clo 25 0 [.loc 9 0]),(4,I v.1),(7,I (p2_0.length:Int)),(8,I v.2)],[(2,(Au p2_1)),(4,[S p2_2,.lst true (.t39 []),.lst true (.t53 []),.lst true (.t81 [])]),(9,(B3 p2_3))],10⟩
def Aso [An A Cm](L:Nat)(p2_0:List Ae)(p2_1:Ac)(p2_2:ByteArray)(p2_3:Ae)(rec:Int→Int→A)(Ef:Int)(C7:Int):A:=
 (lw C7 p2_0
 (cn (((p2_0.getD (Int.toNat C7) default).Name).toList == p2_3.Name.toList)
 (lf (0,C7,C7))
 (rec Ef (B7 (C7+1))))
 (lf (1,Ef,C7)))
def Akg(L:Nat)(p2_0:List Ae)(p2_1:Ac)(p2_2:ByteArray)(p2_3:Ae):Nat→Int→Int→Option Cm
 |0,_,_=>none
 |n+1,Ef,C7=>Aso L p2_0 p2_1 p2_2 p2_3 (Akg L p2_0 p2_1 p2_2 p2_3 n) Ef C7
theorem Clz(p2_0:List Ae)(p2_1:Ac)(p2_2:ByteArray)(p2_3:Ae):LP (EV (O8 L) L 7 c45.u.l.u.l.l) [0,1,4,7,8] [2,4,9] (B8o p2_0 p2_1 p2_2 p2_3) [.ret,.exit 0] (fun n v=>Akg L p2_0 p2_1 p2_2 p2_3 n v.1 v.2) K:=lE (fun _=>rfl) fun n v ih=>eE (Aso L p2_0 p2_1 p2_2 p2_3 (fun Ef C7=>re (ih (Ef,C7))) v.1 v.2)
def Bue(p2_0:List Ae)(p2_1:Ac)(p2_2:ByteArray)(p2_3:Ae)(k:Bq):Int→Prop:=fun o=>k (I o) [(2,(Au p2_1)),(4,[S p2_2,.lst true (.t39 []),.lst true (.t53 []),.lst true (.t81 [])]),(9,(B3 p2_3))]
def Akn [An A Int](L:Nat)(o4:Nat×Cs):A:=
 (sl o4.1 [(lf o4.2.1),
 (lf (-1))])
def B7t:Ba:=(Av 0 (Be (EV (O8 L) L 7 c45.u.r) (Eb Tryz.prog (RS Tryz.f45) k)))
theorem Cqy(p2_0:List Ae)(p2_1:Ac)(p2_2:ByteArray)(p2_3:Ae)(o4:Nat×Cs):kX [.ret,.exit 0] (B8o p2_0 p2_1 p2_2 p2_3) (B7t L k) o4=ob (Akn L o4) (Bue p2_0 p2_1 p2_2 p2_3 k):=eE (Akn L o4)
def A30 [An A Int](p2_0:List Ae)(p2_1:Ac)(p2_2:ByteArray)(p2_3:Ae):A:=(bd (Akg L p2_0 p2_1 p2_2 p2_3 L 0 0) fun o4=>Akn L o4)
def Asn(p2_0:List Ae)(p2_1:Ac)(p2_2:ByteArray)(p2_3:Ae):Option Int:=A30 L p2_0 p2_1 p2_2 p2_3
theorem Clg(p2_0:List Ae)(p2_1:Ac)(p2_2:ByteArray)(p2_3:Ae):YO (O8 L) L 8 45 [lv (.t41 p2_0),.clo 25 0 [.loc 9 0]] [(2,(Au p2_1)),(4,[S p2_2,.lst true (.t39 []),.lst true (.t53 []),.lst true (.t81 [])]),(9,(B3 p2_3))] k=ob (Asn L p2_0 p2_1 p2_2 p2_3) (Bue p2_0 p2_1 p2_2 p2_3 k):=(C3 _ _ _ jn4 _ _ _ _ _ _ _).trans (eE ((ho (Clz L (B7t L k) p2_0 p2_1 p2_2 p2_3 L (0,0)) fun o4=>Cqy L k p2_0 p2_1 p2_2 p2_3 o4)))
def Bim(a1:List Ae)(a0:Ac)(v:Int×ByteArray):St:=⟨[(0,.any),(1,lv (.t41 a1)),(2,.loc 2 0),(4,.loc 4 0),(5,I v.1),(6,.any),(7,.lst true (.t39 [])),(21,lv (.t41 a1)),(22,I (a1.length:Int)),(23,I 0)],[(2,(Au a0)),(4,[S v.2,.lst true (.t39 []),.lst true (.t53 []),.lst true (.t81 [])])],0⟩
def Wo [An A (Nat×Int×ByteArray)](o3:Int)(a1:List Ae)(rec:Int→ByteArray→A)(o5:Int):A:=
 (cn (decide (o5≥0))
 (lf (0,(4,(⟨#[]⟩:ByteArray))))
 (gq (0≤o3)
 (gq (o3 < ((0:Nat):Int))
 (bd (Acq L ((([]:List Ag).getD (Int.toNat o3) default).Type_) ((a1.getD 0 default).N)) fun r6=>
 (cn (!r6)
 (lf (0,(2,(⟨#[]⟩:ByteArray))))
 (gq (0≤o3)
 (gq (o3 < ((0:Nat):Int))
 fl)))))))
def Ab5 [An A (Nat×Int×ByteArray)](L:Nat)(a1:List Ae)(I0:ByteArray)(Ai:Int)(a0:Ac)(rec:Int→ByteArray→A)(o3:Int)(nx6:ByteArray→Int→Int→A):A:=
 (cn (decide (o3 < 0))
 (lf (0,(5,(⟨#[]⟩:ByteArray))))
 (gq ((0:Int)≤0)
 (gq ((0:Int)≤0)
 (gq (0≤(a1.length:Int))
 (gq (((a1.length:Int):Int)≤(a1.length:Int))
 (nx6 I0 Ai o3))))))
def Abx [An A (Nat×Int×ByteArray)](a1:List Ae)(I0:ByteArray)(Ai:Int)(a0:Ac)(rec:Int→ByteArray→A)(o3:Int):A:=Ab5 L a1 I0 Ai a0 rec o3 (fun I0 Ai o3=>bd (Asn L ((a1.take 0).drop 0) a0 I0 (a1.getD 0 default)) fun o5=>Wo L o3 a1 rec o5)
def Ab4 [An A (Nat×Int×ByteArray)](L:Nat)(a1:List Ae)(a0:Ac)(rec:Int→ByteArray→A)(Ai:Int)(I0:ByteArray)(nx3:ByteArray→Int→A):A:=
 (lw 0 a1
 (nx3 I0 Ai)
 (lf (1,Ai,I0)))
def Aj2 [An A (Nat×Int×ByteArray)](a1:List Ae)(a0:Ac)(rec:Int→ByteArray→A)(Ai:Int)(I0:ByteArray):A:=Ab4 L a1 a0 rec Ai I0 (fun I0 Ai=>bd (Ajy L a0 I0 (a1.getD 0 default)) fun o3=>Abx L a1 I0 Ai a0 rec o3)
def Ir(L:Nat)(a1:List Ae)(a0:Ac):Nat→Int→ByteArray→Option (Nat×Int×ByteArray)
 |0,_,_=>none
 |n+1,Ai,I0=>Aj2 L a1 a0 (Ir L a1 a0 n) Ai I0
def Bt9(a1:List Ae)(a0:Ac):Prop:=LI (EV (O8 L) L 9 c8.w.u.l.u.l.l) [0,1,2,4,5,6,7,21,22,23] [2,4] (Bim a1 a0) [.ret,.exit 0] (fun n v=>Ir L a1 a0 n v.1 v.2) K n
def B7u(a1:List Ae)(a0:Ac)(I0:ByteArray)(Ai:Int)(o3:Int):Bq:=(B4 Tryz.prog (O8 L) (EI (O8 L) L 8) 2 (List.drop 3 c28.u.l.ops) ⟨[(6,.clo 25 0 [.loc 9 0]),(5,lv (.t41 ((a1.take 0).drop 0))),(0,lv (.t41 ((a1.take 0).drop 0))),(1,.clo 25 0 [.loc 9 0]),(4,B false)],[(2,(Au a0)),(4,[S I0,.lst true (.t39 []),.lst true (.t53 []),.lst true (.t81 [])]),(9,(B3 (a1.getD 0 default)))],10⟩ (some 7) (fun st9=>(Be (EV (O8 L) L 8 c28.u.r) (Eb Tryz.prog (RS Tryz.f28) (B4 Tryz.prog (O8 L) (EI (O8 L) L 9) 1 (List.drop 5 c8.w.u.l.u.l.l.w.l.l.w.u.l.l.u.r.l.ops) ⟨[(40,.clo 25 0 [.loc 9 0]),(39,lv (.t41 ((a1.take 0).drop 0))),(38,I 0),(37,lv (.t41 a1)),(1,lv (.t41 a1)),(2,.loc 2 0),(4,.loc 4 0),(5,I Ai),(7,.lst true (.t39 [])),(8,I 0),(9,.loc 9 0),(10,.clo 25 0 [.loc 9 0]),(11,I o3),(21,lv (.t41 a1)),(22,I (a1.length:Int)),(23,I 0),(24,B (decide (0 < (a1.length:Int)))),(25,I 0),(26,.ref (B3 (a1.getD 0 default))),(27,.agg (B3 (a1.getD 0 default))),(28,.clo 25 0 [.loc 9 0]),(29,lv (.t39 [])),(30,.clo 27 0 [.loc 9 0]),(31,I o3),(32,B (decide (o3 < 0))),(33,I o3),(34,B (decide (o3 < 0)))],[(2,(Au a0)),(4,[S I0,.lst true (.t39 []),.lst true (.t53 []),.lst true (.t81 [])]),(9,(B3 (a1.getD 0 default)))],0⟩ (some 41) (fun st9=>(Be (EV (O8 L) L 9 c8.w.u.l.u.l.l.w.l.l.w.u.l.l.w) (Av 2 (Be (EV (O8 L) L 9 c8.w.u.l.u.l.l.w.l.l.w.u.r) (B72 L n K)))) .normal st9)))) .normal st9))
theorem Cqz(a1:List Ae)(a0:Ac)(I0:ByteArray)(Ai:Int)(o3:Int)(ih:Bt9 L n K a1 a0)(o5:Int):Bue ((a1.take 0).drop 0) a0 I0 (a1.getD 0 default) (B7u L n K a1 a0 I0 Ai o3) o5=ob (Wo L o3 a1 (Ir L a1 a0 n) o5) (kX [.ret,.exit 0] (Bim a1 a0) K):=eE (Wo L o3 a1 (fun Ai I0=>re (ih (Ai,I0))) o5)
def B7s(a1:List Ae)(Ai:Int)(a0:Ac)(I0:ByteArray):Bq:=(B4 Tryz.prog (O8 L) (EI (O8 L) L 9) 1 (List.drop 3 c8.w.u.l.u.l.l.w.l.l.w.l.ops) ⟨[(30,.clo 27 0 [.loc 9 0]),(29,lv (.t39 [])),(1,lv (.t41 a1)),(2,.loc 2 0),(4,.loc 4 0),(5,I Ai),(7,.lst true (.t39 [])),(8,I 0),(9,.loc 9 0),(10,.clo 25 0 [.loc 9 0]),(21,lv (.t41 a1)),(22,I (a1.length:Int)),(23,I 0),(24,B (decide (0 < (a1.length:Int)))),(25,I 0),(26,.ref (B3 (a1.getD 0 default))),(27,.agg (B3 (a1.getD 0 default))),(28,.clo 25 0 [.loc 9 0])],[(2,(Au a0)),(4,[S I0,.lst true (.t39 []),.lst true (.t53 []),.lst true (.t81 [])]),(9,(B3 (a1.getD 0 default)))],0⟩ (some 31) (fun st9=>(Be (EV (O8 L) L 9 c8.w.u.l.u.l.l.w.l.l.w.r) (B72 L n K)) .normal st9))
theorem Cqx(a0:Ac)(I0:ByteArray)(a1:List Ae)(Ai:Int)(ih:Bt9 L n K a1 a0)(o3:Int):Bud a0 I0 (a1.getD 0 default) (B7s L n K a1 Ai a0 I0) o3=ob (Abx L a1 I0 Ai a0 (Ir L a1 a0 n) o3) (kX [.ret,.exit 0] (Bim a1 a0) K):=eE (Ab5 L a1 I0 Ai a0 (fun Ai I0=>re (ih (Ai,I0))) o3 (fun I0 Ai o3=>ho (Clg L (B7u L n K a1 a0 I0 Ai o3) ((a1.take 0).drop 0) a0 I0 (a1.getD 0 default)) fun o5=>Cqz L n K a1 a0 I0 Ai o3 ih o5))
theorem B75(a1:List Ae)(a0:Ac):∀n,Bt9 L n K a1 a0:=lE (fun _=>rfl) fun n v ih=>eE (Ab4 L a1 a0 (fun Ai I0=>re (ih (Ai,I0))) v.1 v.2 (fun I0 Ai=>ho (Clf L (B7s L n K a1 Ai a0 I0) a0 I0 (a1.getD 0 default)) fun o3=>Cqx L n K a0 I0 a1 Ai ih o3))
def B8p(p3_0:Nat)(p3_1:Ac)(p3_2:ByteArray)(p3_3:Ae)(p3_4:List Ag)(v:Cs):St:=⟨[(0,.vw false 12 39 3 p3_0),(1,.clo 27 0 [.loc 9 0]),(4,I v.1),(7,I (p3_0:Int)),(8,I v.2)],[(2,(Au p3_1)),(4,[S p3_2,.lst true (.t39 []),.lst true (.t53 []),.lst true (.t81 [])]),(9,(B3 p3_3)),(12,[.arrO (.t39 p3_4)])],13⟩
def Abh [An A Cm](L:Nat)(p3_0:Nat)(p3_1:Ac)(p3_2:ByteArray)(p3_3:Ae)(p3_4:List Ag)(rec:Int→Int→A)(W4:Int)(Rs:Int):A:=
 (cn (decide (Rs < (p3_0:Int)))
 (gq (0≤Rs)
 (gq (Rs < ((p3_0:Nat):Int))
 (cn (((p3_4.getD (Int.toNat Rs) default).Name).toList == p3_3.Name.toList)
 (lf (0,Rs,Rs))
 (rec W4 (B7 (Rs+1))))))
 (lf (1,W4,Rs)))
def Ng(L:Nat)(p3_0:Nat)(p3_1:Ac)(p3_2:ByteArray)(p3_3:Ae)(p3_4:List Ag):Nat→Int→Int→Option Cm
 |0,_,_=>none
 |n+1,W4,Rs=>Abh L p3_0 p3_1 p3_2 p3_3 p3_4 (Ng L p3_0 p3_1 p3_2 p3_3 p3_4 n) W4 Rs
theorem Cl1(p3_0:Nat)(p3_1:Ac)(p3_2:ByteArray)(p3_3:Ae)(p3_4:List Ag):LP (EV (O8 L) L 8 c26.u.l.u.l.l) [0,1,4,7,8] [2,4,9,12] (B8p p3_0 p3_1 p3_2 p3_3 p3_4) [.ret,.exit 0] (fun n v=>Ng L p3_0 p3_1 p3_2 p3_3 p3_4 n v.1 v.2) K:=lE (fun _=>rfl) fun n v ih=>eE (Abh L p3_0 p3_1 p3_2 p3_3 p3_4 (fun W4 Rs=>re (ih (W4,Rs))) v.1 v.2)
def Buf(p3_0:Nat)(p3_1:Ac)(p3_2:ByteArray)(p3_3:Ae)(p3_4:List Ag)(k:Bq):Int→Prop:=fun o=>k (I o) [(2,(Au p3_1)),(4,[S p3_2,.lst true (.t39 []),.lst true (.t53 []),.lst true (.t81 [])]),(9,(B3 p3_3)),(12,[.arrO (.t39 p3_4)])]
def q9 [An A Int](L:Nat)(o7:Nat×Cs):A:=
 (sl o7.1 [(lf o7.2.1),
 (lf (-1))])
def Bxb:Ba:=(Av 0 (Be (EV (O8 L) L 8 c26.u.r) (Eb Tryz.prog (RS Tryz.f26) k)))
theorem Cnr(p3_0:Nat)(p3_1:Ac)(p3_2:ByteArray)(p3_3:Ae)(p3_4:List Ag)(o7:Nat×Cs):kX [.ret,.exit 0] (B8p p3_0 p3_1 p3_2 p3_3 p3_4) (Bxb L k) o7=ob (q9 L o7) (Buf p3_0 p3_1 p3_2 p3_3 p3_4 k):=eE (q9 L o7)
def Asg [An A Int](p3_0:Nat)(p3_1:Ac)(p3_2:ByteArray)(p3_3:Ae)(p3_4:List Ag):A:=(bd (Ng L p3_0 p3_1 p3_2 p3_3 p3_4 L 0 0) fun o7=>q9 L o7)
def Wi(p3_0:Nat)(p3_1:Ac)(p3_2:ByteArray)(p3_3:Ae)(p3_4:List Ag):Option Int:=Asg L p3_0 p3_1 p3_2 p3_3 p3_4
theorem Clh(p3_0:Nat)(p3_1:Ac)(p3_2:ByteArray)(p3_3:Ae)(p3_4:List Ag):YO (O8 L) L 9 26 [.vw false 12 39 3 p3_0,.clo 27 0 [.loc 9 0]] [(2,(Au p3_1)),(4,[S p3_2,.lst true (.t39 []),.lst true (.t53 []),.lst true (.t81 [])]),(9,(B3 p3_3)),(12,[.arrO (.t39 p3_4)])] k=ob (Wi L p3_0 p3_1 p3_2 p3_3 p3_4) (Buf p3_0 p3_1 p3_2 p3_3 p3_4 k):=(C3 _ _ _ jn4 _ _ _ _ _ _ _).trans (eE ((ho (Cl1 L (Bxb L k) p3_0 p3_1 p3_2 p3_3 p3_4 L (0,0)) fun o7=>Cnr L k p3_0 p3_1 p3_2 p3_3 p3_4 o7)))
def B8q(p4_0:List Ae)(p4_1:Ac)(p4_2:ByteArray)(p4_3:Ae)(p4_4:List Ag)(v:Cs):St:=⟨[(0,lv (.t41 p4_0)),(1,.clo 25 0 [.loc 9 0]),(4,I v.1),(7,I (p4_0.length:Int)),(8,I v.2)],[(2,(Au p4_1)),(4,[S p4_2,.lst true (.t39 []),.lst true (.t53 []),.lst true (.t81 [])]),(9,(B3 p4_3)),(12,[.arrO (.t39 p4_4)])],13⟩
def Abi [An A Cm](L:Nat)(p4_0:List Ae)(p4_1:Ac)(p4_2:ByteArray)(p4_3:Ae)(p4_4:List Ag)(rec:Int→Int→A)(Ac1:Int)(Rg:Int):A:=
 (lw Rg p4_0
 (cn (((p4_0.getD (Int.toNat Rg) default).Name).toList == p4_3.Name.toList)
 (lf (0,Rg,Rg))
 (rec Ac1 (B7 (Rg+1))))
 (lf (1,Ac1,Rg)))
def Nh(L:Nat)(p4_0:List Ae)(p4_1:Ac)(p4_2:ByteArray)(p4_3:Ae)(p4_4:List Ag):Nat→Int→Int→Option Cm
 |0,_,_=>none
 |n+1,Ac1,Rg=>Abi L p4_0 p4_1 p4_2 p4_3 p4_4 (Nh L p4_0 p4_1 p4_2 p4_3 p4_4 n) Ac1 Rg
theorem Cl2(p4_0:List Ae)(p4_1:Ac)(p4_2:ByteArray)(p4_3:Ae)(p4_4:List Ag):LP (EV (O8 L) L 7 c45.u.l.u.l.l) [0,1,4,7,8] [2,4,9,12] (B8q p4_0 p4_1 p4_2 p4_3 p4_4) [.ret,.exit 0] (fun n v=>Nh L p4_0 p4_1 p4_2 p4_3 p4_4 n v.1 v.2) K:=lE (fun _=>rfl) fun n v ih=>eE (Abi L p4_0 p4_1 p4_2 p4_3 p4_4 (fun Ac1 Rg=>re (ih (Ac1,Rg))) v.1 v.2)
def Bug(p4_0:List Ae)(p4_1:Ac)(p4_2:ByteArray)(p4_3:Ae)(p4_4:List Ag)(k:Bq):Int→Prop:=fun o=>k (I o) [(2,(Au p4_1)),(4,[S p4_2,.lst true (.t39 []),.lst true (.t53 []),.lst true (.t81 [])]),(9,(B3 p4_3)),(12,[.arrO (.t39 p4_4)])]
def s7 [An A Int](L:Nat)(o9:Nat×Cs):A:=
 (sl o9.1 [(lf o9.2.1),
 (lf (-1))])
def Bxd:Ba:=(Av 0 (Be (EV (O8 L) L 7 c45.u.r) (Eb Tryz.prog (RS Tryz.f45) k)))
theorem Cnt(p4_0:List Ae)(p4_1:Ac)(p4_2:ByteArray)(p4_3:Ae)(p4_4:List Ag)(o9:Nat×Cs):kX [.ret,.exit 0] (B8q p4_0 p4_1 p4_2 p4_3 p4_4) (Bxd L k) o9=ob (s7 L o9) (Bug p4_0 p4_1 p4_2 p4_3 p4_4 k):=eE (s7 L o9)
def Ash [An A Int](p4_0:List Ae)(p4_1:Ac)(p4_2:ByteArray)(p4_3:Ae)(p4_4:List Ag):A:=(bd (Nh L p4_0 p4_1 p4_2 p4_3 p4_4 L 0 0) fun o9=>s7 L o9)
def Wj(p4_0:List Ae)(p4_1:Ac)(p4_2:ByteArray)(p4_3:Ae)(p4_4:List Ag):Option Int:=Ash L p4_0 p4_1 p4_2 p4_3 p4_4
theorem Cli(p4_0:List Ae)(p4_1:Ac)(p4_2:ByteArray)(p4_3:Ae)(p4_4:List Ag):YO (O8 L) L 8 45 [lv (.t41 p4_0),.clo 25 0 [.loc 9 0]] [(2,(Au p4_1)),(4,[S p4_2,.lst true (.t39 []),.lst true (.t53 []),.lst true (.t81 [])]),(9,(B3 p4_3)),(12,[.arrO (.t39 p4_4)])] k=ob (Wj L p4_0 p4_1 p4_2 p4_3 p4_4) (Bug p4_0 p4_1 p4_2 p4_3 p4_4 k):=(C3 _ _ _ jn4 _ _ _ _ _ _ _).trans (eE ((ho (Cl2 L (Bxd L k) p4_0 p4_1 p4_2 p4_3 p4_4 L (0,0)) fun o9=>Cnt L k p4_0 p4_1 p4_2 p4_3 p4_4 o9)))
def Brj(a1:List Ae)(a0:Ac)(v:Avg):St:=⟨[(0,.any),(1,lv (.t41 a1)),(2,.loc 2 0),(4,.loc 4 0),(5,I v.1),(6,.any),(7,.vw false 12 39 3 a0.Params.length),(21,lv (.t41 a1)),(22,I (a1.length:Int)),(23,I v.2.1)],[(2,(Au a0)),(4,[S v.2.2.1,.lst true (.t39 []),.lst true (.t53 []),.lst true (.t81 [])]),(12,[.arrO (.t39 v.2.2.2)])],0⟩
def U5 [An A (Nat×Avg)](E8:Int)(C9:List Ag)(o8:Int)(a0:Ac)(a1:List Ae)(Cq:Int)(Df:ByteArray)(rec:Int→Int→ByteArray→List Ag→A)(o10:Int):A:=
 (cn (decide (o10≥0))
 (lf (0,(4,E8,(⟨#[]⟩:ByteArray),C9)))
 (gi o8 a0.Params
 (bd (Acq L ((C9.getD (Int.toNat o8) default).Type_) ((a1.getD (Int.toNat E8) default).N)) fun r11=>
 (cn (!r11)
 (lf (0,(2,E8,(⟨#[]⟩:ByteArray),C9)))
 (gi o8 a0.Params
 (rec Cq (B7 (E8+1)) Df (C9.set (Int.toNat o8) (⟨(C9.getD (Int.toNat o8) default).Name,(C9.getD (Int.toNat o8) default).Type_,(a1.getD (Int.toNat E8) default).N⟩:Ag))))))))
def w7 [An A (Nat×Avg)](L:Nat)(E8:Int)(C9:List Ag)(a1:List Ae)(Df:ByteArray)(Cq:Int)(a0:Ac)(rec:Int→Int→ByteArray→List Ag→A)(o8:Int)(nx14:Int→ByteArray→(List Ag)→Int→Int→A):A:=
 (cn (decide (o8 < 0))
 (lf (0,(5,E8,(⟨#[]⟩:ByteArray),C9)))
 (gq ((0:Int)≤0)
 (gq (0≤E8)
 (gq ((E8:Int)≤(a1.length:Int))
 (gq (((a1.length:Int):Int)≤(a1.length:Int))
 (nx14 E8 Df C9 Cq o8))))))
def r0 [An A (Nat×Avg)](E8:Int)(C9:List Ag)(a1:List Ae)(Df:ByteArray)(Cq:Int)(a0:Ac)(rec:Int→Int→ByteArray→List Ag→A)(o8:Int):A:=w7 L E8 C9 a1 Df Cq a0 rec o8 (fun E8 Df C9 Cq o8=>bd (Wj L ((a1.take (Int.toNat E8)).drop 0) a0 Df (a1.getD (Int.toNat E8) default) C9) fun o10=>U5 L E8 C9 o8 a0 a1 Cq Df rec o10)
def w6 [An A (Nat×Avg)](L:Nat)(a1:List Ae)(a0:Ac)(rec:Int→Int→ByteArray→List Ag→A)(Cq:Int)(E8:Int)(Df:ByteArray)(C9:List Ag)(nx11:ByteArray→Int→(List Ag)→Int→A):A:=
 (lw E8 a1
 (nx11 Df E8 C9 Cq)
 (lf (1,Cq,E8,Df,C9)))
def Aj4 [An A (Nat×Avg)](a1:List Ae)(a0:Ac)(rec:Int→Int→ByteArray→List Ag→A)(Cq:Int)(E8:Int)(Df:ByteArray)(C9:List Ag):A:=w6 L a1 a0 rec Cq E8 Df C9 (fun Df E8 C9 Cq=>bd (Wi L a0.Params.length a0 Df (a1.getD (Int.toNat E8) default) C9) fun o8=>r0 L E8 C9 a1 Df Cq a0 rec o8)
def It(L:Nat)(a1:List Ae)(a0:Ac):Nat→Int→Int→ByteArray→List Ag→Option (Nat×Avg)
 |0,_,_,_,_=>none
 |n+1,Cq,E8,Df,C9=>Aj4 L a1 a0 (It L a1 a0 n) Cq E8 Df C9
def Bua(a1:List Ae)(a0:Ac):Prop:=LI (EV (O8 L) L 9 c8.w.u.l.u.l.l) [0,1,2,4,5,6,7,21,22,23] [2,4,12] (Brj a1 a0) [.ret,.exit 0] (fun n v=>It L a1 a0 n v.1 v.2.1 v.2.2.1 v.2.2.2) K n
def Bxe(a1:List Ae)(E8:Int)(a0:Ac)(Df:ByteArray)(C9:List Ag)(Cq:Int)(o8:Int):Bq:=(B4 Tryz.prog (O8 L) (EI (O8 L) L 8) 2 (List.drop 3 c28.u.l.ops) ⟨[(6,.clo 25 0 [.loc 9 0]),(5,lv (.t41 ((a1.take (Int.toNat E8)).drop 0))),(0,lv (.t41 ((a1.take (Int.toNat E8)).drop 0))),(1,.clo 25 0 [.loc 9 0]),(4,B false)],[(2,(Au a0)),(4,[S Df,.lst true (.t39 []),.lst true (.t53 []),.lst true (.t81 [])]),(9,(B3 (a1.getD (Int.toNat E8) default))),(12,[.arrO (.t39 C9)])],13⟩ (some 7) (fun st9=>(Be (EV (O8 L) L 8 c28.u.r) (Eb Tryz.prog (RS Tryz.f28) (B4 Tryz.prog (O8 L) (EI (O8 L) L 9) 1 (List.drop 5 c8.w.u.l.u.l.l.w.l.l.w.u.l.l.u.r.l.ops) ⟨[(40,.clo 25 0 [.loc 9 0]),(39,lv (.t41 ((a1.take (Int.toNat E8)).drop 0))),(38,I E8),(37,lv (.t41 a1)),(1,lv (.t41 a1)),(2,.loc 2 0),(4,.loc 4 0),(5,I Cq),(7,.vw false 12 39 3 a0.Params.length),(8,I E8),(9,.loc 9 0),(10,.clo 25 0 [.loc 9 0]),(11,I o8),(21,lv (.t41 a1)),(22,I (a1.length:Int)),(23,I E8),(24,B (decide (E8 < (a1.length:Int)))),(25,I E8),(26,.ref (B3 (a1.getD (Int.toNat E8) default))),(27,.agg (B3 (a1.getD (Int.toNat E8) default))),(28,.clo 25 0 [.loc 9 0]),(29,.vw false 12 39 3 a0.Params.length),(30,.clo 27 0 [.loc 9 0]),(31,I o8),(32,B (decide (o8 < 0))),(33,I o8),(34,B (decide (o8 < 0)))],[(2,(Au a0)),(4,[S Df,.lst true (.t39 []),.lst true (.t53 []),.lst true (.t81 [])]),(9,(B3 (a1.getD (Int.toNat E8) default))),(12,[.arrO (.t39 C9)])],0⟩ (some 41) (fun st9=>(Be (EV (O8 L) L 9 c8.w.u.l.u.l.l.w.l.l.w.u.l.l.w) (Av 2 (Be (EV (O8 L) L 9 c8.w.u.l.u.l.l.w.l.l.w.u.r) (B71 L n K)))) .normal st9)))) .normal st9))
theorem Cnu(a1:List Ae)(E8:Int)(a0:Ac)(Df:ByteArray)(C9:List Ag)(Cq:Int)(o8:Int)(ih:Bua L n K a1 a0)(o10:Int):Bug ((a1.take (Int.toNat E8)).drop 0) a0 Df (a1.getD (Int.toNat E8) default) C9 (Bxe L n K a1 E8 a0 Df C9 Cq o8) o10=ob (U5 L E8 C9 o8 a0 a1 Cq Df (It L a1 a0 n) o10) (kX [.ret,.exit 0] (Brj a1 a0) K):=eE (U5 L E8 C9 o8 a0 a1 Cq Df (fun Cq E8 Df C9=>re (ih (Cq,E8,Df,C9))) o10)
def Bxc(a0:Ac)(a1:List Ae)(Cq:Int)(E8:Int)(Df:ByteArray)(C9:List Ag):Bq:=(B4 Tryz.prog (O8 L) (EI (O8 L) L 9) 1 (List.drop 3 c8.w.u.l.u.l.l.w.l.l.w.l.ops) ⟨[(30,.clo 27 0 [.loc 9 0]),(29,.vw false 12 39 3 a0.Params.length),(1,lv (.t41 a1)),(2,.loc 2 0),(4,.loc 4 0),(5,I Cq),(7,.vw false 12 39 3 a0.Params.length),(8,I E8),(9,.loc 9 0),(10,.clo 25 0 [.loc 9 0]),(21,lv (.t41 a1)),(22,I (a1.length:Int)),(23,I E8),(24,B (decide (E8 < (a1.length:Int)))),(25,I E8),(26,.ref (B3 (a1.getD (Int.toNat E8) default))),(27,.agg (B3 (a1.getD (Int.toNat E8) default))),(28,.clo 25 0 [.loc 9 0])],[(2,(Au a0)),(4,[S Df,.lst true (.t39 []),.lst true (.t53 []),.lst true (.t81 [])]),(9,(B3 (a1.getD (Int.toNat E8) default))),(12,[.arrO (.t39 C9)])],0⟩ (some 31) (fun st9=>(Be (EV (O8 L) L 9 c8.w.u.l.u.l.l.w.l.l.w.r) (B71 L n K)) .normal st9))
theorem Cns(a0:Ac)(Df:ByteArray)(a1:List Ae)(E8:Int)(C9:List Ag)(Cq:Int)(ih:Bua L n K a1 a0)(o8:Int):Buf a0.Params.length a0 Df (a1.getD (Int.toNat E8) default) C9 (Bxc L n K a0 a1 Cq E8 Df C9) o8=ob (r0 L E8 C9 a1 Df Cq a0 (It L a1 a0 n) o8) (kX [.ret,.exit 0] (Brj a1 a0) K):=eE (w7 L E8 C9 a1 Df Cq a0 (fun Cq E8 Df C9=>re (ih (Cq,E8,Df,C9))) o8 (fun E8 Df C9 Cq o8=>ho (Cli L (Bxe L n K a1 E8 a0 Df C9 Cq o8) ((a1.take (Int.toNat E8)).drop 0) a0 Df (a1.getD (Int.toNat E8) default) C9) fun o10=>Cnu L n K a1 E8 a0 Df C9 Cq o8 ih o10))
theorem Cl0(a1:List Ae)(a0:Ac):∀n,Bua L n K a1 a0:=lE (fun _=>rfl) fun n v ih=>eE (w6 L a1 a0 (fun Cq E8 Df C9=>re (ih (Cq,E8,Df,C9))) v.1 v.2.1 v.2.2.1 v.2.2.2 (fun Df E8 C9 Cq=>ho (Clh L (Bxc L n K a0 a1 Cq E8 Df C9) a0.Params.length a0 Df (a1.getD (Int.toNat E8) default) C9) fun o8=>Cns L n K a0 Df a1 E8 C9 Cq ih o8))
def Iv [An A Tu8](L:Nat)(a0:Ac)(o12:Nat×Int×ByteArray):A:=
 (sl o12.1 [(lf ((⟨o12.2.2,[],[],[]⟩:Ac),o12.2.1)),
 (lf ((⟨a0.Name,[],a0.Sites,a0.Links⟩:Ac),0))])
def B7v:Ba:=(Bxn L kk)
theorem Cq0(a1:List Ae)(a0:Ac)(o12:Nat×Int×ByteArray):kX [.ret,.exit 0] (Bim a1 a0) (B7v L kk) o12=ob (Iv L a0 o12) (kq8 kk):=eE (Iv L a0 o12)
def Iw [An A Tu8](L:Nat)(a0:Ac)(o13:Nat×Int×ByteArray):A:=
 (sl o13.1 [(lf ((⟨o13.2.2,[],[],[]⟩:Ac),o13.2.1)),
 (lf ((⟨a0.Name,[],a0.Sites,a0.Links⟩:Ac),0))])
def B7w:Ba:=(Bxn L kk)
theorem Cq1(a1:List Ae)(a0:Ac)(o13:Nat×Int×ByteArray):kX [.ret,.exit 0] (Bim a1 a0) (B7w L kk) o13=ob (Iw L a0 o13) (kq8 kk):=eE (Iw L a0 o13)
def Hu [An A Tu8](L:Nat)(a0:Ac)(o14:Nat×Avg):A:=
 (sl o14.1 [(lf ((⟨o14.2.2.2.1,[],[],[]⟩:Ac),o14.2.1)),
 (lf ((⟨a0.Name,o14.2.2.2.2,a0.Sites,a0.Links⟩:Ac),0))])
def Bxf:Ba:=(Bxn L kk)
theorem Cnv(a1:List Ae)(a0:Ac)(o14:Nat×Avg):kX [.ret,.exit 0] (Brj a1 a0) (Bxf L kk) o14=ob (Hu L a0 o14) (kq8 kk):=eE (Hu L a0 o14)
def Kw [An A Tu8](a0:Ac)(a1:List Ae)(nx7:A)(nx8:A)(nx15:A):A:=
 (bd (Ul L a0) fun r1=>
 (cn (r1 != 0)
 (lf ((⟨(⟨#[]⟩:ByteArray),[],[],[]⟩:Ac),r1))
 (cn (Nat.beq a0.Params.length 0)
 nx7
 (gq (0 < a0.Params.length)
 (cn (Nat.beq a0.Params.length 0)
 nx8
 (gq (a0.Params.length*32≤140737488355328)
 (gq (a0.Params.length≤maxLen)
 nx15)))))))
def Ak5 [An A Tu8](a0:Ac)(a1:List Ae):A:=Kw L a0 a1 (bd (Ir L a1 a0 L 0 (⟨#[]⟩:ByteArray)) fun o12=>Iv L a0 o12) (bd (Ir L a1 a0 L 0 (⟨#[]⟩:ByteArray)) fun o13=>Iw L a0 o13) (bd (It L a1 a0 L 0 0 (⟨#[]⟩:ByteArray) a0.Params) fun o14=>Hu L a0 o14)
def Sj(a0:Ac)(a1:List Ae):Option Tu8:=Ak5 L a0 a1
def X8:F7:=E2 (fun(x:Tu8)=> .tup [.agg (Au x.1),I x.2]) 8 Cu B1b (Sj L) fun a0 a1 r h=>hF Tryz.func8 (C:=O8 L) (oS _) L (fun kk=>eE (Kw L a0 a1 (ho (B75 L (B7v L kk) a1 a0 L (0,(⟨#[]⟩:ByteArray))) fun o12=>Cq0 L kk a1 a0 o12) (ho (B75 L (B7w L kk) a1 a0 L (0,(⟨#[]⟩:ByteArray))) fun o13=>Cq1 L kk a1 a0 o13) (ho (Cl0 L (Bxf L kk) a1 a0 L (0,0,(⟨#[]⟩:ByteArray),a0.Params)) fun o14=>Cnv L kk a1 a0 o14))) h
end
end Go.Proofs.YtofcpkmnhmnfcaaGreatR.Ev
