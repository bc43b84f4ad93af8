import Derived.Test.YtfencmicmnhglaaGreatG8
import Derived.Test.YtfencmicmnhglaaGreatG9
namespace Go.Proofs.YtfencmicmnhglaaGreat.Ev
open Go An
set_option maxRecDepth 100000
set_option maxHeartbeats 4000000
set_option linter.unusedVariables false
set_option linter.unusedSimpArgs false
set_option linter.unnecessarySimpa false
noncomputable section
variable {A:Type} (L n:Nat) (kk:Il) (K:Br) (k:Bn)
def c39:=CC Tryz.f39
def c58:=CC Tryz.f58
def c14:=CC Tryz.f14
def O14:Bq:=oL [X24 L,X40 L]
def Bzi:(Ad×Int)→Prop:=fun x=>kk ((fun(x:Ad×Int)=> .tup [.agg (Ar x.1),I x.2]) x)
def Bgb:Br:=(Ba 1 (Bg (EV (O14 L) L 9 c14.w.u.l.u.l.l.w.r) (Ii (Kw (EV (O14 L) L 9 c14.w.u.l.u.l.l) [0,1,2,4,5,6,7,21,22,23] [2,4,12] n) [0,1,2,4,5,6,7,21,22,23] [2,4,12] K)))
def Bgc:Br:=(Ba 1 (Bg (EV (O14 L) L 9 c14.w.u.l.u.l.l.w.r) (Ii (Kw (EV (O14 L) L 9 c14.w.u.l.u.l.l) [0,1,2,4,5,6,7,21,22,23] [2,4] n) [0,1,2,4,5,6,7,21,22,23] [2,4] K)))
def Bhd(p1_0:Ad)(p1_1:ByteArray)(p1_2:Ag)(v:D2):St:=⟨[(0,lv (.t77 [])),(1,.clo 38 0 [.loc 9 0]),(4,I v.1),(7,I 0),(8,I v.2)],[(2,(Ar p1_0)),(4,[S p1_1,.lst true (.t77 []),.lst true (.t55 []),.lst true (.t167 [])]),(9,(B3 p1_2))],10⟩
def Aha [An A Ki](L:Nat)(p1_0:Ad)(p1_1:ByteArray)(p1_2:Ag)(rec:Int→Int→A)(Dz:Int)(B7:Int):A:=
 (cn (decide (B7 < 0))
 (gq (0≤B7)
 (gq (B7 < ((0:Nat):Int))
 (cn (((([]:List Ah).getD (Int.toNat B7) default).Name).toList == p1_2.Name.toList)
 (lf (0,B7,B7))
 (rec Dz (Dp (B7+1))))))
 (lf (1,Dz,B7)))
def Aa4(L:Nat)(p1_0:Ad)(p1_1:ByteArray)(p1_2:Ag):Nat→Int→Int→Option Ki
 |0,_,_=>none
 |n+1,Dz,B7=>Aha L p1_0 p1_1 p1_2 (Aa4 L p1_0 p1_1 p1_2 n) Dz B7
theorem Br8(p1_0:Ad)(p1_1:ByteArray)(p1_2:Ag):LP (EV (O14 L) L 8 c25.u.l.u.l.l) [0,1,4,7,8] [2,4,9] (Bhd p1_0 p1_1 p1_2) [.ret,.exit 0] (fun n v=>Aa4 L p1_0 p1_1 p1_2 n v.1 v.2) K:=lE (fun _=>rfl) fun n v ih=>eE (Aha L p1_0 p1_1 p1_2 (fun Dz B7=>re (ih (Dz,B7))) v.1 v.2)
def A3y(p1_0:Ad)(p1_1:ByteArray)(p1_2:Ag)(k:Bn):Int→Prop:=fun o=>k (I o) [(2,(Ar p1_0)),(4,[S p1_1,.lst true (.t77 []),.lst true (.t55 []),.lst true (.t167 [])]),(9,(B3 p1_2))]
def Aba [An A Int](L:Nat)(o2:Nat×D2):A:=
 (sl o2.1 [(lf o2.2.1),
 (lf (-1))])
def Bfl:Br:=(Ba 0 (Bg (EV (O14 L) L 8 c25.u.r) (Dq Tryz.prog (RS Tryz.f25) k)))
theorem B1b(p1_0:Ad)(p1_1:ByteArray)(p1_2:Ag)(o2:Nat×D2):kX [.ret,.exit 0] (Bhd p1_0 p1_1 p1_2) (Bfl L k) o2=ob (Aba L o2) (A3y p1_0 p1_1 p1_2 k):=eE (Aba L o2)
def Ark [An A Int](p1_0:Ad)(p1_1:ByteArray)(p1_2:Ag):A:=(bd (Aa4 L p1_0 p1_1 p1_2 L 0 0) fun o2=>Aba L o2)
def Ag8(p1_0:Ad)(p1_1:ByteArray)(p1_2:Ag):Option Int:=Ark L p1_0 p1_1 p1_2
theorem Bro(p1_0:Ad)(p1_1:ByteArray)(p1_2:Ag):YO (O14 L) L 9 25 [lv (.t77 []),.clo 38 0 [.loc 9 0]] [(2,(Ar p1_0)),(4,[S p1_1,.lst true (.t77 []),.lst true (.t55 []),.lst true (.t167 [])]),(9,(B3 p1_2))] k=ob (Ag8 L p1_0 p1_1 p1_2) (A3y p1_0 p1_1 p1_2 k):=(Cr _ _ _ jn4 _ _ _ _ _ _ _).trans (eE ((ho (Br8 L (Bfl L k) p1_0 p1_1 p1_2 L (0,0)) fun o2=>B1b L k p1_0 p1_1 p1_2 o2)))
def Bhe(p2_0:List Ag)(p2_1:Ad)(p2_2:ByteArray)(p2_3:Ag)(v:D2):St:=⟨[(0,lv (.t70 p2_0)),(1,.clo 37 0 [.loc 9 0]),(4,I v.1),(7,I (p2_0.length:Int)),(8,I v.2)],[(2,(Ar p2_1)),(4,[S p2_2,.lst true (.t77 []),.lst true (.t55 []),.lst true (.t167 [])]),(9,(B3 p2_3))],10⟩
def Ahb [An A Ki](L:Nat)(p2_0:List Ag)(p2_1:Ad)(p2_2:ByteArray)(p2_3:Ag)(rec:Int→Int→A)(Pu:Int)(E7:Int):A:=
 (lw E7 p2_0
 (cn (((p2_0.getD (Int.toNat E7) default).Name).toList == p2_3.Name.toList)
 (lf (0,E7,E7))
 (rec Pu (Dp (E7+1))))
 (lf (1,Pu,E7)))
def Aa5(L:Nat)(p2_0:List Ag)(p2_1:Ad)(p2_2:ByteArray)(p2_3:Ag):Nat→Int→Int→Option Ki
 |0,_,_=>none
 |n+1,Pu,E7=>Ahb L p2_0 p2_1 p2_2 p2_3 (Aa5 L p2_0 p2_1 p2_2 p2_3 n) Pu E7
theorem Br9(p2_0:List Ag)(p2_1:Ad)(p2_2:ByteArray)(p2_3:Ag):LP (EV (O14 L) L 7 c58.u.l.u.l.l) [0,1,4,7,8] [2,4,9] (Bhe p2_0 p2_1 p2_2 p2_3) [.ret,.exit 0] (fun n v=>Aa5 L p2_0 p2_1 p2_2 p2_3 n v.1 v.2) K:=lE (fun _=>rfl) fun n v ih=>eE (Ahb L p2_0 p2_1 p2_2 p2_3 (fun Pu E7=>re (ih (Pu,E7))) v.1 v.2)
def A3z(p2_0:List Ag)(p2_1:Ad)(p2_2:ByteArray)(p2_3:Ag)(k:Bn):Int→Prop:=fun o=>k (I o) [(2,(Ar p2_1)),(4,[S p2_2,.lst true (.t77 []),.lst true (.t55 []),.lst true (.t167 [])]),(9,(B3 p2_3))]
def Abb [An A Int](L:Nat)(o4:Nat×D2):A:=
 (sl o4.1 [(lf o4.2.1),
 (lf (-1))])
def Bfn:Br:=(Ba 0 (Bg (EV (O14 L) L 7 c58.u.r) (Dq Tryz.prog (RS Tryz.f58) k)))
theorem B1d(p2_0:List Ag)(p2_1:Ad)(p2_2:ByteArray)(p2_3:Ag)(o4:Nat×D2):kX [.ret,.exit 0] (Bhe p2_0 p2_1 p2_2 p2_3) (Bfn L k) o4=ob (Abb L o4) (A3z p2_0 p2_1 p2_2 p2_3 k):=eE (Abb L o4)
def Arl [An A Int](p2_0:List Ag)(p2_1:Ad)(p2_2:ByteArray)(p2_3:Ag):A:=(bd (Aa5 L p2_0 p2_1 p2_2 p2_3 L 0 0) fun o4=>Abb L o4)
def Ag9(p2_0:List Ag)(p2_1:Ad)(p2_2:ByteArray)(p2_3:Ag):Option Int:=Arl L p2_0 p2_1 p2_2 p2_3
theorem Brp(p2_0:List Ag)(p2_1:Ad)(p2_2:ByteArray)(p2_3:Ag):YO (O14 L) L 8 58 [lv (.t70 p2_0),.clo 37 0 [.loc 9 0]] [(2,(Ar p2_1)),(4,[S p2_2,.lst true (.t77 []),.lst true (.t55 []),.lst true (.t167 [])]),(9,(B3 p2_3))] k=ob (Ag9 L p2_0 p2_1 p2_2 p2_3) (A3z p2_0 p2_1 p2_2 p2_3 k):=(Cr _ _ _ jn4 _ _ _ _ _ _ _).trans (eE ((ho (Br9 L (Bfn L k) p2_0 p2_1 p2_2 p2_3 L (0,0)) fun o4=>B1d L k p2_0 p2_1 p2_2 p2_3 o4)))
def A0k(a1:List Ag)(a0:Ad)(v:Int×ByteArray):St:=⟨[(0,.any),(1,lv (.t70 a1)),(2,.loc 2 0),(4,.loc 4 0),(5,I v.1),(6,.any),(7,.lst true (.t77 [])),(21,lv (.t70 a1)),(22,I (a1.length:Int)),(23,I 0)],[(2,(Ar a0)),(4,[S v.2,.lst true (.t77 []),.lst true (.t55 []),.lst true (.t167 [])])],0⟩
def Abc [An A (Nat×Int×ByteArray)](o3:Int)(a1:List Ag)(rec:Int→ByteArray→A)(o5:Int):A:=
 (cn (decide (o5≥0))
 (lf (0,(4,(⟨#[]⟩:ByteArray))))
 (gq (0≤o3)
 (gq (o3 < ((0:Nat):Int))
 (bd (Xk L ((([]:List Ah).getD (Int.toNat o3) default).Type_) ((a1.getD 0 default).N)) fun r6=>
 (cn (!r6)
 (lf (0,(2,(⟨#[]⟩:ByteArray))))
 (gq (0≤o3)
 (gq (o3 < ((0:Nat):Int))
 fl)))))))
def Ahi [An A (Nat×Int×ByteArray)](L:Nat)(a1:List Ag)(Hw:ByteArray)(Ao:Int)(a0:Ad)(rec:Int→ByteArray→A)(o3:Int)(nx6:ByteArray→Int→Int→A):A:=
 (cn (decide (o3 < 0))
 (lf (0,(5,(⟨#[]⟩:ByteArray))))
 (gq (0≤0)
 (gq (0≤0)
 (gq (0≤(a1.length:Int))
 (gq (((a1.length:Int):Int)≤(a1.length:Int))
 (nx6 Hw Ao o3))))))
def Ahg [An A (Nat×Int×ByteArray)](a1:List Ag)(Hw:ByteArray)(Ao:Int)(a0:Ad)(rec:Int→ByteArray→A)(o3:Int):A:=Ahi L a1 Hw Ao a0 rec o3 (fun Hw Ao o3=>bd (Ag9 L ((a1.take 0).drop 0) a0 Hw (a1.getD 0 default)) fun o5=>Abc L o3 a1 rec o5)
def Ahh [An A (Nat×Int×ByteArray)](L:Nat)(a1:List Ag)(a0:Ad)(rec:Int→ByteArray→A)(Ao:Int)(Hw:ByteArray)(nx3:ByteArray→Int→A):A:=
 (lw 0 a1
 (nx3 Hw Ao)
 (lf (1,Ao,Hw)))
def Aro [An A (Nat×Int×ByteArray)](a1:List Ag)(a0:Ad)(rec:Int→ByteArray→A)(Ao:Int)(Hw:ByteArray):A:=Ahh L a1 a0 rec Ao Hw (fun Hw Ao=>bd (Ag8 L a0 Hw (a1.getD 0 default)) fun o3=>Ahg L a1 Hw Ao a0 rec o3)
def Sc(L:Nat)(a1:List Ag)(a0:Ad):Nat→Int→ByteArray→Option (Nat×Int×ByteArray)
 |0,_,_=>none
 |n+1,Ao,Hw=>Aro L a1 a0 (Sc L a1 a0 n) Ao Hw
def A3w(a1:List Ag)(a0:Ad):Prop:=LI (EV (O14 L) L 9 c14.w.u.l.u.l.l) [0,1,2,4,5,6,7,21,22,23] [2,4] (A0k a1 a0) [.ret,.exit 0] (fun n v=>Sc L a1 a0 n v.1 v.2) K n
def Bfo(a1:List Ag)(a0:Ad)(Hw:ByteArray)(Ao:Int)(o3:Int):Bn:=(Bu Tryz.prog (O14 L) (EI (O14 L) L 8) 2 (List.drop 3 c39.u.l.ops) ⟨[(6,.clo 37 0 [.loc 9 0]),(5,lv (.t70 ((a1.take 0).drop 0))),(0,lv (.t70 ((a1.take 0).drop 0))),(1,.clo 37 0 [.loc 9 0]),(4,B false)],[(2,(Ar a0)),(4,[S Hw,.lst true (.t77 []),.lst true (.t55 []),.lst true (.t167 [])]),(9,(B3 (a1.getD 0 default)))],10⟩ (some 7) (fun st9=>(Bg (EV (O14 L) L 8 c39.u.r) (Dq Tryz.prog (RS Tryz.f39) (Bu Tryz.prog (O14 L) (EI (O14 L) L 9) 1 (List.drop 5 c14.w.u.l.u.l.l.w.l.l.w.u.l.l.u.r.l.ops) ⟨[(40,.clo 37 0 [.loc 9 0]),(39,lv (.t70 ((a1.take 0).drop 0))),(38,I 0),(37,lv (.t70 a1)),(1,lv (.t70 a1)),(2,.loc 2 0),(4,.loc 4 0),(5,I Ao),(7,.lst true (.t77 [])),(8,I 0),(9,.loc 9 0),(10,.clo 37 0 [.loc 9 0]),(11,I o3),(21,lv (.t70 a1)),(22,I (a1.length:Int)),(23,I 0),(24,B (decide (0 < (a1.length:Int)))),(25,I 0),(26,.ref (B3 (a1.getD 0 default))),(27,.agg (B3 (a1.getD 0 default))),(28,.clo 37 0 [.loc 9 0]),(29,lv (.t77 [])),(30,.clo 38 0 [.loc 9 0]),(31,I o3),(32,B (decide (o3 < 0))),(33,I o3),(34,B (decide (o3 < 0)))],[(2,(Ar a0)),(4,[S Hw,.lst true (.t77 []),.lst true (.t55 []),.lst true (.t167 [])]),(9,(B3 (a1.getD 0 default)))],0⟩ (some 41) (fun st9=>(Bg (EV (O14 L) L 9 c14.w.u.l.u.l.l.w.l.l.w.u.l.l.w) (Ba 2 (Bg (EV (O14 L) L 9 c14.w.u.l.u.l.l.w.l.l.w.u.r) (Bgc L n K)))) .normal st9)))) .normal st9))
theorem B1e(a1:List Ag)(a0:Ad)(Hw:ByteArray)(Ao:Int)(o3:Int)(ih:A3w L n K a1 a0)(o5:Int):A3z ((a1.take 0).drop 0) a0 Hw (a1.getD 0 default) (Bfo L n K a1 a0 Hw Ao o3) o5=ob (Abc L o3 a1 (Sc L a1 a0 n) o5) (kX [.ret,.exit 0] (A0k a1 a0) K):=eE (Abc L o3 a1 (fun Ao Hw=>re (ih (Ao,Hw))) o5)
def Bfm(a1:List Ag)(Ao:Int)(a0:Ad)(Hw:ByteArray):Bn:=(Bu Tryz.prog (O14 L) (EI (O14 L) L 9) 1 (List.drop 3 c14.w.u.l.u.l.l.w.l.l.w.l.ops) ⟨[(30,.clo 38 0 [.loc 9 0]),(29,lv (.t77 [])),(1,lv (.t70 a1)),(2,.loc 2 0),(4,.loc 4 0),(5,I Ao),(7,.lst true (.t77 [])),(8,I 0),(9,.loc 9 0),(10,.clo 37 0 [.loc 9 0]),(21,lv (.t70 a1)),(22,I (a1.length:Int)),(23,I 0),(24,B (decide (0 < (a1.length:Int)))),(25,I 0),(26,.ref (B3 (a1.getD 0 default))),(27,.agg (B3 (a1.getD 0 default))),(28,.clo 37 0 [.loc 9 0])],[(2,(Ar a0)),(4,[S Hw,.lst true (.t77 []),.lst true (.t55 []),.lst true (.t167 [])]),(9,(B3 (a1.getD 0 default)))],0⟩ (some 31) (fun st9=>(Bg (EV (O14 L) L 9 c14.w.u.l.u.l.l.w.l.l.w.r) (Bgc L n K)) .normal st9))
theorem B1c(a0:Ad)(Hw:ByteArray)(a1:List Ag)(Ao:Int)(ih:A3w L n K a1 a0)(o3:Int):A3y a0 Hw (a1.getD 0 default) (Bfm L n K a1 Ao a0 Hw) o3=ob (Ahg L a1 Hw Ao a0 (Sc L a1 a0 n) o3) (kX [.ret,.exit 0] (A0k a1 a0) K):=eE (Ahi L a1 Hw Ao a0 (fun Ao Hw=>re (ih (Ao,Hw))) o3 (fun Hw Ao o3=>ho (Brp L (Bfo L n K a1 a0 Hw Ao o3) ((a1.take 0).drop 0) a0 Hw (a1.getD 0 default)) fun o5=>B1e L n K a1 a0 Hw Ao o3 ih o5))
theorem Br7(a1:List Ag)(a0:Ad):∀n,A3w L n K a1 a0:=lE (fun _=>rfl) fun n v ih=>eE (Ahh L a1 a0 (fun Ao Hw=>re (ih (Ao,Hw))) v.1 v.2 (fun Hw Ao=>ho (Bro L (Bfm L n K a1 Ao a0 Hw) a0 Hw (a1.getD 0 default)) fun o3=>B1c L n K a0 Hw a1 Ao ih o3))
def Bhf(p3_0:Nat)(p3_1:Ad)(p3_2:ByteArray)(p3_3:Ag)(p3_4:List Ah)(v:D2):St:=⟨[(0,.vw false 12 77 3 p3_0),(1,.clo 38 0 [.loc 9 0]),(4,I v.1),(7,I (p3_0:Int)),(8,I v.2)],[(2,(Ar p3_1)),(4,[S p3_2,.lst true (.t77 []),.lst true (.t55 []),.lst true (.t167 [])]),(9,(B3 p3_3)),(12,[.arrO (.t77 p3_4)])],13⟩
def Wp [An A Ki](L:Nat)(p3_0:Nat)(p3_1:Ad)(p3_2:ByteArray)(p3_3:Ag)(p3_4:List Ah)(rec:Int→Int→A)(Bc2:Int)(Nv:Int):A:=
 (cn (decide (Nv < (p3_0:Int)))
 (gq (0≤Nv)
 (gq (Nv < ((p3_0:Nat):Int))
 (cn (((p3_4.getD (Int.toNat Nv) default).Name).toList == p3_3.Name.toList)
 (lf (0,Nv,Nv))
 (rec Bc2 (Dp (Nv+1))))))
 (lf (1,Bc2,Nv)))
def K8(L:Nat)(p3_0:Nat)(p3_1:Ad)(p3_2:ByteArray)(p3_3:Ag)(p3_4:List Ah):Nat→Int→Int→Option Ki
 |0,_,_=>none
 |n+1,Bc2,Nv=>Wp L p3_0 p3_1 p3_2 p3_3 p3_4 (K8 L p3_0 p3_1 p3_2 p3_3 p3_4 n) Bc2 Nv
theorem Bsb(p3_0:Nat)(p3_1:Ad)(p3_2:ByteArray)(p3_3:Ag)(p3_4:List Ah):LP (EV (O14 L) L 8 c25.u.l.u.l.l) [0,1,4,7,8] [2,4,9,12] (Bhf p3_0 p3_1 p3_2 p3_3 p3_4) [.ret,.exit 0] (fun n v=>K8 L p3_0 p3_1 p3_2 p3_3 p3_4 n v.1 v.2) K:=lE (fun _=>rfl) fun n v ih=>eE (Wp L p3_0 p3_1 p3_2 p3_3 p3_4 (fun Bc2 Nv=>re (ih (Bc2,Nv))) v.1 v.2)
def A30(p3_0:Nat)(p3_1:Ad)(p3_2:ByteArray)(p3_3:Ag)(p3_4:List Ah)(k:Bn):Int→Prop:=fun o=>k (I o) [(2,(Ar p3_1)),(4,[S p3_2,.lst true (.t77 []),.lst true (.t55 []),.lst true (.t167 [])]),(9,(B3 p3_3)),(12,[.arrO (.t77 p3_4)])]
def W2 [An A Int](L:Nat)(o7:Nat×D2):A:=
 (sl o7.1 [(lf o7.2.1),
 (lf (-1))])
def Bfq:Br:=(Ba 0 (Bg (EV (O14 L) L 8 c25.u.r) (Dq Tryz.prog (RS Tryz.f25) k)))
theorem B1g(p3_0:Nat)(p3_1:Ad)(p3_2:ByteArray)(p3_3:Ag)(p3_4:List Ah)(o7:Nat×D2):kX [.ret,.exit 0] (Bhf p3_0 p3_1 p3_2 p3_3 p3_4) (Bfq L k) o7=ob (W2 L o7) (A30 p3_0 p3_1 p3_2 p3_3 p3_4 k):=eE (W2 L o7)
def Ag1 [An A Int](p3_0:Nat)(p3_1:Ad)(p3_2:ByteArray)(p3_3:Ag)(p3_4:List Ah):A:=(bd (K8 L p3_0 p3_1 p3_2 p3_3 p3_4 L 0 0) fun o7=>W2 L o7)
def Sa(p3_0:Nat)(p3_1:Ad)(p3_2:ByteArray)(p3_3:Ag)(p3_4:List Ah):Option Int:=Ag1 L p3_0 p3_1 p3_2 p3_3 p3_4
theorem Brq(p3_0:Nat)(p3_1:Ad)(p3_2:ByteArray)(p3_3:Ag)(p3_4:List Ah):YO (O14 L) L 9 25 [.vw false 12 77 3 p3_0,.clo 38 0 [.loc 9 0]] [(2,(Ar p3_1)),(4,[S p3_2,.lst true (.t77 []),.lst true (.t55 []),.lst true (.t167 [])]),(9,(B3 p3_3)),(12,[.arrO (.t77 p3_4)])] k=ob (Sa L p3_0 p3_1 p3_2 p3_3 p3_4) (A30 p3_0 p3_1 p3_2 p3_3 p3_4 k):=(Cr _ _ _ jn4 _ _ _ _ _ _ _).trans (eE ((ho (Bsb L (Bfq L k) p3_0 p3_1 p3_2 p3_3 p3_4 L (0,0)) fun o7=>B1g L k p3_0 p3_1 p3_2 p3_3 p3_4 o7)))
def Bhg(p4_0:List Ag)(p4_1:Ad)(p4_2:ByteArray)(p4_3:Ag)(p4_4:List Ah)(v:D2):St:=⟨[(0,lv (.t70 p4_0)),(1,.clo 37 0 [.loc 9 0]),(4,I v.1),(7,I (p4_0.length:Int)),(8,I v.2)],[(2,(Ar p4_1)),(4,[S p4_2,.lst true (.t77 []),.lst true (.t55 []),.lst true (.t167 [])]),(9,(B3 p4_3)),(12,[.arrO (.t77 p4_4)])],13⟩
def Wq [An A Ki](L:Nat)(p4_0:List Ag)(p4_1:Ad)(p4_2:ByteArray)(p4_3:Ag)(p4_4:List Ah)(rec:Int→Int→A)(Ahr:Int)(Nm:Int):A:=
 (lw Nm p4_0
 (cn (((p4_0.getD (Int.toNat Nm) default).Name).toList == p4_3.Name.toList)
 (lf (0,Nm,Nm))
 (rec Ahr (Dp (Nm+1))))
 (lf (1,Ahr,Nm)))
def K9(L:Nat)(p4_0:List Ag)(p4_1:Ad)(p4_2:ByteArray)(p4_3:Ag)(p4_4:List Ah):Nat→Int→Int→Option Ki
 |0,_,_=>none
 |n+1,Ahr,Nm=>Wq L p4_0 p4_1 p4_2 p4_3 p4_4 (K9 L p4_0 p4_1 p4_2 p4_3 p4_4 n) Ahr Nm
theorem Bsc(p4_0:List Ag)(p4_1:Ad)(p4_2:ByteArray)(p4_3:Ag)(p4_4:List Ah):LP (EV (O14 L) L 7 c58.u.l.u.l.l) [0,1,4,7,8] [2,4,9,12] (Bhg p4_0 p4_1 p4_2 p4_3 p4_4) [.ret,.exit 0] (fun n v=>K9 L p4_0 p4_1 p4_2 p4_3 p4_4 n v.1 v.2) K:=lE (fun _=>rfl) fun n v ih=>eE (Wq L p4_0 p4_1 p4_2 p4_3 p4_4 (fun Ahr Nm=>re (ih (Ahr,Nm))) v.1 v.2)
def A31(p4_0:List Ag)(p4_1:Ad)(p4_2:ByteArray)(p4_3:Ag)(p4_4:List Ah)(k:Bn):Int→Prop:=fun o=>k (I o) [(2,(Ar p4_1)),(4,[S p4_2,.lst true (.t77 []),.lst true (.t55 []),.lst true (.t167 [])]),(9,(B3 p4_3)),(12,[.arrO (.t77 p4_4)])]
def Uz [An A Int](L:Nat)(o9:Nat×D2):A:=
 (sl o9.1 [(lf o9.2.1),
 (lf (-1))])
def A8b:Br:=(Ba 0 (Bg (EV (O14 L) L 7 c58.u.r) (Dq Tryz.prog (RS Tryz.f58) k)))
theorem Btr(p4_0:List Ag)(p4_1:Ad)(p4_2:ByteArray)(p4_3:Ag)(p4_4:List Ah)(o9:Nat×D2):kX [.ret,.exit 0] (Bhg p4_0 p4_1 p4_2 p4_3 p4_4) (A8b L k) o9=ob (Uz L o9) (A31 p4_0 p4_1 p4_2 p4_3 p4_4 k):=eE (Uz L o9)
def Ag2 [An A Int](p4_0:List Ag)(p4_1:Ad)(p4_2:ByteArray)(p4_3:Ag)(p4_4:List Ah):A:=(bd (K9 L p4_0 p4_1 p4_2 p4_3 p4_4 L 0 0) fun o9=>Uz L o9)
def Sb(p4_0:List Ag)(p4_1:Ad)(p4_2:ByteArray)(p4_3:Ag)(p4_4:List Ah):Option Int:=Ag2 L p4_0 p4_1 p4_2 p4_3 p4_4
theorem Brr(p4_0:List Ag)(p4_1:Ad)(p4_2:ByteArray)(p4_3:Ag)(p4_4:List Ah):YO (O14 L) L 8 58 [lv (.t70 p4_0),.clo 37 0 [.loc 9 0]] [(2,(Ar p4_1)),(4,[S p4_2,.lst true (.t77 []),.lst true (.t55 []),.lst true (.t167 [])]),(9,(B3 p4_3)),(12,[.arrO (.t77 p4_4)])] k=ob (Sb L p4_0 p4_1 p4_2 p4_3 p4_4) (A31 p4_0 p4_1 p4_2 p4_3 p4_4 k):=(Cr _ _ _ jn4 _ _ _ _ _ _ _).trans (eE ((ho (Bsc L (A8b L k) p4_0 p4_1 p4_2 p4_3 p4_4 L (0,0)) fun o9=>Btr L k p4_0 p4_1 p4_2 p4_3 p4_4 o9)))
def A0l(a1:List Ag)(a0:Ad)(v:Tu6):St:=⟨[(0,.any),(1,lv (.t70 a1)),(2,.loc 2 0),(4,.loc 4 0),(5,I v.1),(6,.any),(7,.vw false 12 77 3 a0.Params.length),(21,lv (.t70 a1)),(22,I (a1.length:Int)),(23,I v.2.1)],[(2,(Ar a0)),(4,[S v.2.2.1,.lst true (.t77 []),.lst true (.t55 []),.lst true (.t167 [])]),(12,[.arrO (.t77 v.2.2.2)])],0⟩
def Qo [An A (Nat×Tu6)](Gc:Int)(C1:List Ah)(o8:Int)(a0:Ad)(a1:List Ag)(Gr:Int)(D1:ByteArray)(rec:Int→Int→ByteArray→List Ah→A)(o10:Int):A:=
 (cn (decide (o10≥0))
 (lf (0,(4,Gc,(⟨#[]⟩:ByteArray),C1)))
 (gi o8 a0.Params
 (bd (Xk L ((C1.getD (Int.toNat o8) default).Type_) ((a1.getD (Int.toNat Gc) default).N)) fun r11=>
 (cn (!r11)
 (lf (0,(2,Gc,(⟨#[]⟩:ByteArray),C1)))
 (gi o8 a0.Params
 (rec Gr (Dp (Gc+1)) D1 (C1.set (Int.toNat o8) (⟨(C1.getD (Int.toNat o8) default).Name,(C1.getD (Int.toNat o8) default).Type_,(a1.getD (Int.toNat Gc) default).N⟩:Ah))))))))
def Vh [An A (Nat×Tu6)](L:Nat)(Gc:Int)(C1:List Ah)(a1:List Ag)(D1:ByteArray)(Gr:Int)(a0:Ad)(rec:Int→Int→ByteArray→List Ah→A)(o8:Int)(nx13:Int→ByteArray→(List Ah)→Int→Int→A):A:=
 (cn (decide (o8 < 0))
 (lf (0,(5,Gc,(⟨#[]⟩:ByteArray),C1)))
 (gq (0≤0)
 (gq (0≤Gc)
 (gq ((Gc:Int)≤(a1.length:Int))
 (gq (((a1.length:Int):Int)≤(a1.length:Int))
 (nx13 Gc D1 C1 Gr o8))))))
def Uy [An A (Nat×Tu6)](Gc:Int)(C1:List Ah)(a1:List Ag)(D1:ByteArray)(Gr:Int)(a0:Ad)(rec:Int→Int→ByteArray→List Ah→A)(o8:Int):A:=Vh L Gc C1 a1 D1 Gr a0 rec o8 (fun Gc D1 C1 Gr o8=>bd (Sb L ((a1.take (Int.toNat Gc)).drop 0) a0 D1 (a1.getD (Int.toNat Gc) default) C1) fun o10=>Qo L Gc C1 o8 a0 a1 Gr D1 rec o10)
def Vg [An A (Nat×Tu6)](L:Nat)(a1:List Ag)(a0:Ad)(rec:Int→Int→ByteArray→List Ah→A)(Gr:Int)(Gc:Int)(D1:ByteArray)(C1:List Ah)(nx10:ByteArray→Int→(List Ah)→Int→A):A:=
 (lw Gc a1
 (nx10 D1 Gc C1 Gr)
 (lf (1,Gr,Gc,D1,C1)))
def Aat [An A (Nat×Tu6)](a1:List Ag)(a0:Ad)(rec:Int→Int→ByteArray→List Ah→A)(Gr:Int)(Gc:Int)(D1:ByteArray)(C1:List Ah):A:=Vg L a1 a0 rec Gr Gc D1 C1 (fun D1 Gc C1 Gr=>bd (Sa L a0.Params.length a0 D1 (a1.getD (Int.toNat Gc) default) C1) fun o8=>Uy L Gc C1 a1 D1 Gr a0 rec o8)
def Hr(L:Nat)(a1:List Ag)(a0:Ad):Nat→Int→Int→ByteArray→List Ah→Option (Nat×Tu6)
 |0,_,_,_,_=>none
 |n+1,Gr,Gc,D1,C1=>Aat L a1 a0 (Hr L a1 a0 n) Gr Gc D1 C1
def A3x(a1:List Ag)(a0:Ad):Prop:=LI (EV (O14 L) L 9 c14.w.u.l.u.l.l) [0,1,2,4,5,6,7,21,22,23] [2,4,12] (A0l a1 a0) [.ret,.exit 0] (fun n v=>Hr L a1 a0 n v.1 v.2.1 v.2.2.1 v.2.2.2) K n
def A8c(a1:List Ag)(Gc:Int)(a0:Ad)(D1:ByteArray)(C1:List Ah)(Gr:Int)(o8:Int):Bn:=(Bu Tryz.prog (O14 L) (EI (O14 L) L 8) 2 (List.drop 3 c39.u.l.ops) ⟨[(6,.clo 37 0 [.loc 9 0]),(5,lv (.t70 ((a1.take (Int.toNat Gc)).drop 0))),(0,lv (.t70 ((a1.take (Int.toNat Gc)).drop 0))),(1,.clo 37 0 [.loc 9 0]),(4,B false)],[(2,(Ar a0)),(4,[S D1,.lst true (.t77 []),.lst true (.t55 []),.lst true (.t167 [])]),(9,(B3 (a1.getD (Int.toNat Gc) default))),(12,[.arrO (.t77 C1)])],13⟩ (some 7) (fun st9=>(Bg (EV (O14 L) L 8 c39.u.r) (Dq Tryz.prog (RS Tryz.f39) (Bu Tryz.prog (O14 L) (EI (O14 L) L 9) 1 (List.drop 5 c14.w.u.l.u.l.l.w.l.l.w.u.l.l.u.r.l.ops) ⟨[(40,.clo 37 0 [.loc 9 0]),(39,lv (.t70 ((a1.take (Int.toNat Gc)).drop 0))),(38,I Gc),(37,lv (.t70 a1)),(1,lv (.t70 a1)),(2,.loc 2 0),(4,.loc 4 0),(5,I Gr),(7,.vw false 12 77 3 a0.Params.length),(8,I Gc),(9,.loc 9 0),(10,.clo 37 0 [.loc 9 0]),(11,I o8),(21,lv (.t70 a1)),(22,I (a1.length:Int)),(23,I Gc),(24,B (decide (Gc < (a1.length:Int)))),(25,I Gc),(26,.ref (B3 (a1.getD (Int.toNat Gc) default))),(27,.agg (B3 (a1.getD (Int.toNat Gc) default))),(28,.clo 37 0 [.loc 9 0]),(29,.vw false 12 77 3 a0.Params.length),(30,.clo 38 0 [.loc 9 0]),(31,I o8),(32,B (decide (o8 < 0))),(33,I o8),(34,B (decide (o8 < 0)))],[(2,(Ar a0)),(4,[S D1,.lst true (.t77 []),.lst true (.t55 []),.lst true (.t167 [])]),(9,(B3 (a1.getD (Int.toNat Gc) default))),(12,[.arrO (.t77 C1)])],0⟩ (some 41) (fun st9=>(Bg (EV (O14 L) L 9 c14.w.u.l.u.l.l.w.l.l.w.u.l.l.w) (Ba 2 (Bg (EV (O14 L) L 9 c14.w.u.l.u.l.l.w.l.l.w.u.r) (Bgb L n K)))) .normal st9)))) .normal st9))
theorem Bts(a1:List Ag)(Gc:Int)(a0:Ad)(D1:ByteArray)(C1:List Ah)(Gr:Int)(o8:Int)(ih:A3x L n K a1 a0)(o10:Int):A31 ((a1.take (Int.toNat Gc)).drop 0) a0 D1 (a1.getD (Int.toNat Gc) default) C1 (A8c L n K a1 Gc a0 D1 C1 Gr o8) o10=ob (Qo L Gc C1 o8 a0 a1 Gr D1 (Hr L a1 a0 n) o10) (kX [.ret,.exit 0] (A0l a1 a0) K):=eE (Qo L Gc C1 o8 a0 a1 Gr D1 (fun Gr Gc D1 C1=>re (ih (Gr,Gc,D1,C1))) o10)
def A8a(a0:Ad)(a1:List Ag)(Gr:Int)(Gc:Int)(D1:ByteArray)(C1:List Ah):Bn:=(Bu Tryz.prog (O14 L) (EI (O14 L) L 9) 1 (List.drop 3 c14.w.u.l.u.l.l.w.l.l.w.l.ops) ⟨[(30,.clo 38 0 [.loc 9 0]),(29,.vw false 12 77 3 a0.Params.length),(1,lv (.t70 a1)),(2,.loc 2 0),(4,.loc 4 0),(5,I Gr),(7,.vw false 12 77 3 a0.Params.length),(8,I Gc),(9,.loc 9 0),(10,.clo 37 0 [.loc 9 0]),(21,lv (.t70 a1)),(22,I (a1.length:Int)),(23,I Gc),(24,B (decide (Gc < (a1.length:Int)))),(25,I Gc),(26,.ref (B3 (a1.getD (Int.toNat Gc) default))),(27,.agg (B3 (a1.getD (Int.toNat Gc) default))),(28,.clo 37 0 [.loc 9 0])],[(2,(Ar a0)),(4,[S D1,.lst true (.t77 []),.lst true (.t55 []),.lst true (.t167 [])]),(9,(B3 (a1.getD (Int.toNat Gc) default))),(12,[.arrO (.t77 C1)])],0⟩ (some 31) (fun st9=>(Bg (EV (O14 L) L 9 c14.w.u.l.u.l.l.w.l.l.w.r) (Bgb L n K)) .normal st9))
theorem Btq(a0:Ad)(D1:ByteArray)(a1:List Ag)(Gc:Int)(C1:List Ah)(Gr:Int)(ih:A3x L n K a1 a0)(o8:Int):A30 a0.Params.length a0 D1 (a1.getD (Int.toNat Gc) default) C1 (A8a L n K a0 a1 Gr Gc D1 C1) o8=ob (Uy L Gc C1 a1 D1 Gr a0 (Hr L a1 a0 n) o8) (kX [.ret,.exit 0] (A0l a1 a0) K):=eE (Vh L Gc C1 a1 D1 Gr a0 (fun Gr Gc D1 C1=>re (ih (Gr,Gc,D1,C1))) o8 (fun Gc D1 C1 Gr o8=>ho (Brr L (A8c L n K a1 Gc a0 D1 C1 Gr o8) ((a1.take (Int.toNat Gc)).drop 0) a0 D1 (a1.getD (Int.toNat Gc) default) C1) fun o10=>Bts L n K a1 Gc a0 D1 C1 Gr o8 ih o10))
theorem Bsa(a1:List Ag)(a0:Ad):∀n,A3x L n K a1 a0:=lE (fun _=>rfl) fun n v ih=>eE (Vg L a1 a0 (fun Gr Gc D1 C1=>re (ih (Gr,Gc,D1,C1))) v.1 v.2.1 v.2.2.1 v.2.2.2 (fun D1 Gc C1 Gr=>ho (Brq L (A8a L n K a0 a1 Gr Gc D1 C1) a0.Params.length a0 D1 (a1.getD (Int.toNat Gc) default) C1) fun o8=>Btq L n K a0 D1 a1 Gc C1 Gr ih o8))
def Sd [An A (Ad×Int)](L:Nat)(a0:Ad)(o12:Nat×Int×ByteArray):A:=
 (sl o12.1 [(lf ((⟨o12.2.2,[],[],[]⟩:Ad),o12.2.1)),
 (lf ((⟨a0.Name,[],a0.Sites,a0.Links⟩:Ad),0))])
def Bfp:Br:=(Ba 0 (Bg (EV (O14 L) L 9 c14.w.u.r) (Gu Tryz.prog (RS Tryz.f14) kk)))
theorem B1f(a1:List Ag)(a0:Ad)(o12:Nat×Int×ByteArray):kX [.ret,.exit 0] (A0k a1 a0) (Bfp L kk) o12=ob (Sd L a0 o12) (Bzi kk):=eE (Sd L a0 o12)
def Qp [An A (Ad×Int)](L:Nat)(a0:Ad)(o13:Nat×Tu6):A:=
 (sl o13.1 [(lf ((⟨o13.2.2.2.1,[],[],[]⟩:Ad),o13.2.1)),
 (lf ((⟨a0.Name,o13.2.2.2.2,a0.Sites,a0.Links⟩:Ad),0))])
def A8d:Br:=(Ba 0 (Bg (EV (O14 L) L 9 c14.w.u.r) (Gu Tryz.prog (RS Tryz.f14) kk)))
theorem Btt(a1:List Ag)(a0:Ad)(o13:Nat×Tu6):kX [.ret,.exit 0] (A0l a1 a0) (A8d L kk) o13=ob (Qp L a0 o13) (Bzi kk):=eE (Qp L a0 o13)
def W8 [An A (Ad×Int)](a0:Ad)(a1:List Ag)(nx7:A)(nx14:A):A:=
 (bd (Ks L a0) fun r1=>
 (cn (r1 != 0)
 (lf ((⟨(⟨#[]⟩:ByteArray),[],[],[]⟩:Ad),r1))
 (gq (0 < a0.Params.length)
 (cn (Nat.beq a0.Params.length 0)
 nx7
 (gq (a0.Params.length*32≤140737488355328)
 (gq (a0.Params.length≤maxLen)
 nx14))))))
def Amd [An A (Ad×Int)](a0:Ad)(a1:List Ag):A:=W8 L a0 a1 (bd (Sc L a1 a0 L 0 (⟨#[]⟩:ByteArray)) fun o12=>Sd L a0 o12) (bd (Hr L a1 a0 L 0 0 (⟨#[]⟩:ByteArray) a0.Params) fun o13=>Qp L a0 o13)
def Abi(a0:Ad)(a1:List Ag):Option (Ad×Int):=Amd L a0 a1
def X14:N2:=E2 (fun(x:Ad×Int)=> .tup [.agg (Ar x.1),I x.2]) 14 Ml Bq4 (Abi L) fun a0 a1 r h=>hF Tryz.func14 (C:=O14 L) (oS _) L (fun kk=>eE (W8 L a0 a1 (ho (Br7 L (Bfp L kk) a1 a0 L (0,(⟨#[]⟩:ByteArray))) fun o12=>B1f L kk a1 a0 o12) (ho (Bsa L (A8d L kk) a1 a0 L (0,0,(⟨#[]⟩:ByteArray),a0.Params)) fun o13=>Btt L kk a1 a0 o13))) h
end
end Go.Proofs.YtfencmicmnhglaaGreat.Ev
