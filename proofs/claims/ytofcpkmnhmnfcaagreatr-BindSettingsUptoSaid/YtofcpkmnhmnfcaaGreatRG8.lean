import Derived.Test.YtofcpkmnhmnfcaaGreatRG3
import Derived.Test.YtofcpkmnhmnfcaaGreatRG4
import Derived.Test.YtofcpkmnhmnfcaaGreatRG5
import Derived.Test.YtofcpkmnhmnfcaaGreatRG7
namespace Go.Proofs.YtofcpkmnhmnfcaaGreatR.Ev
open Go An
set_option maxRecDepth 100000
set_option maxHeartbeats 4000000
set_option linter.unusedVariables false
set_option linter.unusedSimpArgs false
set_option linter.unnecessarySimpa false
noncomputable section
variable {A:Type} (L n:Nat) (kk:Cz) (K:Ax) (k:Bk)
def c26:=CC Tryz.f26
def Cd2:=CC Tryz.f163
def Cd3:=CC Tryz.f167
def c93:=CC Tryz.f93
def O93:Ba:=oL [B32 L,Bll L]
def Bxy:(ByteArray×Int)→Prop:=fun x=>kk ((fun(x:ByteArray×Int)=> .tup [S x.1,I x.2]) x)
def Bs9(p1_0:List Ag)(p1_1:Aa)(p1_2:ByteArray)(v:Co):St:=⟨[(0,lv (.t39 p1_0)),(1,.clo 162 0 [.loc 3 0]),(4,I v.1),(7,I (p1_0.length:Int)),(8,I v.2)],[(2,(Af p1_1)),(3,[S p1_2])],4⟩
def V4 [An A B7](L:Nat)(p1_0:List Ag)(p1_1:Aa)(p1_2:ByteArray)(rec:Int→Int→A)(Aj:Int)(Ai:Int):A:=
 (lw Ai p1_0
 (cn (((p1_0.getD (Int.toNat Ai) default).Name).toList == p1_2.toList)
 (lf (0,Ai,Ai))
 (rec Aj (B6 (Ai+1))))
 (lf (1,Aj,Ai)))
def Kn(L:Nat)(p1_0:List Ag)(p1_1:Aa)(p1_2:ByteArray):Nat→Int→Int→Option B7
 |0,_,_=>none
 |n+1,Aj,Ai=>V4 L p1_0 p1_1 p1_2 (Kn L p1_0 p1_1 p1_2 n) Aj Ai
theorem B7j(p1_0:List Ag)(p1_1:Aa)(p1_2:ByteArray):LP (EV (O93 L) L 8 c26.u.l.u.l.l) [0,1,4,7,8] [2,3] (Bs9 p1_0 p1_1 p1_2) [.ret,.exit 0] (fun n v=>Kn L p1_0 p1_1 p1_2 n v.1 v.2) K:=lE (fun _=>rfl) fun n v ih=>eE (V4 L p1_0 p1_1 p1_2 (fun Aj Ai=>re (ih (Aj,Ai))) v.1 v.2)
def Bci(p1_0:List Ag)(p1_1:Aa)(p1_2:ByteArray)(k:Bk):Int→Prop:=fun o=>k (I o) [(2,(Af p1_1)),(3,[S p1_2])]
def Wn [An A Int](L:Nat)(o1:Nat×Co):A:=
 (sl o1.1 [(lf o1.2.1),
 (lf (-1))])
def Bq5:Ax:=(Av 0 (Bb (EV (O93 L) L 8 c26.u.r) (Dz Tryz.prog (RS Tryz.f26) k)))
theorem Chm(p1_0:List Ag)(p1_1:Aa)(p1_2:ByteArray)(o1:Nat×Co):kX [.ret,.exit 0] (Bs9 p1_0 p1_1 p1_2) (Bq5 L k) o1=ob (Wn L o1) (Bci p1_0 p1_1 p1_2 k):=eE (Wn L o1)
def Ai6 [An A Int](p1_0:List Ag)(p1_1:Aa)(p1_2:ByteArray):A:=(bd (Kn L p1_0 p1_1 p1_2 L 0 0) fun o1=>Wn L o1)
def Vx(p1_0:List Ag)(p1_1:Aa)(p1_2:ByteArray):Option Int:=Ai6 L p1_0 p1_1 p1_2
theorem B5v(p1_0:List Ag)(p1_1:Aa)(p1_2:ByteArray):YO (O93 L) L 9 26 [lv (.t39 p1_0),.clo 162 0 [.loc 3 0]] [(2,(Af p1_1)),(3,[S p1_2])] k=ob (Vx L p1_0 p1_1 p1_2) (Bci p1_0 p1_1 p1_2 k):=(C3 _ _ _ jn4 _ _ _ _ _ _ _).trans (eE ((ho (B7j L (Bq5 L k) p1_0 p1_1 p1_2 L (0,0)) fun o1=>Chm L k p1_0 p1_1 p1_2 o1)))
def Bta(p2_0:List Ah)(p2_1:Aa)(p2_2:ByteArray)(v:Co):St:=⟨[(0,lv (.t110 p2_0)),(1,.clo 164 0 [.loc 3 0]),(4,I v.1),(7,I (p2_0.length:Int)),(8,I v.2)],[(2,(Af p2_1)),(3,[S p2_2])],4⟩
def V5 [An A B7](L:Nat)(p2_0:List Ah)(p2_1:Aa)(p2_2:ByteArray)(rec:Int→Int→A)(Bv:Int)(Bu:Int):A:=
 (lw Bu p2_0
 (cn (((p2_0.getD (Int.toNat Bu) default).Name).toList == p2_2.toList)
 (lf (0,Bu,Bu))
 (rec Bv (B6 (Bu+1))))
 (lf (1,Bv,Bu)))
def Ko(L:Nat)(p2_0:List Ah)(p2_1:Aa)(p2_2:ByteArray):Nat→Int→Int→Option B7
 |0,_,_=>none
 |n+1,Bv,Bu=>V5 L p2_0 p2_1 p2_2 (Ko L p2_0 p2_1 p2_2 n) Bv Bu
theorem B7k(p2_0:List Ah)(p2_1:Aa)(p2_2:ByteArray):LP (EV (O93 L) L 8 Cd2.u.l.u.l.l) [0,1,4,7,8] [2,3] (Bta p2_0 p2_1 p2_2) [.ret,.exit 0] (fun n v=>Ko L p2_0 p2_1 p2_2 n v.1 v.2) K:=lE (fun _=>rfl) fun n v ih=>eE (V5 L p2_0 p2_1 p2_2 (fun Bv Bu=>re (ih (Bv,Bu))) v.1 v.2)
def Bcj(p2_0:List Ah)(p2_1:Aa)(p2_2:ByteArray)(k:Bk):Int→Prop:=fun o=>k (I o) [(2,(Af p2_1)),(3,[S p2_2])]
def Wp [An A Int](L:Nat)(o3:Nat×Co):A:=
 (sl o3.1 [(lf o3.2.1),
 (lf (-1))])
def Bq7:Ax:=(Av 0 (Bb (EV (O93 L) L 8 Cd2.u.r) (Dz Tryz.prog (RS Tryz.f163) k)))
theorem Cho(p2_0:List Ah)(p2_1:Aa)(p2_2:ByteArray)(o3:Nat×Co):kX [.ret,.exit 0] (Bta p2_0 p2_1 p2_2) (Bq7 L k) o3=ob (Wp L o3) (Bcj p2_0 p2_1 p2_2 k):=eE (Wp L o3)
def Ai7 [An A Int](p2_0:List Ah)(p2_1:Aa)(p2_2:ByteArray):A:=(bd (Ko L p2_0 p2_1 p2_2 L 0 0) fun o3=>Wp L o3)
def Vy(p2_0:List Ah)(p2_1:Aa)(p2_2:ByteArray):Option Int:=Ai7 L p2_0 p2_1 p2_2
theorem B5w(p2_0:List Ah)(p2_1:Aa)(p2_2:ByteArray):YO (O93 L) L 9 163 [lv (.t110 p2_0),.clo 164 0 [.loc 3 0]] [(2,(Af p2_1)),(3,[S p2_2])] k=ob (Vy L p2_0 p2_1 p2_2) (Bcj p2_0 p2_1 p2_2 k):=(C3 _ _ _ jn4 _ _ _ _ _ _ _).trans (eE ((ho (B7k L (Bq7 L k) p2_0 p2_1 p2_2 L (0,0)) fun o3=>Cho L k p2_0 p2_1 p2_2 o3)))
def Btb(p3_0:List Ar)(p3_1:Aa)(p3_2:ByteArray)(v:Co):St:=⟨[(0,lv (.t113 p3_0)),(1,.clo 166 0 [.loc 3 0]),(4,I v.1),(7,I (p3_0.length:Int)),(8,I v.2)],[(2,(Af p3_1)),(3,[S p3_2])],4⟩
def V6 [An A B7](L:Nat)(p3_0:List Ar)(p3_1:Aa)(p3_2:ByteArray)(rec:Int→Int→A)(Fs:Int)(C5:Int):A:=
 (lw C5 p3_0
 (cn (((p3_0.getD (Int.toNat C5) default).Name).toList == p3_2.toList)
 (lf (0,C5,C5))
 (rec Fs (B6 (C5+1))))
 (lf (1,Fs,C5)))
def Kp(L:Nat)(p3_0:List Ar)(p3_1:Aa)(p3_2:ByteArray):Nat→Int→Int→Option B7
 |0,_,_=>none
 |n+1,Fs,C5=>V6 L p3_0 p3_1 p3_2 (Kp L p3_0 p3_1 p3_2 n) Fs C5
theorem B7l(p3_0:List Ar)(p3_1:Aa)(p3_2:ByteArray):LP (EV (O93 L) L 8 Buu.u.l.u.l.l) [0,1,4,7,8] [2,3] (Btb p3_0 p3_1 p3_2) [.ret,.exit 0] (fun n v=>Kp L p3_0 p3_1 p3_2 n v.1 v.2) K:=lE (fun _=>rfl) fun n v ih=>eE (V6 L p3_0 p3_1 p3_2 (fun Fs C5=>re (ih (Fs,C5))) v.1 v.2)
def Bck(p3_0:List Ar)(p3_1:Aa)(p3_2:ByteArray)(k:Bk):Int→Prop:=fun o=>k (I o) [(2,(Af p3_1)),(3,[S p3_2])]
def Wr [An A Int](L:Nat)(o5:Nat×Co):A:=
 (sl o5.1 [(lf o5.2.1),
 (lf (-1))])
def Bq9:Ax:=(Av 0 (Bb (EV (O93 L) L 8 Buu.u.r) (Dz Tryz.prog (RS Tryz.f165) k)))
theorem Chq(p3_0:List Ar)(p3_1:Aa)(p3_2:ByteArray)(o5:Nat×Co):kX [.ret,.exit 0] (Btb p3_0 p3_1 p3_2) (Bq9 L k) o5=ob (Wr L o5) (Bck p3_0 p3_1 p3_2 k):=eE (Wr L o5)
def Ai8 [An A Int](p3_0:List Ar)(p3_1:Aa)(p3_2:ByteArray):A:=(bd (Kp L p3_0 p3_1 p3_2 L 0 0) fun o5=>Wr L o5)
def Vz(p3_0:List Ar)(p3_1:Aa)(p3_2:ByteArray):Option Int:=Ai8 L p3_0 p3_1 p3_2
theorem B5x(p3_0:List Ar)(p3_1:Aa)(p3_2:ByteArray):YO (O93 L) L 9 165 [lv (.t113 p3_0),.clo 166 0 [.loc 3 0]] [(2,(Af p3_1)),(3,[S p3_2])] k=ob (Vz L p3_0 p3_1 p3_2) (Bck p3_0 p3_1 p3_2 k):=(C3 _ _ _ jn4 _ _ _ _ _ _ _).trans (eE ((ho (B7l L (Bq9 L k) p3_0 p3_1 p3_2 L (0,0)) fun o5=>Chq L k p3_0 p3_1 p3_2 o5)))
def Btc(p4_0:List Aw)(p4_1:Aa)(p4_2:ByteArray)(v:Co):St:=⟨[(0,lv (.t115 p4_0)),(1,.clo 168 0 [.loc 3 0]),(4,I v.1),(7,I (p4_0.length:Int)),(8,I v.2)],[(2,(Af p4_1)),(3,[S p4_2])],4⟩
def V7 [An A B7](L:Nat)(p4_0:List Aw)(p4_1:Aa)(p4_2:ByteArray)(rec:Int→Int→A)(Cx:Int)(Ob:Int):A:=
 (lw Ob p4_0
 (cn (((p4_0.getD (Int.toNat Ob) default).Name).toList == p4_2.toList)
 (lf (0,Ob,Ob))
 (rec Cx (B6 (Ob+1))))
 (lf (1,Cx,Ob)))
def Kq(L:Nat)(p4_0:List Aw)(p4_1:Aa)(p4_2:ByteArray):Nat→Int→Int→Option B7
 |0,_,_=>none
 |n+1,Cx,Ob=>V7 L p4_0 p4_1 p4_2 (Kq L p4_0 p4_1 p4_2 n) Cx Ob
theorem B7m(p4_0:List Aw)(p4_1:Aa)(p4_2:ByteArray):LP (EV (O93 L) L 8 Cd3.u.l.u.l.l) [0,1,4,7,8] [2,3] (Btc p4_0 p4_1 p4_2) [.ret,.exit 0] (fun n v=>Kq L p4_0 p4_1 p4_2 n v.1 v.2) K:=lE (fun _=>rfl) fun n v ih=>eE (V7 L p4_0 p4_1 p4_2 (fun Cx Ob=>re (ih (Cx,Ob))) v.1 v.2)
def Bcl(p4_0:List Aw)(p4_1:Aa)(p4_2:ByteArray)(k:Bk):Int→Prop:=fun o=>k (I o) [(2,(Af p4_1)),(3,[S p4_2])]
def Um [An A Int](L:Nat)(o7:Nat×Co):A:=
 (sl o7.1 [(lf o7.2.1),
 (lf (-1))])
def Bir:Ax:=(Av 0 (Bb (EV (O93 L) L 8 Cd3.u.r) (Dz Tryz.prog (RS Tryz.f167) k)))
theorem Caj(p4_0:List Aw)(p4_1:Aa)(p4_2:ByteArray)(o7:Nat×Co):kX [.ret,.exit 0] (Btc p4_0 p4_1 p4_2) (Bir L k) o7=ob (Um L o7) (Bcl p4_0 p4_1 p4_2 k):=eE (Um L o7)
def Ai9 [An A Int](p4_0:List Aw)(p4_1:Aa)(p4_2:ByteArray):A:=(bd (Kq L p4_0 p4_1 p4_2 L 0 0) fun o7=>Um L o7)
def V0(p4_0:List Aw)(p4_1:Aa)(p4_2:ByteArray):Option Int:=Ai9 L p4_0 p4_1 p4_2
theorem B5y(p4_0:List Aw)(p4_1:Aa)(p4_2:ByteArray):YO (O93 L) L 9 167 [lv (.t115 p4_0),.clo 168 0 [.loc 3 0]] [(2,(Af p4_1)),(3,[S p4_2])] k=ob (V0 L p4_0 p4_1 p4_2) (Bcl p4_0 p4_1 p4_2 k):=(C3 _ _ _ jn4 _ _ _ _ _ _ _).trans (eE ((ho (B7m L (Bir L k) p4_0 p4_1 p4_2 L (0,0)) fun o7=>Caj L k p4_0 p4_1 p4_2 o7)))
def P9 [An A (ByteArray×Int)](a0:Aa)(a1:ByteArray)(o8:Int):A:=
 (cn (decide (o8≥0))
 (lf ((⟨#[98,101,108,116]⟩:ByteArray),o8))
 (bd (Dq L a0.Queues a1) fun r9=>
 (cn (decide (r9≥0))
 (lf ((⟨#[113,117,101,117,101]⟩:ByteArray),r9))
 (bd (Dq L a0.Streams a1) fun r10=>
 (cn (decide (r10≥0))
 (lf ((⟨#[115,116,114,101,97,109]⟩:ByteArray),r10))
 (bd (Dq L a0.Tallies a1) fun r11=>
 (cn (decide (r11≥0))
 (lf ((⟨#[116,97,108,108,121]⟩:ByteArray),r11))
 (bd (Dq L a0.Levels a1) fun r12=>
 (cn (decide (r12≥0))
 (lf ((⟨#[108,101,118,101,108]⟩:ByteArray),r12))
 (bd (Dq L a0.Counts a1) fun r13=>
 (cn (decide (r13≥0))
 (lf ((⟨#[99,111,117,110,116]⟩:ByteArray),r13))
 (bd (Fv L a0 a1) fun r14=>
 (cn (decide (r14≥0))
 (lf ((⟨#[114,111,117,116,105,110,101]⟩:ByteArray),r14))
 (lf ((⟨#[]⟩:ByteArray),(-1))))))))))))))))
def Bis(a0:Aa)(a1:ByteArray):Bk:=(Bz Tryz.prog (O93 L) (EI (O93 L) L 9) 1 (List.drop 4 c93.x.l.l.ops) ⟨[(39,.clo 168 0 [.loc 3 0]),(38,lv (.t115 a0.Belts)),(37,.loc 2 4),(2,.loc 2 0),(3,.loc 3 0),(4,S (⟨#[]⟩:ByteArray)),(5,I 0)],[(2,(Af a0)),(3,[S a1])],0⟩ (some 40) (fun st9=>(Bb (EV (O93 L) L 9 c93.x.l.r) (Bb (EV (O93 L) L 9 c93.x.r) (Cm Tryz.prog (RS Tryz.f93) kk))) .normal st9))
theorem Cak(a0:Aa)(a1:ByteArray)(o8:Int):Bcl a0.Belts a0 a1 (Bis L kk a0 a1) o8=ob (P9 L a0 a1 o8) (Bxy kk):=eE (P9 L a0 a1 o8)
def U0 [An A (ByteArray×Int)](L:Nat)(a0:Aa)(a1:ByteArray)(o6:Int)(nx12:A):A:=
 (cn (decide (o6≥0))
 (lf ((⟨#[115,116,111,114,101]⟩:ByteArray),o6))
 nx12)
def Ws [An A (ByteArray×Int)](a0:Aa)(a1:ByteArray)(o6:Int):A:=U0 L a0 a1 o6 (bd (V0 L a0.Belts a0 a1) fun o8=>P9 L a0 a1 o8)
def Bra(a0:Aa)(a1:ByteArray):Bk:=(Bz Tryz.prog (O93 L) (EI (O93 L) L 9) 1 (List.drop 4 c93.w.u.l.l.ops) ⟨[(32,.clo 166 0 [.loc 3 0]),(31,lv (.t113 a0.Stores)),(30,.loc 2 3),(2,.loc 2 0),(3,.loc 3 0),(4,S (⟨#[]⟩:ByteArray)),(5,I 0)],[(2,(Af a0)),(3,[S a1])],0⟩ (some 33) (fun st9=>(Bb (EV (O93 L) L 9 c93.w.u.l.r) (Bb (EV (O93 L) L 9 c93.w.u.r) (Cm Tryz.prog (RS Tryz.f93) kk))) .normal st9))
theorem Chr(a0:Aa)(a1:ByteArray)(o6:Int):Bck a0.Stores a0 a1 (Bra L kk a0 a1) o6=ob (Ws L a0 a1 o6) (Bxy kk):=eE (U0 L a0 a1 o6 (ho (B5y L (Bis L kk a0 a1) a0.Belts a0 a1) fun o8=>Cak L kk a0 a1 o8))
def W6 [An A (ByteArray×Int)](L:Nat)(a0:Aa)(a1:ByteArray)(o4:Int)(nx9:A):A:=
 (cn (decide (o4≥0))
 (lf ((⟨#[114,101,115,111,117,114,99,101]⟩:ByteArray),o4))
 nx9)
def Wq [An A (ByteArray×Int)](a0:Aa)(a1:ByteArray)(o4:Int):A:=W6 L a0 a1 o4 (bd (Vz L a0.Stores a0 a1) fun o6=>Ws L a0 a1 o6)
def Bq8(a0:Aa)(a1:ByteArray):Bk:=(Bz Tryz.prog (O93 L) (EI (O93 L) L 9) 1 (List.drop 4 c93.w.l.l.ops) ⟨[(25,.clo 164 0 [.loc 3 0]),(24,lv (.t110 a0.Resources)),(23,.loc 2 2),(2,.loc 2 0),(3,.loc 3 0),(4,S (⟨#[]⟩:ByteArray)),(5,I 0)],[(2,(Af a0)),(3,[S a1])],0⟩ (some 26) (fun st9=>(Bb (EV (O93 L) L 9 c93.w.l.r) (Bb (EV (O93 L) L 9 c93.w.r) (Cm Tryz.prog (RS Tryz.f93) kk))) .normal st9))
theorem Chp(a0:Aa)(a1:ByteArray)(o4:Int):Bcj a0.Resources a0 a1 (Bq8 L kk a0 a1) o4=ob (Wq L a0 a1 o4) (Bxy kk):=eE (W6 L a0 a1 o4 (ho (B5x L (Bra L kk a0 a1) a0.Stores a0 a1) fun o6=>Chr L kk a0 a1 o6))
def W5 [An A (ByteArray×Int)](L:Nat)(a0:Aa)(a1:ByteArray)(o2:Int)(nx6:A):A:=
 (cn (decide (o2≥0))
 (lf ((⟨#[118,97,114]⟩:ByteArray),o2))
 nx6)
def Wo [An A (ByteArray×Int)](a0:Aa)(a1:ByteArray)(o2:Int):A:=W5 L a0 a1 o2 (bd (Vy L a0.Resources a0 a1) fun o4=>Wq L a0 a1 o4)
def Bq6(a0:Aa)(a1:ByteArray):Bk:=(Bz Tryz.prog (O93 L) (EI (O93 L) L 9) 1 (List.drop 4 c93.u.l.l.ops) ⟨[(18,.clo 162 0 [.loc 3 0]),(17,lv (.t39 a0.Vars)),(16,.loc 2 1),(2,.loc 2 0),(3,.loc 3 0),(4,S (⟨#[]⟩:ByteArray)),(5,I 0)],[(2,(Af a0)),(3,[S a1])],0⟩ (some 19) (fun st9=>(Bb (EV (O93 L) L 9 c93.u.l.r) (Bb (EV (O93 L) L 9 c93.u.r) (Cm Tryz.prog (RS Tryz.f93) kk))) .normal st9))
theorem Chn(a0:Aa)(a1:ByteArray)(o2:Int):Bci a0.Vars a0 a1 (Bq6 L kk a0 a1) o2=ob (Wo L a0 a1 o2) (Bxy kk):=eE (W5 L a0 a1 o2 (ho (B5w L (Bq8 L kk a0 a1) a0.Resources a0 a1) fun o4=>Chp L kk a0 a1 o4))
def Ap8 [An A (ByteArray×Int)](a0:Aa)(a1:ByteArray):A:=(bd (Vx L a0.Vars a0 a1) fun o2=>Wo L a0 a1 o2)
def Abe(a0:Aa)(a1:ByteArray):Option (ByteArray×Int):=Ap8 L a0 a1
def X93:Ew:=E2 (fun(x:ByteArray×Int)=> .tup [S x.1,I x.2]) 93 B8 cS (Abe L) fun a0 a1 r h=>hF Tryz.func93 (C:=O93 L) (oS _) L (fun kk=>eE ((ho (B5v L (Bq6 L kk a0 a1) a0.Vars a0 a1) fun o2=>Chn L kk a0 a1 o2))) h
def Akk [An A ByteArray](a0:Aa)(a1:ByteArray):A:=
 (bd (Abe L a0 a1) fun r1=>
 (lf r1.1))
def Zv(a0:Aa)(a1:ByteArray):Option ByteArray:=Akk L a0 a1
def X63:Ew:=E2 S 63 B8 cS (Zv L) fun a0 a1 r h=>hF Tryz.func63 (oS [X93 L]) L (fun kk=>eE (Akk L a0 a1)) h
def Acv [An A Bool](L:Nat)(a0:Int)(a1:ByteArray):A:=
 (cn (a0 == 22)
 (lf (a1.toList == (⟨#[114,101,115,111,117,114,99,101]⟩:ByteArray).toList))
 (cn (a0 == 23)
 (lf (a1.toList == (⟨#[115,116,111,114,101]⟩:ByteArray).toList))
 (jp (.cn (a1.toList == (⟨#[114,101,115,111,117,114,99,101]⟩:ByteArray).toList)
 (.lf true)
 (.lf (a1.toList == (⟨#[113,117,101,117,101]⟩:ByteArray).toList))) (fun b1=>
 (lf b1)))))
def Ya(a0:Int)(a1:ByteArray):Option Bool:=Acv L a0 a1
def B4d:Ew:=E2 B 196 (cI .i64) cS (Ya L) fun a0 a1 r h=>hF Tryz.func196 (oS []) L (fun kk=>eE (Acv L a0 a1)) h
def Z5 [An A Bool](L:Nat)(a0:Int):A:=
 (jp (.cn (a0 == 1)
 (.lf true)
 (.lf (a0 == 3))) (fun b1=>
 (lf b1)))
def Hh(a0:Int):Option Bool:=Z5 L a0
def B4j:Ew:=E1 B 230 (cI .i64) (Hh L) fun a0 r h=>hF Tryz.func230 (oS []) L (fun kk=>eE (Z5 L a0)) h
def Aep [An A Int](a0:Int)(a1:Int):A:=
 (jb (.cn (a0 == 5)
 (.bd (Hh L a1) fun r2=>
 (.lf r2))
 (.lf false)) (fun b1=>
 (cn b1
 (cn b1
 (lf a1)
 (jp (.cn (a0 == 7)
 (.lf (a1 == 1))
 (.lf false)) (fun b3=>
 (cn b3
 (lf 3)
 (jp (.cn (a0 == 8)
 (.lf (a1 == 3))
 (.lf false)) (fun b4=>
 (cn b4
 (lf 1)
 (lf 0))))))))
 (jp (.cn (a0 == 6)
 (.lf (a1 == 2))
 (.lf false)) (fun b5=>
 (cn b5
 (lf a1)
 (jp (.cn (a0 == 7)
 (.lf (a1 == 1))
 (.lf false)) (fun b6=>
 (cn b6
 (lf 3)
 (jp (.cn (a0 == 8)
 (.lf (a1 == 3))
 (.lf false)) (fun b7=>
 (cn b7
 (lf 1)
 (lf 0)))))))))))))
def Zy(a0:Int)(a1:Int):Option Int:=Aep L a0 a1
def B4e:Ew:=E2 I 197 (cI .i64) (cI .i64) (Zy L) fun a0 a1 r h=>hF Tryz.func197 (oS [B4j L]) L (fun kk=>eE (Aep L a0 a1)) h
def Sk:=CC Tryz.f198
def Adu:Ba:=oL [B4j L]
def Bjg(a1:Int)(a2:Int)(p802_3:Bool):St:=⟨[(1,I a1),(2,I a2),(6,I 0),(47,B p802_3)],[],0⟩
def Biz(e0:EC):Ax:=(Av 2 (Av 0 (Bb (EV (Adu L) L 9 e0) (Cm Tryz.prog (RS Tryz.f198) kk))))
def Su [An A Int](L:Nat)(a1:Int)(a2:Int)(p802_3:Bool):A:=
 (cn p802_3
 (lf 1)
 (jp (.cn (a1 == 3)
 (.lf (a2 == 1))
 (.lf false)) (fun b9=>
 (cn b9
 (lf 3)
 (lf 0)))))
theorem Bvc(a1:Int)(a2:Int)(p802_3:Bool):EV (Adu L) L 9 Sk.w.l.u.l.x.l.l.u (Bjg a1 a2 p802_3) (Biz L kk Sk.w.r)=ob (Su L a1 a2 p802_3) (kQ I kk):=eE (Su L a1 a2 p802_3)
def Bjh(a1:Int)(a2:Int)(p805_3:Bool):St:=⟨[(1,I a1),(2,I a2),(6,I 0),(78,B p805_3)],[],0⟩
def Bi0(e0:EC):Ax:=(Av 0 (Bb (EV (Adu L) L 9 e0) (Cm Tryz.prog (RS Tryz.f198) kk)))
def Sv [An A Int](L:Nat)(a1:Int)(a2:Int)(p805_3:Bool):A:=
 (cn p805_3
 (jp (.cn (a1 == 2)
 (.lf (a2 == 2))
 (.lf false)) (fun b12=>
 (cn b12
 (lf 2)
 (lf 0))))
 (lf 0))
theorem Bvf(a1:Int)(a2:Int)(p805_3:Bool):EV (Adu L) L 9 Sk.w.l.u.l.x.x.r (Bjh a1 a2 p805_3) (Bi0 L kk Sk.w.r)=ob (Sv L a1 a2 p805_3) (kQ I kk):=eE (Sv L a1 a2 p805_3)
def A01(a1:Int)(a2:Int)(a0:Int)(p804_4:Bool):St:=⟨[(1,I a1),(2,I a2),(6,I 0),(14,I a0),(68,B p804_4)],[],0⟩
def A0j(e0:EC):Ax:=(Av 0 (Bb (EV (Adu L) L 9 e0) (Cm Tryz.prog (RS Tryz.f198) kk)))
def sx_typing_binary_4 [An A Int](a1:Int)(a2:Int)(a0:Int)(p804_4:Bool)(nx5:Int→Int→Bool→A):A:=
 (cn p804_4
 (jb (.cn (a1 == a2)
 (.bd (Hh L a1) fun r11=>
 (.lf r11))
 (.lf false)) (fun b10=>
 (cn b10
 (lf 2)
 (lf 0))))
 (cn (a0 == 18)
 (nx5 a1 a2 (a0 == 18))
 (nx5 a1 a2 (a0 == 19))))
def Zf [An A Int](a1:Int)(a2:Int)(a0:Int)(p804_4:Bool):A:=sx_typing_binary_4 L a1 a2 a0 p804_4 (fun a1 a2 p805_3=>Sv L a1 a2 p805_3)
theorem Bv5(a1:Int)(a2:Int)(a0:Int)(p804_4:Bool)(z5:EC):EV (Adu L) L 9 (EC.put (rl [3]) z5 Sk.w.l.u.l.x.w.u) (A01 a1 a2 a0 p804_4) (A0j L kk Sk.w.r)= @sx_typing_binary_4 Prop L (anP (kQ I kk)) a1 a2 a0 p804_4 (fun a1 a2 p805_3=>EV (Adu L) L 9 z5 (Bjh a1 a2 p805_3) (Bi0 L kk Sk.w.r)):=by kernel_rfl
theorem Bve(a1:Int)(a2:Int)(a0:Int)(p804_4:Bool):EV (Adu L) L 9 Sk.w.l.u.l.x.w.u (A01 a1 a2 a0 p804_4) (A0j L kk Sk.w.r)=ob (Zf L a1 a2 a0 p804_4) (kQ I kk):=Eq.trans (b:=EV (Adu L) L 9 (EC.put (rl [3]) Sk.w.l.u.l.x.x.r Sk.w.l.u.l.x.w.u) (A01 a1 a2 a0 p804_4) (A0j L kk Sk.w.r)) (by kernel_rfl) ((Bv5 L kk a1 a2 a0 p804_4 Sk.w.l.u.l.x.x.r).trans (eE (sx_typing_binary_4 L a1 a2 a0 p804_4 (fun a1 a2 p805_3=>re (Bvf L kk a1 a2 p805_3)))))
def A00(a1:Int)(a2:Int)(a0:Int)(p803_4:Bool):St:=⟨[(1,I a1),(2,I a2),(6,I 0),(14,I a0),(62,B p803_4)],[],0⟩
def A0i(e0:EC):Ax:=(Av 0 (Bb (EV (Adu L) L 9 e0) (Cm Tryz.prog (RS Tryz.f198) kk)))
def sx_typing_binary_3 [An A Int](L:Nat)(a1:Int)(a2:Int)(a0:Int)(p803_4:Bool)(nx4:Int→Int→Int→Bool→A):A:=
 (cn p803_4
 (cn (a1 == a2)
 (lf 2)
 (lf 0))
 (cn (a0 == 16)
 (nx4 a1 a2 a0 (a0 == 16))
 (nx4 a1 a2 a0 (a0 == 17))))
def Ze [An A Int](a1:Int)(a2:Int)(a0:Int)(p803_4:Bool):A:=sx_typing_binary_3 L a1 a2 a0 p803_4 (fun a1 a2 a0 p804_4=>Zf L a1 a2 a0 p804_4)
theorem Bv4(a1:Int)(a2:Int)(a0:Int)(p803_4:Bool)(z4:EC):EV (Adu L) L 9 (EC.put (rl [3]) z4 Sk.w.l.u.l.x.u.r) (A00 a1 a2 a0 p803_4) (A0i L kk Sk.w.r)= @sx_typing_binary_3 Prop (anP (kQ I kk)) L a1 a2 a0 p803_4 (fun a1 a2 a0 p804_4=>EV (Adu L) L 9 z4 (A01 a1 a2 a0 p804_4) (A0j L kk Sk.w.r)):=by kernel_rfl
theorem Bvd(a1:Int)(a2:Int)(a0:Int)(p803_4:Bool):EV (Adu L) L 9 Sk.w.l.u.l.x.u.r (A00 a1 a2 a0 p803_4) (A0i L kk Sk.w.r)=ob (Ze L a1 a2 a0 p803_4) (kQ I kk):=Eq.trans (b:=EV (Adu L) L 9 (EC.put (rl [3]) Sk.w.l.u.l.x.w.u Sk.w.l.u.l.x.u.r) (A00 a1 a2 a0 p803_4) (A0i L kk Sk.w.r)) (by kernel_rfl) ((Bv4 L kk a1 a2 a0 p803_4 Sk.w.l.u.l.x.w.u).trans (eE (sx_typing_binary_3 L a1 a2 a0 p803_4 (fun a1 a2 a0 p804_4=>re (Bve L kk a1 a2 a0 p804_4)))))
def A0z(a1:Int)(a2:Int)(b1:Bool)(a0:Int)(p801_5:Bool):St:=⟨[(1,I a1),(2,I a2),(6,I 0),(7,B b1),(14,I a0),(15,B p801_5)],[],0⟩
def A0h(e0:EC):Ax:=(Av 0 (Bb (EV (Adu L) L 9 e0) (Cm Tryz.prog (RS Tryz.f198) kk)))
def sx_typing_binary_1 [An A Int](a1:Int)(a2:Int)(b1:Bool)(a0:Int)(p801_5:Bool)(nx2:Int→Int→Bool→A)(nx3:Int→Int→Int→Bool→A):A:=
 (cn p801_5
 (jb (.cn (a1 == a2)
 (.bd (Hh L a1) fun r3=>
 (.lf r3))
 (.lf false)) (fun b2=>
 (cn b2
 (lf a1)
 (lf 0))))
 (cn (a0 == 11)
 (cn b1
 (lf 1)
 (bd (Hh L a1) fun r4=>
 (jb (.cn r4
 (.bd (Hh L a2) fun r6=>
 (.lf r6))
 (.lf false)) (fun b5=>
 (jp (.cn b5
 (.lf (a1 != a2))
 (.lf false)) (fun b7=>
 (cn b7
 (lf 3)
 (lf 0))))))))
 (cn (a0 == 12)
 (cn b1
 (nx2 a1 a2 b1)
 (jp (.cn (a1 == 3)
 (.lf (a2 == 3))
 (.lf false)) (fun b8=>
 (nx2 a1 a2 b8))))
 (cn (a0 == 14)
 (nx3 a1 a2 a0 (a0 == 14))
 (nx3 a1 a2 a0 (a0 == 15))))))
def Zd [An A Int](a1:Int)(a2:Int)(b1:Bool)(a0:Int)(p801_5:Bool):A:=sx_typing_binary_1 L a1 a2 b1 a0 p801_5 (fun a1 a2 p802_3=>Su L a1 a2 p802_3) (fun a1 a2 a0 p803_4=>Ze L a1 a2 a0 p803_4)
theorem Bv3(a1:Int)(a2:Int)(b1:Bool)(a0:Int)(p801_5:Bool)(z2 z3:EC):EV (Adu L) L 9 (EC.put (rl [9]) z3 (EC.put (rl [6,2,2]) z2 Sk.w.l.u.l.u)) (A0z a1 a2 b1 a0 p801_5) (A0h L kk Sk.w.r)= @sx_typing_binary_1 Prop L (anP (kQ I kk)) a1 a2 b1 a0 p801_5 (fun a1 a2 p802_3=>EV (Adu L) L 9 z2 (Bjg a1 a2 p802_3) (Biz L kk Sk.w.r)) (fun a1 a2 a0 p803_4=>EV (Adu L) L 9 z3 (A00 a1 a2 a0 p803_4) (A0i L kk Sk.w.r)):=by kernel_rfl
theorem Bvb(a1:Int)(a2:Int)(b1:Bool)(a0:Int)(p801_5:Bool):EV (Adu L) L 9 Sk.w.l.u.l.u (A0z a1 a2 b1 a0 p801_5) (A0h L kk Sk.w.r)=ob (Zd L a1 a2 b1 a0 p801_5) (kQ I kk):=Eq.trans (b:=EV (Adu L) L 9 (EC.put (rl [9]) Sk.w.l.u.l.x.u.r (EC.put (rl [6,2,2]) Sk.w.l.u.l.x.l.l.u Sk.w.l.u.l.u)) (A0z a1 a2 b1 a0 p801_5) (A0h L kk Sk.w.r)) (by kernel_rfl) ((Bv3 L kk a1 a2 b1 a0 p801_5 Sk.w.l.u.l.x.l.l.u Sk.w.l.u.l.x.u.r).trans (eE (sx_typing_binary_1 L a1 a2 b1 a0 p801_5 (fun a1 a2 p802_3=>re (Bvc L kk a1 a2 p802_3)) (fun a1 a2 a0 p803_4=>re (Bvd L kk a1 a2 a0 p803_4)))))
def sx_typing_binary_0 [An A Int](L:Nat)(a0:Int)(a1:Int)(a2:Int)(nx1:Int→Int→Bool→Int→Bool→A):A:=
 (jp (.cn (a1 == 1)
 (.lf (a2 == 1))
 (.lf false)) (fun b1=>
 (cn (a0 == 9)
 (nx1 a1 a2 b1 a0 (a0 == 9))
 (cn (a0 == 10)
 (nx1 a1 a2 b1 a0 (a0 == 10))
 (cn (a0 == 13)
 (nx1 a1 a2 b1 a0 (a0 == 13))
 (cn (a0 == 20)
 (nx1 a1 a2 b1 a0 (a0 == 20))
 (nx1 a1 a2 b1 a0 (a0 == 21))))))))
def All [An A Int](a0:Int)(a1:Int)(a2:Int):A:=sx_typing_binary_0 L a0 a1 a2 (fun a1 a2 b1 a0 p801_5=>Zd L a1 a2 b1 a0 p801_5)
theorem Bv2(a0:Int)(a1:Int)(a2:Int)(z1:EC):EW (Adu L) L 9 (RS Tryz.f198) (EC.put (rl [4,1,2,1,2]) z1 Sk) [I a0,I a1,I a2] kk= @sx_typing_binary_0 Prop (anP (kQ I kk)) L a0 a1 a2 (fun a1 a2 b1 a0 p801_5=>EV (Adu L) L 9 z1 (A0z a1 a2 b1 a0 p801_5) (A0h L kk Sk.w.r)):=by kernel_rfl
def X5(a0:Int)(a1:Int)(a2:Int):Option Int:=All L a0 a1 a2
def B4f:Ew:=E3 I 198 (cI .i64) (cI .i64) (cI .i64) (X5 L) fun a0 a1 a2 r h=>hF Tryz.func198 (C:=Adu L) (oS _) L (fun kk=>Eq.trans (b:=EW (Adu L) L 9 (RS Tryz.f198) (EC.put (rl [4,1,2,1,2]) Sk.w.l.u.l.u Sk) [I a0,I a1,I a2] kk) (by kernel_rfl) ((Bv2 L kk a0 a1 a2 Sk.w.l.u.l.u).trans (eE (sx_typing_binary_0 L a0 a1 a2 (fun a1 a2 b1 a0 p801_5=>re (Bvb L kk a1 a2 b1 a0 p801_5)))))) h
def Bfh(F:Au→Ab→Option Co):Prop:=∀y0 y1 r,F y0 y1=some r→Ho Tryz.prog 140 [E9.en y0,Bh.en y1] (fun(x:Co)=> .tup [I x.1,I x.2]) r
def Cds:=CC Tryz.f140
def B26(E5:Au→Ab→Option Co)(L:Nat):Ba:=(orc 140 (A2 (fun(x:Co)=> .tup [I x.1,I x.2]) E9 Bh E5) (oL [X63 L,B4c L,B4d L,B4e L,B4f L]))
theorem Clv(E5:Au→Ab→Option Co)(Bpc:Bfh E5)(L:Nat):Dm Tryz.prog (B26 E5 L):=(Dt (a2 _ Bpc) (oS [X63 L,B4c L,B4d L,B4e L,B4f L]))
def Cfa(kk:Cz):Co→Prop:=fun x=>kk ((fun(x:Co)=> .tup [I x.1,I x.2]) x)
def Bjv(a1:Ab)(a0:Au)(v:Int×Int×List Int×Int):St:=⟨[(0,.any),(1,.any),(2,.loc 2 0),(3,.loc 3 0),(4,I v.1),(5,I v.2.1),(6,.lst true (.t37 v.2.2.1)),(11,.any),(12,.any),(13,.any),(15,lv (.t63 a1.Kids)),(16,I (a1.Kids.length:Int)),(17,I v.2.2.2),(35,.any),(49,.any),(62,.any),(72,.any),(85,.any),(89,.any),(93,.any)],[(2,(Nj a0)),(3,(Er a1))],0⟩
def Wb [An A (Nat×Int×Int×List Int×Int)](E5:Au→Ab→Option Co)(L:Nat)(a1:Ab)(a0:Au)(rec:Int→Int→List Int→Int→A)(Al:Int)(Aj:Int)(Ak:List Int)(Zq:Int):A:=
 (lw Zq a1.Kids
 (bd (E5 a0 (Ab.cp (a1.Kids.getD (Int.toNat Zq) default))) fun r1=>
 (cn (r1.2 != 0)
 (lf (0,0,r1.2,Ak,Zq))
 (gq ((Ak.length+ [r1.1].length)*8≤140737488355328)
 (gq (Ak.length+ [r1.1].length≤maxLen)
 (rec Al Aj (Ak++ [r1.1]) (B6 (Zq+1)))))))
 (lf (1,Al,Aj,Ak,Zq)))
def Kv(E5:Au→Ab→Option Co)(L:Nat)(a1:Ab)(a0:Au):Nat→Int→Int→List Int→Int→Option (Nat×Int×Int×List Int×Int)
 |0,_,_,_,_=>none
 |n+1,Al,Aj,Ak,Zq=>Wb E5 L a1 a0 (Kv E5 L a1 a0 n) Al Aj Ak Zq
theorem Byd(E5:Au→Ab→Option Co)(L:Nat)(K:Ax)(a1:Ab)(a0:Au):LP (EV (B26 E5 L) L 9 Cds.w.l.u.l.l) [0,1,2,3,4,5,6,11,12,13,15,16,17,35,49,62,72,85,89,93] [2,3] (Bjv a1 a0) [.ret,.exit 0] (fun n v=>Kv E5 L a1 a0 n v.1 v.2.1 v.2.2.1 v.2.2.2) K:=lE (fun _=>rfl) fun n v ih=>eE (Wb E5 L a1 a0 (fun Al Aj Ak Zq=>re (ih (Al,Aj,Ak,Zq))) v.1 v.2.1 v.2.2.1 v.2.2.2)
def Sd [An A Co](E5:Au→Ab→Option Co)(L:Nat)(a1:Ab)(a0:Au)(o2:Nat×Int×Int×List Int×Int):A:=
 (sl o2.1 [(lf (o2.2.1,o2.2.2.1)),
 (cn (a1.Op == 3)
 (bd (Abg L a0 a1.Name) fun r3=>
 (cn (!r3.2)
 (lf (0,5))
 (lf (r3.1,0))))
 (cn (decide (a1.Op≥22))
 (bd (Zv L a0.Site a1.Name) fun r4=>
 (bd (Ya L a1.Op r4) fun r5=>
 (cn (!r5)
 (lf (0,5))
 (lf (1,0)))))
 (cn ((o2.2.2.2.1.length:Int) == 1)
 (gi 0 o2.2.2.2.1
 (bd (Zy L a1.Op (o2.2.2.2.1.getD 0 default)) fun r6=>
 (cn (r6 == 0)
 (lf (0,10))
 (lf (r6,0)))))
 (cn ((o2.2.2.2.1.length:Int) == 2)
 (gi 0 o2.2.2.2.1
 (gi 1 o2.2.2.2.1
 (bd (X5 L a1.Op (o2.2.2.2.1.getD 0 default) (o2.2.2.2.1.getD 1 default)) fun r7=>
 (cn (r7 == 0)
 (lf (0,10))
 (lf (r7,0))))))
 (cn (a1.Op == 1)
 (lf (1,0))
 (cn (a1.Op == 2)
 (lf (2,0))
 (cn (a1.Op == 4)
 (lf (3,0))
 (lf (0,10)))))))))])
def Bge(E5:Au→Ab→Option Co)(L:Nat)(kk:Cz):Ax:=(Av 0 (Bb (EV (B26 E5 L) L 9 Cds.w.r) (Cm Tryz.prog (RS Tryz.f140) kk)))
theorem B76(E5:Au→Ab→Option Co)(L:Nat)(kk:Cz)(a1:Ab)(a0:Au)(o2:Nat×Int×Int×List Int×Int):kX [.ret,.exit 0] (Bjv a1 a0) (Bge E5 L kk) o2=ob (Sd E5 L a1 a0 o2) (Cfa kk):=eE (Sd E5 L a1 a0 o2)
def Aqc [An A Co](E5:Au→Ab→Option Co)(L:Nat)(a0:Au)(a1:Ab):A:=(bd (Kv E5 L a1 a0 L 0 0 [] 0) fun o2=>Sd E5 L a1 a0 o2)
def Ahi(E5:Au→Ab→Option Co)(L:Nat)(a0:Au)(a1:Ab):Option Co:=Aqc E5 L a0 a1
theorem Cj1(E5:Au→Ab→Option Co)(Bpc:Bfh E5)(L:Nat):Bfh (Ahi E5 L):=fun a0 a1 r h=>hF Tryz.func140 (Clv E5 Bpc L) L (fun kk=>eE ((ho (Byd E5 L (Bge E5 L kk) a1 a0 L (0,0,[],0)) fun o2=>B76 E5 L kk a1 a0 o2))) h
def K7:Nat→Au→Ab→Option Co
 |0,_,_=>none
 |L+1,a0,a1=>Ahi (K7 L) L a0 a1
theorem Bwx(L:Nat):Bfh (K7 L):=by
 induction L with
 |zero=>exact fun _ _ _ h=>(by cases h)
 |succ L ih=>
  have i140:=ih
  exact Cj1 (K7 L) i140 L
def Cbr(L:Nat):Ew:=E2 (fun(x:Co)=> .tup [I x.1,I x.2]) 140 E9 Bh (K7 L) (Bwx L)
def Ahp [An A Co](a0:Au)(a1:Ab):A:=
 (bd (Ps L (Ab.cp a1)) fun r1=>
 (cn (r1 != 0)
 (lf (0,r1))
 (bd (K7 L a0 (Ab.cp a1)) fun r2=>
 (lf (r2.1,r2.2)))))
def Abf(a0:Au)(a1:Ab):Option Co:=Ahp L a0 a1
def X76:Ew:=E2 (fun(x:Co)=> .tup [I x.1,I x.2]) 76 E9 Bh (Abf L) fun a0 a1 r h=>hF Tryz.func76 (oS [X42 L,Cbr L]) L (fun kk=>eE (Ahp L a0 a1)) h
def Cd9:=CC Tryz.f190
def B3g:Ba:=oL [X76 L]
def Bkg(r1:Co)(a2:List Int)(a1:Ab)(v:Co):St:=⟨[(0,.any),(1,.any),(2,.any),(4,.any),(6,I v.1),(7,I r1.1),(8,.any),(23,lv (.t37 a2)),(24,I (a2.length:Int)),(25,I v.2)],[(4,(Er a1))],0⟩
def J8 [An A B7](L:Nat)(r1:Co)(a2:List Int)(a1:Ab)(rec:Int→Int→A)(Al:Int)(Bp:Int):A:=
 (lw Bp a2
 (cn (r1.1 == (a2.getD (Int.toNat Bp) default))
 (lf (0,0,Bp))
 (rec Al (B6 (Bp+1))))
 (lf (1,Al,Bp)))
def Dw(L:Nat)(r1:Co)(a2:List Int)(a1:Ab):Nat→Int→Int→Option B7
 |0,_,_=>none
 |n+1,Al,Bp=>J8 L r1 a2 a1 (Dw L r1 a2 a1 n) Al Bp
theorem Byy(r1:Co)(a2:List Int)(a1:Ab):LP (EV (B3g L) L 9 Cd9.w.u.l.u.l.l) [0,1,2,4,6,7,8,23,24,25] [4] (Bkg r1 a2 a1) [.ret,.exit 0] (fun n v=>Dw L r1 a2 a1 n v.1 v.2) K:=lE (fun _=>rfl) fun n v ih=>eE (J8 L r1 a2 a1 (fun Al Bp=>re (ih (Al,Bp))) v.1 v.2)
def Gx [An A Int](L:Nat)(o2:Nat×Co):A:=
 (sl o2.1 [(lf o2.2.1),
 (lf 10)])
def Bg7:Ax:=(Av 0 (Bb (EV (B3g L) L 9 Cd9.w.u.r) (Cm Tryz.prog (RS Tryz.f190) kk)))
theorem B8z(r1:Co)(a2:List Int)(a1:Ab)(o2:Nat×Co):kX [.ret,.exit 0] (Bkg r1 a2 a1) (Bg7 L kk) o2=ob (Gx L o2) (kQ I kk):=eE (Gx L o2)
def Ka [An A Int](a0:Am)(a1:Ab)(a2:List Int)(nx1:Co→A):A:=
 (bd (Abf L a0.u_env (Ab.cp a1)) fun r1=>
 (cn (r1.2 != 0)
 (lf r1.2)
 (nx1 r1)))
def Z7 [An A Int](a0:Am)(a1:Ab)(a2:List Int):A:=Ka L a0 a1 a2 (fun r1=>bd (Dw L r1 a2 a1 L 0 0) fun o2=>Gx L o2)
def Bq(a0:Am)(a1:Ab)(a2:List Int):Option Int:=Z7 L a0 a1 a2
def Bn2:Ew:=E3 I 190 Dl Bh B44 (Bq L) fun a0 a1 a2 r h=>hF Tryz.func190 (C:=B3g L) (oS _) L (fun kk=>eE (Ka L a0 a1 a2 (fun r1=>ho (Byy L (Bg7 L kk) r1 a2 a1 L (0,0)) fun o2=>B8z L kk r1 a2 a1 o2))) h
def B42:=CC Tryz.f187
def Buc:Ba:=oL [Bn2 L,Bn4 L]
def Bkf(a0:Am)(r1:Tu6)(a1:Ad)(v:Co):St:=⟨[(0,.ref (Ij a0)),(1,.any),(3,.loc 3 0),(4,I v.1),(5,I r1.1),(6,.any),(27,lv (.t39 a0.u_env.Site.Vars)),(28,I (a0.u_env.Site.Vars.length:Int)),(29,I v.2)],[(3,(D5 a1))],0⟩
def Ls [An A B7](a0:Am)(r1:Tu6)(a1:Ad)(rec:Int→Int→A)(C4:Int)(Ard:Int):A:=
 (lw Ard a0.u_env.Site.Vars
 (cn (((a0.u_env.Site.Vars.getD (Int.toNat Ard) default).Name).toList == a1.Name.toList)
 (bd (Bq L a0 (Ab.cp a1.E) [(a0.u_env.Site.Vars.getD (Int.toNat Ard) default).Type_]) fun r2=>
 (lf (0,r2,Ard)))
 (rec C4 (B6 (Ard+1))))
 (lf (1,C4,Ard)))
def Es(L:Nat)(a0:Am)(r1:Tu6)(a1:Ad):Nat→Int→Int→Option B7
 |0,_,_=>none
 |n+1,C4,Ard=>Ls L a0 r1 a1 (Es L a0 r1 a1 n) C4 Ard
theorem Byx(a0:Am)(r1:Tu6)(a1:Ad):LP (EV (Buc L) L 9 B42.w.l.u.l.l.u.l.l) [0,1,3,4,5,6,27,28,29] [3] (Bkf a0 r1 a1) [.ret,.exit 0] (fun n v=>Es L a0 r1 a1 n v.1 v.2) K:=lE (fun _=>rfl) fun n v ih=>eE (Ls L a0 r1 a1 (fun C4 Ard=>re (ih (C4,Ard))) v.1 v.2)
def Ir [An A Int](L:Nat)(o4:Nat×Co):A:=
 (sl o4.1 [(lf o4.2.1),
 (lf 5)])
def Bg6:Ax:=(Av 0 (Bb (EV (Buc L) L 9 B42.w.l.u.l.r) (Bb (EV (Buc L) L 9 B42.w.r) (Cm Tryz.prog (RS Tryz.f187) kk))))
theorem B8y(a0:Am)(r1:Tu6)(a1:Ad)(o4:Nat×Co):kX [.ret,.exit 0] (Bkf a0 r1 a1) (Bg6 L kk) o4=ob (Ir L o4) (kQ I kk):=eE (Ir L o4)
def Lw [An A Int](a0:Am)(a1:Ad)(nx1:Tu6→A):A:=
 (bd (Nx L a0.u_env.Locals a1.Name) fun r1=>
 (cn (!r1.2)
 (nx1 r1)
 (bd (Bq L a0 (Ab.cp a1.E) [r1.1]) fun r3=>
 (lf r3))))
def Acb [An A Int](a0:Am)(a1:Ad):A:=Lw L a0 a1 (fun r1=>bd (Es L a0 r1 a1 L 0 0) fun o4=>Ir L o4)
def Pu(a0:Am)(a1:Ad):Option Int:=Acb L a0 a1
def Cb2:Ew:=E2 I 187 Dl Hi (Pu L) fun a0 a1 r h=>hF Tryz.func187 (C:=Buc L) (oS _) L (fun kk=>eE (Lw L a0 a1 (fun r1=>ho (Byx L (Bg6 L kk) a0 r1 a1 L (0,0)) fun o4=>B8y L kk a0 r1 a1 o4))) h
def Xm [An A Bool](a0:Am)(a1:ByteArray)(a2:ByteArray):A:=
 (bd (Zv L a0.u_env.Site a1) fun r1=>
 (lf (r1.toList == a2.toList)))
def F5(a0:Am)(a1:ByteArray)(a2:ByteArray):Option Bool:=Xm L a0 a1 a2
def B39:Ew:=E3 B 189 Dl cS cS (F5 L) fun a0 a1 a2 r h=>hF Tryz.func189 (oS [X63 L]) L (fun kk=>eE (Xm L a0 a1 a2)) h
def Cek:=CC Tryz.f224
def B3p:Ba:=oL [Bn4 L]
def Bks(r1:Tu6)(a2:List Int)(v:Co):St:=⟨[(0,.any),(1,.any),(2,.any),(6,I v.1),(7,I r1.1),(8,.any),(21,lv (.t37 a2)),(22,I (a2.length:Int)),(23,I v.2)],[],0⟩
def I2 [An A B7](L:Nat)(r1:Tu6)(a2:List Int)(rec:Int→Int→A)(Al:Int)(Bp:Int):A:=
 (lw Bp a2
 (cn (r1.1 == (a2.getD (Int.toNat Bp) default))
 (lf (0,0,Bp))
 (rec Al (B6 (Bp+1))))
 (lf (1,Al,Bp)))
def Dn(L:Nat)(r1:Tu6)(a2:List Int):Nat→Int→Int→Option B7
 |0,_,_=>none
 |n+1,Al,Bp=>I2 L r1 a2 (Dn L r1 a2 n) Al Bp
theorem Bza(r1:Tu6)(a2:List Int):LP (EV (B3p L) L 9 Cek.w.l.u.l.l) [0,1,2,6,7,8,21,22,23] [] (Bks r1 a2) [.ret,.exit 0] (fun n v=>Dn L r1 a2 n v.1 v.2) K:=lE (fun _=>rfl) fun n v ih=>eE (I2 L r1 a2 (fun Al Bp=>re (ih (Al,Bp))) v.1 v.2)
def Gp [An A Int](L:Nat)(o2:Nat×Co):A:=
 (sl o2.1 [(lf o2.2.1),
 (lf 10)])
def Bhk:Ax:=(Av 0 (Bb (EV (B3p L) L 9 Cek.w.r) (Cm Tryz.prog (RS Tryz.f224) kk)))
theorem B9c(r1:Tu6)(a2:List Int)(o2:Nat×Co):kX [.ret,.exit 0] (Bks r1 a2) (Bhk L kk) o2=ob (Gp L o2) (kQ I kk):=eE (Gp L o2)
def Jp [An A Int](a0:Am)(a1:ByteArray)(a2:List Int)(nx1:Tu6→A):A:=
 (bd (Nx L a0.u_env.Locals a1) fun r1=>
 (nx1 r1))
def Zk [An A Int](a0:Am)(a1:ByteArray)(a2:List Int):A:=Jp L a0 a1 a2 (fun r1=>bd (Dn L r1 a2 L 0 0) fun o2=>Gp L o2)
def Rg(a0:Am)(a1:ByteArray)(a2:List Int):Option Int:=Zk L a0 a1 a2
def Cch:Ew:=E3 I 224 Dl cS B44 (Rg L) fun a0 a1 a2 r h=>hF Tryz.func224 (C:=B3p L) (oS _) L (fun kk=>eE (Jp L a0 a1 a2 (fun r1=>ho (Bza L (Bhk L kk) r1 a2 L (0,0)) fun o2=>B9c L kk r1 a2 o2))) h
def Tu [An A Int](a0:Am)(a1:ByteArray)(a2:Bool)(a3:List Int):A:=
 (bd (Nx L a0.u_env.Locals a1) fun r1=>
 (jp (.cn (!r1.2)
 (.lf true)
 (.lf (!a2))) (fun b2=>
 (cn b2
 (lf 5)
 (bd (Rg L a0 a1 a3) fun r3=>
 (lf r3))))))
def Hm(a0:Am)(a1:ByteArray)(a2:Bool)(a3:List Int):Option Int:=Tu L a0 a1 a2 a3
def Cb3:Ew:=E4 I 188 Dl cS cB B44 (Hm L) fun a0 a1 a2 a3 r h=>hF Tryz.func188 (oS [Bn4 L,Cch L]) L (fun kk=>eE (Tu L a0 a1 a2 a3)) h
def Cea:=CC Tryz.f191
def B3h:Ba:=oL [B39 L,Bn2 L]
def Bkh(a0:Am)(a3:List Ab)(a1:Ad)(v:Co):St:=⟨[(0,.ref (Ij a0)),(1,.any),(2,.any),(3,.any),(5,.any),(8,I v.1),(18,lv (.t63 a3)),(19,I (a3.length:Int)),(20,I v.2)],[(5,(D5 a1))],0⟩
def J7 [An A B7](a0:Am)(a3:List Ab)(a1:Ad)(rec:Int→Int→A)(C4:Int)(Lm:Int):A:=
 (lw Lm a3
 (bd (Bq L a0 (Ab.cp (a3.getD (Int.toNat Lm) default)) [1]) fun r2=>
 (cn (r2 != 0)
 (lf (0,r2,Lm))
 (rec C4 (B6 (Lm+1)))))
 (lf (1,C4,Lm)))
def Dv(L:Nat)(a0:Am)(a3:List Ab)(a1:Ad):Nat→Int→Int→Option B7
 |0,_,_=>none
 |n+1,C4,Lm=>J7 L a0 a3 a1 (Dv L a0 a3 a1 n) C4 Lm
theorem Byz(a0:Am)(a3:List Ab)(a1:Ad):LP (EV (B3h L) L 9 Cea.w.l.u.l.l) [0,1,2,3,5,8,18,19,20] [5] (Bkh a0 a3 a1) [.ret,.exit 0] (fun n v=>Dv L a0 a3 a1 n v.1 v.2) K:=lE (fun _=>rfl) fun n v ih=>eE (J7 L a0 a3 a1 (fun C4 Lm=>re (ih (C4,Lm))) v.1 v.2)
def Gw [An A Int](L:Nat)(o3:Nat×Co):A:=
 (sl o3.1 [(lf o3.2.1),
 (lf 0)])
def Bg8:Ax:=(Av 0 (Bb (EV (B3h L) L 9 Cea.w.r) (Cm Tryz.prog (RS Tryz.f191) kk)))
theorem B80(a0:Am)(a3:List Ab)(a1:Ad)(o3:Nat×Co):kX [.ret,.exit 0] (Bkh a0 a3 a1) (Bg8 L kk) o3=ob (Gw L o3) (kQ I kk):=eE (Gw L o3)
def J9 [An A Int](a0:Am)(a1:Ad)(a2:ByteArray)(a3:List Ab)(nx1:A):A:=
 (bd (F5 L a0 a1.Name a2) fun r1=>
 (cn (!r1)
 (lf 5)
 nx1))
def Z6 [An A Int](a0:Am)(a1:Ad)(a2:ByteArray)(a3:List Ab):A:=J9 L a0 a1 a2 a3 (bd (Dv L a0 a3 a1 L 0 0) fun o3=>Gw L o3)
def B2(a0:Am)(a1:Ad)(a2:ByteArray)(a3:List Ab):Option Int:=Z6 L a0 a1 a2 a3
def Cb4:Ew:=E4 I 191 Dl Hi cS A2f (B2 L) fun a0 a1 a2 a3 r h=>hF Tryz.func191 (C:=B3h L) (oS _) L (fun kk=>eE (J9 L a0 a1 a2 a3 (ho (Byz L (Bg8 L kk) a0 a3 a1 L (0,0)) fun o3=>B80 L kk a0 a3 a1 o3))) h
def Ces:=CC Tryz.f243
def Cel:=CC Tryz.f225
def Bcp(L:Nat):Ba:=oL []
def Cfd:Tu6→Prop:=fun x=>kk ((fun(x:Tu6)=> .tup [I x.1,B x.2]) x)
def Bkt(p1_0:List Bj)(p1_1:Ac)(p1_2:ByteArray)(p1_3:ByteArray)(v:Co):St:=⟨[(0,lv (.t81 p1_0)),(1,.clo 244 0 [.loc 4 0,.loc 5 0]),(4,I v.1),(7,I (p1_0.length:Int)),(8,I v.2)],[(3,(Aq p1_1)),(4,[S p1_2]),(5,[S p1_3])],6⟩
def Yi [An A B7](L:Nat)(p1_0:List Bj)(p1_1:Ac)(p1_2:ByteArray)(p1_3:ByteArray)(rec:Int→Int→A)(Aj:Int)(Ai:Int):A:=
 (lw Ai p1_0
 (jp (.cn (((p1_0.getD (Int.toNat Ai) default).From).toList == p1_2.toList)
 (.lf (((p1_0.getD (Int.toNat Ai) default).To).toList == p1_3.toList))
 (.lf false)) (fun b1=>
 (cn b1
 (lf (0,Ai,Ai))
 (rec Aj (B6 (Ai+1))))))
 (lf (1,Aj,Ai)))
def L3(L:Nat)(p1_0:List Bj)(p1_1:Ac)(p1_2:ByteArray)(p1_3:ByteArray):Nat→Int→Int→Option B7
 |0,_,_=>none
 |n+1,Aj,Ai=>Yi L p1_0 p1_1 p1_2 p1_3 (L3 L p1_0 p1_1 p1_2 p1_3 n) Aj Ai
theorem Bzb(p1_0:List Bj)(p1_1:Ac)(p1_2:ByteArray)(p1_3:ByteArray):LP (EV (Bcp L) L 8 Ces.u.l.u.l.l) [0,1,4,7,8] [3,4,5] (Bkt p1_0 p1_1 p1_2 p1_3) [.ret,.exit 0] (fun n v=>L3 L p1_0 p1_1 p1_2 p1_3 n v.1 v.2) K:=lE (fun _=>rfl) fun n v ih=>eE (Yi L p1_0 p1_1 p1_2 p1_3 (fun Aj Ai=>re (ih (Aj,Ai))) v.1 v.2)
def A6y(p1_0:List Bj)(p1_1:Ac)(p1_2:ByteArray)(p1_3:ByteArray)(k:Bk):Int→Prop:=fun o=>k (I o) [(3,(Aq p1_1)),(4,[S p1_2]),(5,[S p1_3])]
def Yw [An A Int](L:Nat)(o2:Nat×Co):A:=
 (sl o2.1 [(lf o2.2.1),
 (lf (-1))])
def Bhl:Ax:=(Av 0 (Bb (EV (Bcp L) L 8 Ces.u.r) (Dz Tryz.prog (RS Tryz.f243) k)))
theorem B9d(p1_0:List Bj)(p1_1:Ac)(p1_2:ByteArray)(p1_3:ByteArray)(o2:Nat×Co):kX [.ret,.exit 0] (Bkt p1_0 p1_1 p1_2 p1_3) (Bhl L k) o2=ob (Yw L o2) (A6y p1_0 p1_1 p1_2 p1_3 k):=eE (Yw L o2)
def Alp [An A Int](p1_0:List Bj)(p1_1:Ac)(p1_2:ByteArray)(p1_3:ByteArray):A:=(bd (L3 L p1_0 p1_1 p1_2 p1_3 L 0 0) fun o2=>Yw L o2)
def Acy(p1_0:List Bj)(p1_1:Ac)(p1_2:ByteArray)(p1_3:ByteArray):Option Int:=Alp L p1_0 p1_1 p1_2 p1_3
theorem Bxc(p1_0:List Bj)(p1_1:Ac)(p1_2:ByteArray)(p1_3:ByteArray):YO (Bcp L) L 9 243 [lv (.t81 p1_0),.clo 244 0 [.loc 4 0,.loc 5 0]] [(3,(Aq p1_1)),(4,[S p1_2]),(5,[S p1_3])] k=ob (Acy L p1_0 p1_1 p1_2 p1_3) (A6y p1_0 p1_1 p1_2 p1_3 k):=(C3 _ _ _ jn4 _ _ _ _ _ _ _).trans (eE ((ho (Bzb L (Bhl L k) p1_0 p1_1 p1_2 p1_3 L (0,0)) fun o2=>B9d L k p1_0 p1_1 p1_2 p1_3 o2)))
def Tb [An A Tu6](L:Nat)(a0:Ac)(o3:Int):A:=
 (cn (decide (o3 < 0))
 (lf (0,false))
 (gi o3 a0.Links
 (lf ((a0.Links.getD (Int.toNat o3) default).Delay,true))))
def Bhm(a0:Ac)(a1:ByteArray)(a2:ByteArray):Bk:=(Bz Tryz.prog (Bcp L) (EI (Bcp L) L 9) 1 (List.drop 4 Cel.u.l.ops) ⟨[(11,.clo 244 0 [.loc 4 0,.loc 5 0]),(10,lv (.t81 a0.Links)),(9,.loc 3 3),(3,.loc 3 0),(4,.loc 4 0),(5,.loc 5 0),(6,I 0),(7,B false)],[(3,(Aq a0)),(4,[S a1]),(5,[S a2])],0⟩ (some 12) (fun st9=>(Bb (EV (Bcp L) L 9 Cel.u.r) (Cm Tryz.prog (RS Tryz.f225) kk)) .normal st9))
theorem B9e(a0:Ac)(a1:ByteArray)(a2:ByteArray)(o3:Int):A6y a0.Links a0 a1 a2 (Bhm L kk a0 a1 a2) o3=ob (Tb L a0 o3) (Cfd kk):=eE (Tb L a0 o3)
def Ati [An A Tu6](a0:Ac)(a1:ByteArray)(a2:ByteArray):A:=(bd (Acy L a0.Links a0 a1 a2) fun o3=>Tb L a0 o3)
def Adr(a0:Ac)(a1:ByteArray)(a2:ByteArray):Option Tu6:=Ati L a0 a1 a2
def Cci:Ew:=E3 (fun(x:Tu6)=> .tup [I x.1,B x.2]) 225 Cq cS cS (Adr L) fun a0 a1 a2 r h=>hF Tryz.func225 (C:=Bcp L) (oS _) L (fun kk=>eE ((ho (Bxc L (Bhm L kk a0 a1 a2) a0.Links a0 a1 a2) fun o3=>B9e L kk a0 a1 a2 o3))) h
def Ceb:=CC Tryz.f193
def B3i:Ba:=oL [Bn2 L]
def Bki(a0:Am)(a2:Ad)(a1:Ap)(v:Co):St:=⟨[(0,.ref (Ij a0)),(1,.any),(2,.any),(4,.loc 4 0),(5,.loc 5 0),(6,I v.1),(18,lv (.t63 a2.Args)),(19,I (a2.Args.length:Int)),(20,I v.2)],[(4,(Cs a1)),(5,(D5 a2))],0⟩
def K9 [An A B7](a0:Am)(a2:Ad)(a1:Ap)(rec:Int→Int→A)(C4:Int)(Lm:Int):A:=
 (lw Lm a2.Args
 (gi Lm a1.Params
 (bd (Bq L a0 (Ab.cp (a2.Args.getD (Int.toNat Lm) default)) [(a1.Params.getD (Int.toNat Lm) default).Type_]) fun r1=>
 (cn (r1 != 0)
 (lf (0,r1,Lm))
 (rec C4 (B6 (Lm+1))))))
 (lf (1,C4,Lm)))
def D7(L:Nat)(a0:Am)(a2:Ad)(a1:Ap):Nat→Int→Int→Option B7
 |0,_,_=>none
 |n+1,C4,Lm=>K9 L a0 a2 a1 (D7 L a0 a2 a1 n) C4 Lm
theorem By0(a0:Am)(a2:Ad)(a1:Ap):LP (EV (B3i L) L 9 Ceb.w.l.u.l.l) [0,1,2,4,5,6,18,19,20] [4,5] (Bki a0 a2 a1) [.ret,.exit 0] (fun n v=>D7 L a0 a2 a1 n v.1 v.2) K:=lE (fun _=>rfl) fun n v ih=>eE (K9 L a0 a2 a1 (fun C4 Lm=>re (ih (C4,Lm))) v.1 v.2)
def Ht [An A Int](a0:Am)(a2:Ad)(o2:Nat×Co):A:=
 (sl o2.1 [(lf o2.2.1),
 (bd (Bq L a0 (Ab.cp a2.E) [3]) fun r3=>
 (lf r3))])
def Bg9:Ax:=(Av 0 (Bb (EV (B3i L) L 9 Ceb.w.r) (Cm Tryz.prog (RS Tryz.f193) kk)))
theorem B81(a0:Am)(a2:Ad)(a1:Ap)(o2:Nat×Co):kX [.ret,.exit 0] (Bki a0 a2 a1) (Bg9 L kk) o2=ob (Ht L a0 a2 o2) (kQ I kk):=eE (Ht L a0 a2 o2)
def Lh [An A Int](L:Nat)(a0:Am)(a1:Ap)(a2:Ad)(nx1:A):A:=
 (cn ((a2.Args.length:Int) != (a1.Params.length:Int))
 (lf 8)
 nx1)
def t5 [An A Int](a0:Am)(a1:Ap)(a2:Ad):A:=Lh L a0 a1 a2 (bd (D7 L a0 a2 a1 L 0 0) fun o2=>Ht L a0 a2 o2)
def Hl(a0:Am)(a1:Ap)(a2:Ad):Option Int:=t5 L a0 a1 a2
def B4a:Ew:=E3 I 193 Dl b0 Hi (Hl L) fun a0 a1 a2 r h=>hF Tryz.func193 (C:=B3i L) (oS _) L (fun kk=>eE (Lh L a0 a1 a2 (ho (By0 L (Bg9 L kk) a0 a2 a1 L (0,0)) fun o2=>B81 L kk a0 a2 a1 o2))) h
def Tv [An A Int](a0:Am)(a1:Ad):A:=
 (bd (Vq L a0.u_m a1.Of) fun r1=>
 (cn (decide (r1 < 0))
 (lf 5)
 (gi r1 a0.u_m.Sites
 (bd (Fv L (a0.u_m.Sites.getD (Int.toNat r1) default) a1.Name) fun r2=>
 (cn (decide (r2 < 0))
 (lf 5)
 (bd (Adr L a0.u_m a0.u_env.Site.Name a1.Of) fun r3=>
 (cn (!r3.2)
 (lf 16)
 (gi r1 a0.u_m.Sites
 (gi r2 ((a0.u_m.Sites.getD (Int.toNat r1) default).Routines)
 (bd (Hl L a0 (((a0.u_m.Sites.getD (Int.toNat r1) default).Routines).getD (Int.toNat r2) default) (Ad.cp a1)) fun r4=>
 (lf r4)))))))))))
def Od(a0:Am)(a1:Ad):Option Int:=Tv L a0 a1
def Cb5:Ew:=E2 I 192 Dl Hi (Od L) fun a0 a1 r h=>hF Tryz.func192 (oS [B3y L,Bll L,B4a L,Cci L]) L (fun kk=>eE (Tv L a0 a1)) h
def Bc5:=CC Tryz.f136
def Ble:Ba:=oL [Bll L,Cb2 L,Cb3 L,B39 L,Bn2 L,Cb4 L,Cb5 L,B4a L]
def Bjd(a0:Am)(a1:Ad)(p801_22:Bool):St:=⟨[(0,.ref (Ij a0)),(3,.loc 3 0),(4,I 0),(7,I a1.Op),(24,B p801_22)],[(3,(D5 a1))],0⟩
def Biw(e0:EC):Ax:=(Av 0 (Bb (EV (Ble L) L 9 e0) (Cm Tryz.prog (RS Tryz.f136) kk)))
def Lv [An A Int](a0:Am)(a1:Ad)(p801_22:Bool):A:=
 (cn p801_22
 (bd (Bq L a0 (Ab.cp a1.E) [2]) fun r4=>
 (lf r4))
 (cn (a1.Op == 5)
 (bd (Bq L a0 (Ab.cp a1.E) [3]) fun r5=>
 (lf r5))
 (cn (a1.Op == 6)
 (bd (B2 L a0 (Ad.cp a1) (⟨#[114,101,115,111,117,114,99,101]⟩:ByteArray) [(Ab.cp a1.E),(Ab.cp a1.F)]) fun r6=>
 (lf r6))
 (cn (a1.Op == 7)
 (bd (B2 L a0 (Ad.cp a1) (⟨#[114,101,115,111,117,114,99,101]⟩:ByteArray) [(Ab.cp a1.E)]) fun r7=>
 (lf r7))
 (cn (a1.Op == 8)
 (bd (B2 L a0 (Ad.cp a1) (⟨#[115,116,111,114,101]⟩:ByteArray) [(Ab.cp a1.E)]) fun r8=>
 (lf r8))
 (cn (a1.Op == 9)
 (bd (F5 L a0 a1.Name (⟨#[115,116,111,114,101]⟩:ByteArray)) fun r9=>
 (bd (Hm L a0 a1.Of r9 [1]) fun r10=>
 (lf r10)))
 (cn (a1.Op == 10)
 (bd (B2 L a0 (Ad.cp a1) (⟨#[98,101,108,116]⟩:ByteArray) []) fun r11=>
 (lf r11))
 (cn (a1.Op == 11)
 (bd (B2 L a0 (Ad.cp a1) (⟨#[113,117,101,117,101]⟩:ByteArray) []) fun r12=>
 (lf r12))
 (cn (a1.Op == 12)
 (bd (B2 L a0 (Ad.cp a1) (⟨#[113,117,101,117,101]⟩:ByteArray) [(Ab.cp a1.E)]) fun r13=>
 (lf r13))
 (cn (a1.Op == 13)
 (bd (Od L a0 (Ad.cp a1)) fun r14=>
 (lf r14))
 (cn (a1.Op == 14)
 (bd (Fv L a0.u_env.Site a1.Name) fun r15=>
 (cn (decide (r15 < 0))
 (lf 5)
 (gi r15 a0.u_env.Site.Routines
 (bd (Hl L a0 (a0.u_env.Site.Routines.getD (Int.toNat r15) default) (Ad.cp a1)) fun r16=>
 (lf r16)))))
 (cn (a1.Op == 15)
 (bd (F5 L a0 a1.Name (⟨#[116,97,108,108,121]⟩:ByteArray)) fun r17=>
 (cn (!r17)
 (lf 5)
 (bd (Bq L a0 (Ab.cp a1.E) [1,3]) fun r18=>
 (lf r18))))
 (cn (a1.Op == 16)
 (bd (B2 L a0 (Ad.cp a1) (⟨#[108,101,118,101,108]⟩:ByteArray) [(Ab.cp a1.E)]) fun r19=>
 (lf r19))
 (cn (a1.Op == 17)
 (bd (B2 L a0 (Ad.cp a1) (⟨#[99,111,117,110,116]⟩:ByteArray) [(Ab.cp a1.E)]) fun r20=>
 (lf r20))
 (lf 0)))))))))))))))
theorem Bu3(a0:Am)(a1:Ad)(p801_22:Bool):EV (Ble L) L 9 Bc5.u.l.u.l.x (Bjd a0 a1 p801_22) (Biw L kk Bc5.u.r)=ob (Lv L a0 a1 p801_22) (kQ I kk):=eE (Lv L a0 a1 p801_22)
def sx_typing_routine_own_0 [An A Int](a0:Am)(a1:Ad)(nx1:Am→Ad→Bool→A):A:=
 (cn (a1.Op == 1)
 (bd (Pu L a0 (Ad.cp a1)) fun r1=>
 (lf r1))
 (cn (a1.Op == 2)
 (bd (F5 L a0 a1.Of (⟨#[115,116,114,101,97,109]⟩:ByteArray)) fun r2=>
 (bd (Hm L a0 a1.Name r2 [1,3]) fun r3=>
 (lf r3)))
 (cn (a1.Op == 3)
 (nx1 a0 a1 (a1.Op == 3))
 (nx1 a0 a1 (a1.Op == 4)))))
def Aca [An A Int](a0:Am)(a1:Ad):A:=sx_typing_routine_own_0 L a0 a1 (fun a0 a1 p801_22=>Lv L a0 a1 p801_22)
theorem Bvu(a0:Am)(a1:Ad)(z1:EC):EW (Ble L) L 9 (RS Tryz.f136) (EC.put (rl [2,1,2,1,8]) z1 Bc5) [.ref (Ij a0),.agg (D5 a1)] kk= @sx_typing_routine_own_0 Prop L (anP (kQ I kk)) a0 a1 (fun a0 a1 p801_22=>EV (Ble L) L 9 z1 (Bjd a0 a1 p801_22) (Biw L kk Bc5.u.r)):=by kernel_rfl
def Li(a0:Am)(a1:Ad):Option Int:=Aca L a0 a1
def B3z:Ew:=E2 I 136 Dl Hi (Li L) fun a0 a1 r h=>hF Tryz.func136 (C:=Ble L) (oS _) L (fun kk=>Eq.trans (b:=EW (Ble L) L 9 (RS Tryz.f136) (EC.put (rl [2,1,2,1,8]) Bc5.u.l.u.l.x Bc5) [.ref (Ij a0),.agg (D5 a1)] kk) (by kernel_rfl) ((Bvu L kk a0 a1 Bc5.u.l.u.l.x).trans (eE (sx_typing_routine_own_0 L a0 a1 (fun a0 a1 p801_22=>re (Bu3 L kk a0 a1 p801_22)))))) h
end
end Go.Proofs.YtofcpkmnhmnfcaaGreatR.Ev
