import Derived.Test.YtfencmicmnhglaaGreatG3
import Derived.Test.YtfencmicmnhglaaGreatG4
import Derived.Test.YtfencmicmnhglaaGreatG5
import Derived.Test.YtfencmicmnhglaaGreatG7
namespace Go.Proofs.YtfencmicmnhglaaGreat.Ev
open Go An
set_option maxRecDepth 100000
set_option maxHeartbeats 4000000
set_option linter.unusedVariables false
set_option linter.unusedSimpArgs false
set_option linter.unnecessarySimpa false
noncomputable section
variable {A:Type} (L n:Nat) (kk:Il) (K:Br) (k:Bn)
def c25:=CC Tryz.f25
def Byt:=CC Tryz.f219
def Byu:=CC Tryz.f222
def Aq9:=CC Tryz.f203
def Ya:Bq:=oL [Bbn L,Bqc L]
def A9w:(ByteArray×Int)→Prop:=fun x=>kk ((fun(x:ByteArray×Int)=> .tup [S x.1,I x.2]) x)
def Ba1(p1_0:List Ah)(p1_1:Aa)(p1_2:ByteArray)(v:D2):St:=⟨[(0,lv (.t77 p1_0)),(1,.clo 218 0 [.loc 3 0]),(4,I v.1),(7,I (p1_0.length:Int)),(8,I v.2)],[(2,Ae p1_1),(3,[S p1_2])],4⟩
def Uo [An A Ki](L:Nat)(p1_0:List Ah)(p1_1:Aa)(p1_2:ByteArray)(rec:Int→Int→A)(Ao:Int)(Al:Int):A:=
 (lw Al p1_0
 (cn (((p1_0.getD (Int.toNat Al) default).Name).toList == p1_2.toList)
 (lf (0,Al,Al))
 (rec Ao (Dp (Al+1))))
 (lf (1,Ao,Al)))
def J0(L:Nat)(p1_0:List Ah)(p1_1:Aa)(p1_2:ByteArray):Nat→Int→Int→Option Ki
 |0,_,_=>none
 |n+1,Ao,Al=>Uo L p1_0 p1_1 p1_2 (J0 L p1_0 p1_1 p1_2 n) Ao Al
theorem Bl3(p1_0:List Ah)(p1_1:Aa)(p1_2:ByteArray):LP (EV (Ya L) L 8 c25.u.l.u.l.l) [0,1,4,7,8] [2,3] (Ba1 p1_0 p1_1 p1_2) [.ret,.exit 0] (fun n v=>J0 L p1_0 p1_1 p1_2 n v.1 v.2) K:=lE (fun _=>rfl) fun n v ih=>eE (Uo L p1_0 p1_1 p1_2 (fun Ao Al=>re (ih (Ao,Al))) v.1 v.2)
def Ayg(p1_0:List Ah)(p1_1:Aa)(p1_2:ByteArray)(k:Bn):Int→Prop:=fun o=>k (I o) [(2,Ae p1_1),(3,[S p1_2])]
def U5 [An A Int](L:Nat)(o1:Nat×D2):A:=
 (sl o1.1 [(lf o1.2.1),
 (lf (-1))])
def A8u:Br:=(Ba 0 (Bg (EV (Ya L) L 8 c25.u.r) (Dq Tryz.prog (RS Tryz.f25) k)))
theorem Bua(p1_0:List Ah)(p1_1:Aa)(p1_2:ByteArray)(o1:Nat×D2):kX [.ret,.exit 0] (Ba1 p1_0 p1_1 p1_2) (A8u L k) o1=ob (U5 L o1) (Ayg p1_0 p1_1 p1_2 k):=eE (U5 L o1)
def Aek [An A Int](p1_0:List Ah)(p1_1:Aa)(p1_2:ByteArray):A:=(bd (J0 L p1_0 p1_1 p1_2 L 0 0) fun o1=>U5 L o1)
def Ui(p1_0:List Ah)(p1_1:Aa)(p1_2:ByteArray):Option Int:=Aek L p1_0 p1_1 p1_2
theorem Bkn(p1_0:List Ah)(p1_1:Aa)(p1_2:ByteArray):YO (Ya L) L 9 25 [lv (.t77 p1_0),.clo 218 0 [.loc 3 0]] [(2,Ae p1_1),(3,[S p1_2])] k=ob (Ui L p1_0 p1_1 p1_2) (Ayg p1_0 p1_1 p1_2 k):=(Cr _ _ _ jn4 _ _ _ _ _ _ _).trans (eE ((ho (Bl3 L (A8u L k) p1_0 p1_1 p1_2 L (0,0)) fun o1=>Bua L k p1_0 p1_1 p1_2 o1)))
def Ba2(p2_0:List Ai)(p2_1:Aa)(p2_2:ByteArray)(v:D2):St:=⟨[(0,lv (.t145 p2_0)),(1,.clo 220 0 [.loc 3 0]),(4,I v.1),(7,I (p2_0.length:Int)),(8,I v.2)],[(2,Ae p2_1),(3,[S p2_2])],4⟩
def Uq [An A Ki](L:Nat)(p2_0:List Ai)(p2_1:Aa)(p2_2:ByteArray)(rec:Int→Int→A)(Dz:Int)(B7:Int):A:=
 (lw B7 p2_0
 (cn (((p2_0.getD (Int.toNat B7) default).Name).toList == p2_2.toList)
 (lf (0,B7,B7))
 (rec Dz (Dp (B7+1))))
 (lf (1,Dz,B7)))
def J1(L:Nat)(p2_0:List Ai)(p2_1:Aa)(p2_2:ByteArray):Nat→Int→Int→Option Ki
 |0,_,_=>none
 |n+1,Dz,B7=>Uq L p2_0 p2_1 p2_2 (J1 L p2_0 p2_1 p2_2 n) Dz B7
theorem Bl4(p2_0:List Ai)(p2_1:Aa)(p2_2:ByteArray):LP (EV (Ya L) L 8 Byt.u.l.u.l.l) [0,1,4,7,8] [2,3] (Ba2 p2_0 p2_1 p2_2) [.ret,.exit 0] (fun n v=>J1 L p2_0 p2_1 p2_2 n v.1 v.2) K:=lE (fun _=>rfl) fun n v ih=>eE (Uq L p2_0 p2_1 p2_2 (fun Dz B7=>re (ih (Dz,B7))) v.1 v.2)
def Ayh(p2_0:List Ai)(p2_1:Aa)(p2_2:ByteArray)(k:Bn):Int→Prop:=fun o=>k (I o) [(2,Ae p2_1),(3,[S p2_2])]
def U7 [An A Int](L:Nat)(o3:Nat×D2):A:=
 (sl o3.1 [(lf o3.2.1),
 (lf (-1))])
def A8w:Br:=(Ba 0 (Bg (EV (Ya L) L 8 Byt.u.r) (Dq Tryz.prog (RS Tryz.f219) k)))
theorem Buc(p2_0:List Ai)(p2_1:Aa)(p2_2:ByteArray)(o3:Nat×D2):kX [.ret,.exit 0] (Ba2 p2_0 p2_1 p2_2) (A8w L k) o3=ob (U7 L o3) (Ayh p2_0 p2_1 p2_2 k):=eE (U7 L o3)
def Ael [An A Int](p2_0:List Ai)(p2_1:Aa)(p2_2:ByteArray):A:=(bd (J1 L p2_0 p2_1 p2_2 L 0 0) fun o3=>U7 L o3)
def Uj(p2_0:List Ai)(p2_1:Aa)(p2_2:ByteArray):Option Int:=Ael L p2_0 p2_1 p2_2
theorem Bko(p2_0:List Ai)(p2_1:Aa)(p2_2:ByteArray):YO (Ya L) L 9 219 [lv (.t145 p2_0),.clo 220 0 [.loc 3 0]] [(2,Ae p2_1),(3,[S p2_2])] k=ob (Uj L p2_0 p2_1 p2_2) (Ayh p2_0 p2_1 p2_2 k):=(Cr _ _ _ jn4 _ _ _ _ _ _ _).trans (eE ((ho (Bl4 L (A8w L k) p2_0 p2_1 p2_2 L (0,0)) fun o3=>Buc L k p2_0 p2_1 p2_2 o3)))
def Ba3(p3_0:List Am)(p3_1:Aa)(p3_2:ByteArray)(v:D2):St:=⟨[(0,lv (.t151 p3_0)),(1,.clo 221 0 [.loc 3 0]),(4,I v.1),(7,I (p3_0.length:Int)),(8,I v.2)],[(2,Ae p3_1),(3,[S p3_2])],4⟩
def Ur [An A Ki](L:Nat)(p3_0:List Am)(p3_1:Aa)(p3_2:ByteArray)(rec:Int→Int→A)(Pu:Int)(E7:Int):A:=
 (lw E7 p3_0
 (cn (((p3_0.getD (Int.toNat E7) default).Name).toList == p3_2.toList)
 (lf (0,E7,E7))
 (rec Pu (Dp (E7+1))))
 (lf (1,Pu,E7)))
def J2(L:Nat)(p3_0:List Am)(p3_1:Aa)(p3_2:ByteArray):Nat→Int→Int→Option Ki
 |0,_,_=>none
 |n+1,Pu,E7=>Ur L p3_0 p3_1 p3_2 (J2 L p3_0 p3_1 p3_2 n) Pu E7
theorem Bl5(p3_0:List Am)(p3_1:Aa)(p3_2:ByteArray):LP (EV (Ya L) L 8 Bi7.u.l.u.l.l) [0,1,4,7,8] [2,3] (Ba3 p3_0 p3_1 p3_2) [.ret,.exit 0] (fun n v=>J2 L p3_0 p3_1 p3_2 n v.1 v.2) K:=lE (fun _=>rfl) fun n v ih=>eE (Ur L p3_0 p3_1 p3_2 (fun Pu E7=>re (ih (Pu,E7))) v.1 v.2)
def Ayi(p3_0:List Am)(p3_1:Aa)(p3_2:ByteArray)(k:Bn):Int→Prop:=fun o=>k (I o) [(2,Ae p3_1),(3,[S p3_2])]
def U9 [An A Int](L:Nat)(o5:Nat×D2):A:=
 (sl o5.1 [(lf o5.2.1),
 (lf (-1))])
def A8y:Br:=(Ba 0 (Bg (EV (Ya L) L 8 Bi7.u.r) (Dq Tryz.prog (RS Tryz.f201) k)))
theorem Bue(p3_0:List Am)(p3_1:Aa)(p3_2:ByteArray)(o5:Nat×D2):kX [.ret,.exit 0] (Ba3 p3_0 p3_1 p3_2) (A8y L k) o5=ob (U9 L o5) (Ayi p3_0 p3_1 p3_2 k):=eE (U9 L o5)
def Aem [An A Int](p3_0:List Am)(p3_1:Aa)(p3_2:ByteArray):A:=(bd (J2 L p3_0 p3_1 p3_2 L 0 0) fun o5=>U9 L o5)
def Uk(p3_0:List Am)(p3_1:Aa)(p3_2:ByteArray):Option Int:=Aem L p3_0 p3_1 p3_2
theorem Bkp(p3_0:List Am)(p3_1:Aa)(p3_2:ByteArray):YO (Ya L) L 9 201 [lv (.t151 p3_0),.clo 221 0 [.loc 3 0]] [(2,Ae p3_1),(3,[S p3_2])] k=ob (Uk L p3_0 p3_1 p3_2) (Ayi p3_0 p3_1 p3_2 k):=(Cr _ _ _ jn4 _ _ _ _ _ _ _).trans (eE ((ho (Bl5 L (A8y L k) p3_0 p3_1 p3_2 L (0,0)) fun o5=>Bue L k p3_0 p3_1 p3_2 o5)))
def Ba4(p4_0:List Aq)(p4_1:Aa)(p4_2:ByteArray)(v:D2):St:=⟨[(0,lv (.t155 p4_0)),(1,.clo 223 0 [.loc 3 0]),(4,I v.1),(7,I (p4_0.length:Int)),(8,I v.2)],[(2,Ae p4_1),(3,[S p4_2])],4⟩
def Us [An A Ki](L:Nat)(p4_0:List Aq)(p4_1:Aa)(p4_2:ByteArray)(rec:Int→Int→A)(Gr:Int)(Nl:Int):A:=
 (lw Nl p4_0
 (cn (((p4_0.getD (Int.toNat Nl) default).Name).toList == p4_2.toList)
 (lf (0,Nl,Nl))
 (rec Gr (Dp (Nl+1))))
 (lf (1,Gr,Nl)))
def J3(L:Nat)(p4_0:List Aq)(p4_1:Aa)(p4_2:ByteArray):Nat→Int→Int→Option Ki
 |0,_,_=>none
 |n+1,Gr,Nl=>Us L p4_0 p4_1 p4_2 (J3 L p4_0 p4_1 p4_2 n) Gr Nl
theorem Bl6(p4_0:List Aq)(p4_1:Aa)(p4_2:ByteArray):LP (EV (Ya L) L 8 Byu.u.l.u.l.l) [0,1,4,7,8] [2,3] (Ba4 p4_0 p4_1 p4_2) [.ret,.exit 0] (fun n v=>J3 L p4_0 p4_1 p4_2 n v.1 v.2) K:=lE (fun _=>rfl) fun n v ih=>eE (Us L p4_0 p4_1 p4_2 (fun Gr Nl=>re (ih (Gr,Nl))) v.1 v.2)
def Ayj(p4_0:List Aq)(p4_1:Aa)(p4_2:ByteArray)(k:Bn):Int→Prop:=fun o=>k (I o) [(2,Ae p4_1),(3,[S p4_2])]
def Tf [An A Int](L:Nat)(o7:Nat×D2):A:=
 (sl o7.1 [(lf o7.2.1),
 (lf (-1))])
def A2d:Br:=(Ba 0 (Bg (EV (Ya L) L 8 Byu.u.r) (Dq Tryz.prog (RS Tryz.f222) k)))
theorem Bm0(p4_0:List Aq)(p4_1:Aa)(p4_2:ByteArray)(o7:Nat×D2):kX [.ret,.exit 0] (Ba4 p4_0 p4_1 p4_2) (A2d L k) o7=ob (Tf L o7) (Ayj p4_0 p4_1 p4_2 k):=eE (Tf L o7)
def Aen [An A Int](p4_0:List Aq)(p4_1:Aa)(p4_2:ByteArray):A:=(bd (J3 L p4_0 p4_1 p4_2 L 0 0) fun o7=>Tf L o7)
def Ul(p4_0:List Aq)(p4_1:Aa)(p4_2:ByteArray):Option Int:=Aen L p4_0 p4_1 p4_2
theorem Bkq(p4_0:List Aq)(p4_1:Aa)(p4_2:ByteArray):YO (Ya L) L 9 222 [lv (.t155 p4_0),.clo 223 0 [.loc 3 0]] [(2,Ae p4_1),(3,[S p4_2])] k=ob (Ul L p4_0 p4_1 p4_2) (Ayj p4_0 p4_1 p4_2 k):=(Cr _ _ _ jn4 _ _ _ _ _ _ _).trans (eE ((ho (Bl6 L (A2d L k) p4_0 p4_1 p4_2 L (0,0)) fun o7=>Bm0 L k p4_0 p4_1 p4_2 o7)))
def O9 [An A (ByteArray×Int)](a0:Aa)(a1:ByteArray)(o8:Int):A:=
 (cn (decide (o8≥0))
 (lf ((⟨#[98,101,108,116]⟩:ByteArray),o8))
 (bd (Dw L a0.Queues a1) fun r9=>
 (cn (decide (r9≥0))
 (lf ((⟨#[113,117,101,117,101]⟩:ByteArray),r9))
 (bd (Dw L a0.Streams a1) fun r10=>
 (cn (decide (r10≥0))
 (lf ((⟨#[115,116,114,101,97,109]⟩:ByteArray),r10))
 (bd (Dw L a0.Tallies a1) fun r11=>
 (cn (decide (r11≥0))
 (lf ((⟨#[116,97,108,108,121]⟩:ByteArray),r11))
 (bd (Dw L a0.Levels a1) fun r12=>
 (cn (decide (r12≥0))
 (lf ((⟨#[108,101,118,101,108]⟩:ByteArray),r12))
 (bd (Dw L a0.Counts a1) fun r13=>
 (cn (decide (r13≥0))
 (lf ((⟨#[99,111,117,110,116]⟩:ByteArray),r13))
 (bd (E8 L a0 a1) fun r14=>
 (cn (decide (r14≥0))
 (lf ((⟨#[114,111,117,116,105,110,101]⟩:ByteArray),r14))
 (lf ((⟨#[]⟩:ByteArray),(-1))))))))))))))))
def A2e(a0:Aa)(a1:ByteArray):Bn:=(Bu Tryz.prog (Ya L) (EI (Ya L) L 9) 1 (List.drop 4 Aq9.x.l.l.ops) ⟨[(39,.clo 223 0 [.loc 3 0]),(38,lv (.t155 a0.Belts)),(37,.loc 2 4),(2,.loc 2 0),(3,.loc 3 0),(4,S (⟨#[]⟩:ByteArray)),(5,I 0)],[(2,Ae a0),(3,[S a1])],0⟩ (some 40) (fun st9=>(Bg (EV (Ya L) L 9 Aq9.x.l.r) (Bg (EV (Ya L) L 9 Aq9.x.r) (Gu Tryz.prog (RS Tryz.f203) kk))) .normal st9))
theorem Bm1(a0:Aa)(a1:ByteArray)(o8:Int):Ayj a0.Belts a0 a1 (A2e L kk a0 a1) o8=ob (O9 L a0 a1 o8) (A9w kk):=eE (O9 L a0 a1 o8)
def Tq [An A (ByteArray×Int)](L:Nat)(a0:Aa)(a1:ByteArray)(o6:Int)(nx12:A):A:=
 (cn (decide (o6≥0))
 (lf ((⟨#[115,116,111,114,101]⟩:ByteArray),o6))
 nx12)
def Va [An A (ByteArray×Int)](a0:Aa)(a1:ByteArray)(o6:Int):A:=Tq L a0 a1 o6 (bd (Ul L a0.Belts a0 a1) fun o8=>O9 L a0 a1 o8)
def A8z(a0:Aa)(a1:ByteArray):Bn:=(Bu Tryz.prog (Ya L) (EI (Ya L) L 9) 1 (List.drop 4 Aq9.w.u.l.l.ops) ⟨[(32,.clo 221 0 [.loc 3 0]),(31,lv (.t151 a0.Stores)),(30,.loc 2 3),(2,.loc 2 0),(3,.loc 3 0),(4,S (⟨#[]⟩:ByteArray)),(5,I 0)],[(2,Ae a0),(3,[S a1])],0⟩ (some 33) (fun st9=>(Bg (EV (Ya L) L 9 Aq9.w.u.l.r) (Bg (EV (Ya L) L 9 Aq9.w.u.r) (Gu Tryz.prog (RS Tryz.f203) kk))) .normal st9))
theorem Buf(a0:Aa)(a1:ByteArray)(o6:Int):Ayi a0.Stores a0 a1 (A8z L kk a0 a1) o6=ob (Va L a0 a1 o6) (A9w kk):=eE (Tq L a0 a1 o6 (ho (Bkq L (A2e L kk a0 a1) a0.Belts a0 a1) fun o8=>Bm1 L kk a0 a1 o8))
def Vo [An A (ByteArray×Int)](L:Nat)(a0:Aa)(a1:ByteArray)(o4:Int)(nx9:A):A:=
 (cn (decide (o4≥0))
 (lf ((⟨#[114,101,115,111,117,114,99,101]⟩:ByteArray),o4))
 nx9)
def U8 [An A (ByteArray×Int)](a0:Aa)(a1:ByteArray)(o4:Int):A:=Vo L a0 a1 o4 (bd (Uk L a0.Stores a0 a1) fun o6=>Va L a0 a1 o6)
def A8x(a0:Aa)(a1:ByteArray):Bn:=(Bu Tryz.prog (Ya L) (EI (Ya L) L 9) 1 (List.drop 4 Aq9.w.l.l.ops) ⟨[(25,.clo 220 0 [.loc 3 0]),(24,lv (.t145 a0.Resources)),(23,.loc 2 2),(2,.loc 2 0),(3,.loc 3 0),(4,S (⟨#[]⟩:ByteArray)),(5,I 0)],[(2,Ae a0),(3,[S a1])],0⟩ (some 26) (fun st9=>(Bg (EV (Ya L) L 9 Aq9.w.l.r) (Bg (EV (Ya L) L 9 Aq9.w.r) (Gu Tryz.prog (RS Tryz.f203) kk))) .normal st9))
theorem Bud(a0:Aa)(a1:ByteArray)(o4:Int):Ayh a0.Resources a0 a1 (A8x L kk a0 a1) o4=ob (U8 L a0 a1 o4) (A9w kk):=eE (Vo L a0 a1 o4 (ho (Bkp L (A8z L kk a0 a1) a0.Stores a0 a1) fun o6=>Buf L kk a0 a1 o6))
def Vn [An A (ByteArray×Int)](L:Nat)(a0:Aa)(a1:ByteArray)(o2:Int)(nx6:A):A:=
 (cn (decide (o2≥0))
 (lf ((⟨#[118,97,114]⟩:ByteArray),o2))
 nx6)
def U6 [An A (ByteArray×Int)](a0:Aa)(a1:ByteArray)(o2:Int):A:=Vn L a0 a1 o2 (bd (Uj L a0.Resources a0 a1) fun o4=>U8 L a0 a1 o4)
def A8v(a0:Aa)(a1:ByteArray):Bn:=(Bu Tryz.prog (Ya L) (EI (Ya L) L 9) 1 (List.drop 4 Aq9.u.l.l.ops) ⟨[(18,.clo 218 0 [.loc 3 0]),(17,lv (.t77 a0.Vars)),(16,.loc 2 1),(2,.loc 2 0),(3,.loc 3 0),(4,S (⟨#[]⟩:ByteArray)),(5,I 0)],[(2,Ae a0),(3,[S a1])],0⟩ (some 19) (fun st9=>(Bg (EV (Ya L) L 9 Aq9.u.l.r) (Bg (EV (Ya L) L 9 Aq9.u.r) (Gu Tryz.prog (RS Tryz.f203) kk))) .normal st9))
theorem Bub(a0:Aa)(a1:ByteArray)(o2:Int):Ayg a0.Vars a0 a1 (A8v L kk a0 a1) o2=ob (U6 L a0 a1 o2) (A9w kk):=eE (Vn L a0 a1 o2 (ho (Bko L (A8x L kk a0 a1) a0.Resources a0 a1) fun o4=>Bud L kk a0 a1 o4))
def Ake [An A (ByteArray×Int)](a0:Aa)(a1:ByteArray):A:=(bd (Ui L a0.Vars a0 a1) fun o2=>U6 L a0 a1 o2)
def u5(a0:Aa)(a1:ByteArray):Option (ByteArray×Int):=Ake L a0 a1
def Bwy:N2:=E2 (fun(x:ByteArray×Int)=> .tup [S x.1,I x.2]) 203 I7 cS (u5 L) fun a0 a1 r h=>hF Tryz.func203 (C:=Ya L) (oS _) L (fun kk=>eE ((ho (Bkn L (A8v L kk a0 a1) a0.Vars a0 a1) fun o2=>Bub L kk a0 a1 o2))) h
def Afz [An A ByteArray](a0:Aa)(a1:ByteArray):A:=
 (bd (u5 L a0 a1) fun r1=>
 (lf r1.1))
def Xz(a0:Aa)(a1:ByteArray):Option ByteArray:=Afz L a0 a1
def Bi0:N2:=E2 S 185 I7 cS (Xz L) fun a0 a1 r h=>hF Tryz.func185 (oS [Bwy L]) L (fun kk=>eE (Afz L a0 a1)) h
def Aao [An A Bool](L:Nat)(a0:Int)(a1:ByteArray):A:=
 (cn (a0 == 22)
 (lf (a1.toList == (⟨#[114,101,115,111,117,114,99,101]⟩:ByteArray).toList))
 (cn (a0 == 23)
 (lf (a1.toList == (⟨#[115,116,111,114,101]⟩:ByteArray).toList))
 (jp (.cn (a1.toList == (⟨#[114,101,115,111,117,114,99,101]⟩:ByteArray).toList)
 (.lf true)
 (.lf (a1.toList == (⟨#[113,117,101,117,101]⟩:ByteArray).toList))) (fun b1=>
 (lf b1)))))
def Wl(a0:Int)(a1:ByteArray):Option Bool:=Aao L a0 a1
def Bqf:N2:=E2 B 225 (cI .i64) cS (Wl L) fun a0 a1 r h=>hF Tryz.func225 (oS []) L (fun kk=>eE (Aao L a0 a1)) h
def Yh [An A Bool](L:Nat)(a0:Int):A:=
 (jp (.cn (a0 == 1)
 (.lf true)
 (.lf (a0 == 3))) (fun b1=>
 (lf b1)))
def Ha(a0:Int):Option Bool:=Yh L a0
def Bqj:N2:=E1 B 233 (cI .i64) (Ha L) fun a0 r h=>hF Tryz.func233 (oS []) L (fun kk=>eE (Yh L a0)) h
def Ab6 [An A Int](a0:Int)(a1:Int):A:=
 (jb (.cn (a0 == 5)
 (.bd (Ha L a1) fun r2=>
 (.lf r2))
 (.lf false)) (fun b1=>
 (cn b1
 (cn b1
 (lf a1)
 (jp (.cn (a0 == 7)
 (.lf (a1 == 1))
 (.lf false)) (fun b3=>
 (cn b3
 (lf 3)
 (jp (.cn (a0 == 8)
 (.lf (a1 == 3))
 (.lf false)) (fun b4=>
 (cn b4
 (lf 1)
 (lf 0))))))))
 (jp (.cn (a0 == 6)
 (.lf (a1 == 2))
 (.lf false)) (fun b5=>
 (cn b5
 (lf a1)
 (jp (.cn (a0 == 7)
 (.lf (a1 == 1))
 (.lf false)) (fun b6=>
 (cn b6
 (lf 3)
 (jp (.cn (a0 == 8)
 (.lf (a1 == 3))
 (.lf false)) (fun b7=>
 (cn b7
 (lf 1)
 (lf 0)))))))))))))
def X3(a0:Int)(a1:Int):Option Int:=Ab6 L a0 a1
def Bqg:N2:=E2 I 226 (cI .i64) (cI .i64) (X3 L) fun a0 a1 r h=>hF Tryz.func226 (oS [Bqj L]) L (fun kk=>eE (Ab6 L a0 a1)) h
def Ro:=CC Tryz.f227
def Abn:Bq:=oL [Bqj L]
def Bab(a1:Int)(a2:Int)(p802_3:Bool):St:=⟨[(1,I a1),(2,I a2),(6,I 0),(47,B p802_3)],[],0⟩
def A9z(e0:EC):Br:=(Ba 2 (Ba 0 (Bg (EV (Abn L) L 9 e0) (Gu Tryz.prog (RS Tryz.f227) kk))))
def Ry [An A Int](L:Nat)(a1:Int)(a2:Int)(p802_3:Bool):A:=
 (cn p802_3
 (lf 1)
 (jp (.cn (a1 == 3)
 (.lf (a2 == 1))
 (.lf false)) (fun b9=>
 (cn b9
 (lf 3)
 (lf 0)))))
theorem Bjo(a1:Int)(a2:Int)(p802_3:Bool):EV (Abn L) L 9 Ro.w.l.u.l.x.l.l.u (Bab a1 a2 p802_3) (A9z L kk Ro.w.r)=ob (Ry L a1 a2 p802_3) (kQ I kk):=eE (Ry L a1 a2 p802_3)
def Bac(a1:Int)(a2:Int)(p805_3:Bool):St:=⟨[(1,I a1),(2,I a2),(6,I 0),(78,B p805_3)],[],0⟩
def A90(e0:EC):Br:=(Ba 0 (Bg (EV (Abn L) L 9 e0) (Gu Tryz.prog (RS Tryz.f227) kk)))
def Rz [An A Int](L:Nat)(a1:Int)(a2:Int)(p805_3:Bool):A:=
 (cn p805_3
 (jp (.cn (a1 == 2)
 (.lf (a2 == 2))
 (.lf false)) (fun b12=>
 (cn b12
 (lf 2)
 (lf 0))))
 (lf 0))
theorem Bjr(a1:Int)(a2:Int)(p805_3:Bool):EV (Abn L) L 9 Ro.w.l.u.l.x.x.r (Bac a1 a2 p805_3) (A90 L kk Ro.w.r)=ob (Rz L a1 a2 p805_3) (kQ I kk):=eE (Rz L a1 a2 p805_3)
def Asw(a1:Int)(a2:Int)(a0:Int)(p804_4:Bool):St:=⟨[(1,I a1),(2,I a2),(6,I 0),(14,I a0),(68,B p804_4)],[],0⟩
def Asr(e0:EC):Br:=(Ba 0 (Bg (EV (Abn L) L 9 e0) (Gu Tryz.prog (RS Tryz.f227) kk)))
def sx_typing_binary_4 [An A Int](a1:Int)(a2:Int)(a0:Int)(p804_4:Bool)(nx5:Int→Int→Bool→A):A:=
 (cn p804_4
 (jb (.cn (a1 == a2)
 (.bd (Ha L a1) fun r11=>
 (.lf r11))
 (.lf false)) (fun b10=>
 (cn b10
 (lf 2)
 (lf 0))))
 (cn (a0 == 18)
 (nx5 a1 a2 (a0 == 18))
 (nx5 a1 a2 (a0 == 19))))
def Xj [An A Int](a1:Int)(a2:Int)(a0:Int)(p804_4:Bool):A:=sx_typing_binary_4 L a1 a2 a0 p804_4 (fun a1 a2 p805_3=>Rz L a1 a2 p805_3)
theorem Bjz(a1:Int)(a2:Int)(a0:Int)(p804_4:Bool)(z5:EC):EV (Abn L) L 9 (EC.put (rl [3]) z5 Ro.w.l.u.l.x.w.u) (Asw a1 a2 a0 p804_4) (Asr L kk Ro.w.r)= @sx_typing_binary_4 Prop L (anP (kQ I kk)) a1 a2 a0 p804_4 (fun a1 a2 p805_3=>EV (Abn L) L 9 z5 (Bac a1 a2 p805_3) (A90 L kk Ro.w.r)):=by kernel_rfl
theorem Bjq(a1:Int)(a2:Int)(a0:Int)(p804_4:Bool):EV (Abn L) L 9 Ro.w.l.u.l.x.w.u (Asw a1 a2 a0 p804_4) (Asr L kk Ro.w.r)=ob (Xj L a1 a2 a0 p804_4) (kQ I kk):=Eq.trans (b:=EV (Abn L) L 9 (EC.put (rl [3]) Ro.w.l.u.l.x.x.r Ro.w.l.u.l.x.w.u) (Asw a1 a2 a0 p804_4) (Asr L kk Ro.w.r)) (by kernel_rfl) ((Bjz L kk a1 a2 a0 p804_4 Ro.w.l.u.l.x.x.r).trans (eE (sx_typing_binary_4 L a1 a2 a0 p804_4 (fun a1 a2 p805_3=>re (Bjr L kk a1 a2 p805_3)))))
def Asv(a1:Int)(a2:Int)(a0:Int)(p803_4:Bool):St:=⟨[(1,I a1),(2,I a2),(6,I 0),(14,I a0),(62,B p803_4)],[],0⟩
def Asq(e0:EC):Br:=(Ba 0 (Bg (EV (Abn L) L 9 e0) (Gu Tryz.prog (RS Tryz.f227) kk)))
def sx_typing_binary_3 [An A Int](L:Nat)(a1:Int)(a2:Int)(a0:Int)(p803_4:Bool)(nx4:Int→Int→Int→Bool→A):A:=
 (cn p803_4
 (cn (a1 == a2)
 (lf 2)
 (lf 0))
 (cn (a0 == 16)
 (nx4 a1 a2 a0 (a0 == 16))
 (nx4 a1 a2 a0 (a0 == 17))))
def Xi [An A Int](a1:Int)(a2:Int)(a0:Int)(p803_4:Bool):A:=sx_typing_binary_3 L a1 a2 a0 p803_4 (fun a1 a2 a0 p804_4=>Xj L a1 a2 a0 p804_4)
theorem Bjy(a1:Int)(a2:Int)(a0:Int)(p803_4:Bool)(z4:EC):EV (Abn L) L 9 (EC.put (rl [3]) z4 Ro.w.l.u.l.x.u.r) (Asv a1 a2 a0 p803_4) (Asq L kk Ro.w.r)= @sx_typing_binary_3 Prop (anP (kQ I kk)) L a1 a2 a0 p803_4 (fun a1 a2 a0 p804_4=>EV (Abn L) L 9 z4 (Asw a1 a2 a0 p804_4) (Asr L kk Ro.w.r)):=by kernel_rfl
theorem Bjp(a1:Int)(a2:Int)(a0:Int)(p803_4:Bool):EV (Abn L) L 9 Ro.w.l.u.l.x.u.r (Asv a1 a2 a0 p803_4) (Asq L kk Ro.w.r)=ob (Xi L a1 a2 a0 p803_4) (kQ I kk):=Eq.trans (b:=EV (Abn L) L 9 (EC.put (rl [3]) Ro.w.l.u.l.x.w.u Ro.w.l.u.l.x.u.r) (Asv a1 a2 a0 p803_4) (Asq L kk Ro.w.r)) (by kernel_rfl) ((Bjy L kk a1 a2 a0 p803_4 Ro.w.l.u.l.x.w.u).trans (eE (sx_typing_binary_3 L a1 a2 a0 p803_4 (fun a1 a2 a0 p804_4=>re (Bjq L kk a1 a2 a0 p804_4)))))
def Asu(a1:Int)(a2:Int)(b1:Bool)(a0:Int)(p801_5:Bool):St:=⟨[(1,I a1),(2,I a2),(6,I 0),(7,B b1),(14,I a0),(15,B p801_5)],[],0⟩
def Asp(e0:EC):Br:=(Ba 0 (Bg (EV (Abn L) L 9 e0) (Gu Tryz.prog (RS Tryz.f227) kk)))
def sx_typing_binary_1 [An A Int](a1:Int)(a2:Int)(b1:Bool)(a0:Int)(p801_5:Bool)(nx2:Int→Int→Bool→A)(nx3:Int→Int→Int→Bool→A):A:=
 (cn p801_5
 (jb (.cn (a1 == a2)
 (.bd (Ha L a1) fun r3=>
 (.lf r3))
 (.lf false)) (fun b2=>
 (cn b2
 (lf a1)
 (lf 0))))
 (cn (a0 == 11)
 (cn b1
 (lf 1)
 (bd (Ha L a1) fun r4=>
 (jb (.cn r4
 (.bd (Ha L a2) fun r6=>
 (.lf r6))
 (.lf false)) (fun b5=>
 (jp (.cn b5
 (.lf (a1 != a2))
 (.lf false)) (fun b7=>
 (cn b7
 (lf 3)
 (lf 0))))))))
 (cn (a0 == 12)
 (cn b1
 (nx2 a1 a2 b1)
 (jp (.cn (a1 == 3)
 (.lf (a2 == 3))
 (.lf false)) (fun b8=>
 (nx2 a1 a2 b8))))
 (cn (a0 == 14)
 (nx3 a1 a2 a0 (a0 == 14))
 (nx3 a1 a2 a0 (a0 == 15))))))
def Xh [An A Int](a1:Int)(a2:Int)(b1:Bool)(a0:Int)(p801_5:Bool):A:=sx_typing_binary_1 L a1 a2 b1 a0 p801_5 (fun a1 a2 p802_3=>Ry L a1 a2 p802_3) (fun a1 a2 a0 p803_4=>Xi L a1 a2 a0 p803_4)
theorem Bjx(a1:Int)(a2:Int)(b1:Bool)(a0:Int)(p801_5:Bool)(z2 z3:EC):EV (Abn L) L 9 (EC.put (rl [9]) z3 (EC.put (rl [6,2,2]) z2 Ro.w.l.u.l.u)) (Asu a1 a2 b1 a0 p801_5) (Asp L kk Ro.w.r)= @sx_typing_binary_1 Prop L (anP (kQ I kk)) a1 a2 b1 a0 p801_5 (fun a1 a2 p802_3=>EV (Abn L) L 9 z2 (Bab a1 a2 p802_3) (A9z L kk Ro.w.r)) (fun a1 a2 a0 p803_4=>EV (Abn L) L 9 z3 (Asv a1 a2 a0 p803_4) (Asq L kk Ro.w.r)):=by kernel_rfl
theorem Bjn(a1:Int)(a2:Int)(b1:Bool)(a0:Int)(p801_5:Bool):EV (Abn L) L 9 Ro.w.l.u.l.u (Asu a1 a2 b1 a0 p801_5) (Asp L kk Ro.w.r)=ob (Xh L a1 a2 b1 a0 p801_5) (kQ I kk):=Eq.trans (b:=EV (Abn L) L 9 (EC.put (rl [9]) Ro.w.l.u.l.x.u.r (EC.put (rl [6,2,2]) Ro.w.l.u.l.x.l.l.u Ro.w.l.u.l.u)) (Asu a1 a2 b1 a0 p801_5) (Asp L kk Ro.w.r)) (by kernel_rfl) ((Bjx L kk a1 a2 b1 a0 p801_5 Ro.w.l.u.l.x.l.l.u Ro.w.l.u.l.x.u.r).trans (eE (sx_typing_binary_1 L a1 a2 b1 a0 p801_5 (fun a1 a2 p802_3=>re (Bjo L kk a1 a2 p802_3)) (fun a1 a2 a0 p803_4=>re (Bjp L kk a1 a2 a0 p803_4)))))
def sx_typing_binary_0 [An A Int](L:Nat)(a0:Int)(a1:Int)(a2:Int)(nx1:Int→Int→Bool→Int→Bool→A):A:=
 (jp (.cn (a1 == 1)
 (.lf (a2 == 1))
 (.lf false)) (fun b1=>
 (cn (a0 == 9)
 (nx1 a1 a2 b1 a0 (a0 == 9))
 (cn (a0 == 10)
 (nx1 a1 a2 b1 a0 (a0 == 10))
 (cn (a0 == 13)
 (nx1 a1 a2 b1 a0 (a0 == 13))
 (cn (a0 == 20)
 (nx1 a1 a2 b1 a0 (a0 == 20))
 (nx1 a1 a2 b1 a0 (a0 == 21))))))))
def Agz [An A Int](a0:Int)(a1:Int)(a2:Int):A:=sx_typing_binary_0 L a0 a1 a2 (fun a1 a2 b1 a0 p801_5=>Xh L a1 a2 b1 a0 p801_5)
theorem Bjw(a0:Int)(a1:Int)(a2:Int)(z1:EC):EW (Abn L) L 9 (RS Tryz.f227) (EC.put (rl [4,1,2,1,2]) z1 Ro) [I a0,I a1,I a2] kk= @sx_typing_binary_0 Prop (anP (kQ I kk)) L a0 a1 a2 (fun a1 a2 b1 a0 p801_5=>EV (Abn L) L 9 z1 (Asu a1 a2 b1 a0 p801_5) (Asp L kk Ro.w.r)):=by kernel_rfl
def Wk(a0:Int)(a1:Int)(a2:Int):Option Int:=Agz L a0 a1 a2
def Bqh:N2:=E3 I 227 (cI .i64) (cI .i64) (cI .i64) (Wk L) fun a0 a1 a2 r h=>hF Tryz.func227 (C:=Abn L) (oS _) L (fun kk=>Eq.trans (b:=EW (Abn L) L 9 (RS Tryz.f227) (EC.put (rl [4,1,2,1,2]) Ro.w.l.u.l.u Ro) [I a0,I a1,I a2] kk) (by kernel_rfl) ((Bjw L kk a0 a1 a2 Ro.w.l.u.l.u).trans (eE (sx_typing_binary_0 L a0 a1 a2 (fun a1 a2 b1 a0 p801_5=>re (Bjn L kk a1 a2 b1 a0 p801_5)))))) h
def A6q(F:Bf→Ab→Option D2):Prop:=∀y0 y1 r,F y0 y1=some r→Ho Tryz.prog 204 [Ab9.en y0,Ct.en y1] (fun(x:D2)=> .tup [I x.1,I x.2]) r
def Byn:=CC Tryz.f204
def Bpx(Et:Bf→Ab→Option D2)(L:Nat):Bq:=(orc 204 (A2 (fun(x:D2)=> .tup [I x.1,I x.2]) Ab9 Ct Et) (oL [Bi0 L,Bqe L,Bqf L,Bqg L,Bqh L]))
theorem B4t(Et:Bf→Ab→Option D2)(Bez:A6q Et)(L:Nat):Gd Tryz.prog (Bpx Et L):=(M5 (a2 _ Bez) (oS [Bi0 L,Bqe L,Bqf L,Bqg L,Bqh L]))
def Bzl(kk:Il):D2→Prop:=fun x=>kk ((fun(x:D2)=> .tup [I x.1,I x.2]) x)
def Ba5(a1:Ab)(a0:Bf)(v:Int×Int×List Int×Int):St:=⟨[(0,.any),(1,.any),(2,.loc 2 0),(3,.loc 3 0),(4,I v.1),(5,I v.2.1),(6,.lst true (.t75 v.2.2.1)),(11,.any),(12,.any),(13,.any),(15,lv (.t94 a1.Kids)),(16,I (a1.Kids.length:Int)),(17,I v.2.2.2),(35,.any),(49,.any),(62,.any),(72,.any),(85,.any),(89,.any),(93,.any)],[(2,Abu a0),(3,F3 a1)],0⟩
def Uw [An A (Nat×Int×Int×List Int×Int)](Et:Bf→Ab→Option D2)(L:Nat)(a1:Ab)(a0:Bf)(rec:Int→Int→List Int→Int→A)(Au:Int)(Ao:Int)(Bc:List Int)(Ih:Int):A:=
 (lw Ih a1.Kids
 (bd (Et a0 (Ab.cp (a1.Kids.getD (Int.toNat Ih) default))) fun r1=>
 (cn (r1.2 != 0)
 (lf (0,0,r1.2,Bc,Ih))
 (gq ((Bc.length+ [r1.1].length)*8≤140737488355328)
 (gq (Bc.length+ [r1.1].length≤maxLen)
 (rec Au Ao (Bc++ [r1.1]) (Dp (Ih+1)))))))
 (lf (1,Au,Ao,Bc,Ih)))
def J8(Et:Bf→Ab→Option D2)(L:Nat)(a1:Ab)(a0:Bf):Nat→Int→Int→List Int→Int→Option (Nat×Int×Int×List Int×Int)
 |0,_,_,_,_=>none
 |n+1,Au,Ao,Bc,Ih=>Uw Et L a1 a0 (J8 Et L a1 a0 n) Au Ao Bc Ih
theorem Bl7(Et:Bf→Ab→Option D2)(L:Nat)(K:Br)(a1:Ab)(a0:Bf):LP (EV (Bpx Et L) L 9 Byn.w.l.u.l.l) [0,1,2,3,4,5,6,11,12,13,15,16,17,35,49,62,72,85,89,93] [2,3] (Ba5 a1 a0) [.ret,.exit 0] (fun n v=>J8 Et L a1 a0 n v.1 v.2.1 v.2.2.1 v.2.2.2) K:=lE (fun _=>rfl) fun n v ih=>eE (Uw Et L a1 a0 (fun Au Ao Bc Ih=>re (ih (Au,Ao,Bc,Ih))) v.1 v.2.1 v.2.2.1 v.2.2.2)
def Rh [An A D2](Et:Bf→Ab→Option D2)(L:Nat)(a1:Ab)(a0:Bf)(o2:Nat×Int×Int×List Int×Int):A:=
 (sl o2.1 [(lf (o2.2.1,o2.2.2.1)),
 (cn (a1.Op == 3)
 (bd (u7 L a0 a1.Name) fun r3=>
 (cn (!r3.2)
 (lf (0,5))
 (lf (r3.1,0))))
 (cn (decide (a1.Op≥22))
 (bd (Xz L a0.Site a1.Name) fun r4=>
 (bd (Wl L a1.Op r4) fun r5=>
 (cn (!r5)
 (lf (0,5))
 (lf (1,0)))))
 (cn ((o2.2.2.2.1.length:Int) == 1)
 (gi 0 o2.2.2.2.1
 (bd (X3 L a1.Op (o2.2.2.2.1.getD 0 default)) fun r6=>
 (cn (r6 == 0)
 (lf (0,10))
 (lf (r6,0)))))
 (cn ((o2.2.2.2.1.length:Int) == 2)
 (gi 0 o2.2.2.2.1
 (gi 1 o2.2.2.2.1
 (bd (Wk L a1.Op (o2.2.2.2.1.getD 0 default) (o2.2.2.2.1.getD 1 default)) fun r7=>
 (cn (r7 == 0)
 (lf (0,10))
 (lf (r7,0))))))
 (cn (a1.Op == 1)
 (lf (1,0))
 (cn (a1.Op == 2)
 (lf (2,0))
 (cn (a1.Op == 4)
 (lf (3,0))
 (lf (0,10)))))))))])
def A80(Et:Bf→Ab→Option D2)(L:Nat)(kk:Il):Br:=(Ba 0 (Bg (EV (Bpx Et L) L 9 Byn.w.r) (Gu Tryz.prog (RS Tryz.f204) kk)))
theorem Bug(Et:Bf→Ab→Option D2)(L:Nat)(kk:Il)(a1:Ab)(a0:Bf)(o2:Nat×Int×Int×List Int×Int):kX [.ret,.exit 0] (Ba5 a1 a0) (A80 Et L kk) o2=ob (Rh Et L a1 a0 o2) (Bzl kk):=eE (Rh Et L a1 a0 o2)
def Aki [An A D2](Et:Bf→Ab→Option D2)(L:Nat)(a0:Bf)(a1:Ab):A:=(bd (J8 Et L a1 a0 L 0 0 [] 0) fun o2=>Rh Et L a1 a0 o2)
def Adj(Et:Bf→Ab→Option D2)(L:Nat)(a0:Bf)(a1:Ab):Option D2:=Aki Et L a0 a1
theorem B3g(Et:Bf→Ab→Option D2)(Bez:A6q Et)(L:Nat):A6q (Adj Et L):=fun a0 a1 r h=>hF Tryz.func204 (B4t Et Bez L) L (fun kk=>eE ((ho (Bl7 Et L (A80 Et L kk) a1 a0 L (0,0,[],0)) fun o2=>Bug Et L kk a1 a0 o2))) h
def Kk:Nat→Bf→Ab→Option D2
 |0,_,_=>none
 |L+1,a0,a1=>Adj (Kk L) L a0 a1
theorem Bkb(L:Nat):A6q (Kk L):=by
 induction L with
 |zero=>exact fun _ _ _ h=>(by cases h)
 |succ L ih=>
  have i204:=ih
  exact B3g (Kk L) i204 L
def Bwz(L:Nat):N2:=E2 (fun(x:D2)=> .tup [I x.1,I x.2]) 204 Ab9 Ct (Kk L) (Bkb L)
def Adr [An A D2](a0:Bf)(a1:Ab):A:=
 (bd (Oj L (Ab.cp a1)) fun r1=>
 (cn (r1 != 0)
 (lf (0,r1))
 (bd (Kk L a0 (Ab.cp a1)) fun r2=>
 (lf (r2.1,r2.2)))))
def u6(a0:Bf)(a1:Ab):Option D2:=Adr L a0 a1
def Bwv:N2:=E2 (fun(x:D2)=> .tup [I x.1,I x.2]) 186 Ab9 Ct (u6 L) fun a0 a1 r h=>hF Tryz.func186 (oS [Bqd L,Bwz L]) L (fun kk=>eE (Adr L a0 a1)) h
def Byb:=CC Tryz.f155
def Bpp:Bq:=oL [Bwv L]
def Bar(r1:D2)(a2:List Int)(a1:Ab)(v:D2):St:=⟨[(0,.any),(1,.any),(2,.any),(4,.any),(6,I v.1),(7,I r1.1),(8,.any),(23,lv (.t75 a2)),(24,I (a2.length:Int)),(25,I v.2)],[(4,F3 a1)],0⟩
def Jm [An A Ki](L:Nat)(r1:D2)(a2:List Int)(a1:Ab)(rec:Int→Int→A)(Au:Int)(Bi:Int):A:=
 (lw Bi a2
 (cn (r1.1 == (a2.getD (Int.toNat Bi) default))
 (lf (0,0,Bi))
 (rec Au (Dp (Bi+1))))
 (lf (1,Au,Bi)))
def D4(L:Nat)(r1:D2)(a2:List Int)(a1:Ab):Nat→Int→Int→Option Ki
 |0,_,_=>none
 |n+1,Au,Bi=>Jm L r1 a2 a1 (D4 L r1 a2 a1 n) Au Bi
theorem Blt(r1:D2)(a2:List Int)(a1:Ab):LP (EV (Bpp L) L 9 Byb.w.u.l.u.l.l) [0,1,2,4,6,7,8,23,24,25] [4] (Bar r1 a2 a1) [.ret,.exit 0] (fun n v=>D4 L r1 a2 a1 n v.1 v.2) K:=lE (fun _=>rfl) fun n v ih=>eE (Jm L r1 a2 a1 (fun Au Bi=>re (ih (Au,Bi))) v.1 v.2)
def Gy [An A Int](L:Nat)(o2:Nat×D2):A:=
 (sl o2.1 [(lf o2.2.1),
 (lf 10)])
def A8i:Br:=(Ba 0 (Bg (EV (Bpp L) L 9 Byb.w.u.r) (Gu Tryz.prog (RS Tryz.f155) kk)))
theorem Bty(r1:D2)(a2:List Int)(a1:Ab)(o2:Nat×D2):kX [.ret,.exit 0] (Bar r1 a2 a1) (A8i L kk) o2=ob (Gy L o2) (kQ I kk):=eE (Gy L o2)
def Jq [An A Int](a0:Aj)(a1:Ab)(a2:List Int)(nx1:D2→A):A:=
 (bd (u6 L a0.u_env (Ab.cp a1)) fun r1=>
 (cn (r1.2 != 0)
 (lf r1.2)
 (nx1 r1)))
def Yj [An A Int](a0:Aj)(a1:Ab)(a2:List Int):A:=Jq L a0 a1 a2 (fun r1=>bd (D4 L r1 a2 a1 L 0 0) fun o2=>Gy L o2)
def Bs(a0:Aj)(a1:Ab)(a2:List Int):Option Int:=Yj L a0 a1 a2
def Bdt:N2:=E3 I 155 Dt Ct Bq5 (Bs L) fun a0 a1 a2 r h=>hF Tryz.func155 (C:=Bpp L) (oS _) L (fun kk=>eE (Jq L a0 a1 a2 (fun r1=>ho (Blt L (A8i L kk) r1 a2 a1 L (0,0)) fun o2=>Bty L kk r1 a2 a1 o2))) h
def Bq3:=CC Tryz.f152
def Bir:Bq:=oL [Bdt L,Bdu L]
def Baq(a0:Aj)(r1:Tu4)(a1:Ac)(v:D2):St:=⟨[(0,.ref (F1 a0)),(1,.any),(3,.loc 3 0),(4,I v.1),(5,I r1.1),(6,.any),(27,lv (.t77 a0.u_env.Site.Vars)),(28,I (a0.u_env.Site.Vars.length:Int)),(29,I v.2)],[(3,Eo a1)],0⟩
def K3 [An A Ki](a0:Aj)(r1:Tu4)(a1:Ac)(rec:Int→Int→A)(Cz:Int)(Akw:Int):A:=
 (lw Akw a0.u_env.Site.Vars
 (cn (((a0.u_env.Site.Vars.getD (Int.toNat Akw) default).Name).toList == a1.Name.toList)
 (bd (Bs L a0 (Ab.cp a1.E) [(a0.u_env.Site.Vars.getD (Int.toNat Akw) default).Type_]) fun r2=>
 (lf (0,r2,Akw)))
 (rec Cz (Dp (Akw+1))))
 (lf (1,Cz,Akw)))
def Ep(L:Nat)(a0:Aj)(r1:Tu4)(a1:Ac):Nat→Int→Int→Option Ki
 |0,_,_=>none
 |n+1,Cz,Akw=>K3 L a0 r1 a1 (Ep L a0 r1 a1 n) Cz Akw
theorem Bls(a0:Aj)(r1:Tu4)(a1:Ac):LP (EV (Bir L) L 9 Bq3.w.l.u.l.l.u.l.l) [0,1,3,4,5,6,27,28,29] [3] (Baq a0 r1 a1) [.ret,.exit 0] (fun n v=>Ep L a0 r1 a1 n v.1 v.2) K:=lE (fun _=>rfl) fun n v ih=>eE (K3 L a0 r1 a1 (fun Cz Akw=>re (ih (Cz,Akw))) v.1 v.2)
def Ie [An A Int](L:Nat)(o4:Nat×D2):A:=
 (sl o4.1 [(lf o4.2.1),
 (lf 5)])
def A8h:Br:=(Ba 0 (Bg (EV (Bir L) L 9 Bq3.w.l.u.l.r) (Bg (EV (Bir L) L 9 Bq3.w.r) (Gu Tryz.prog (RS Tryz.f152) kk))))
theorem Btx(a0:Aj)(r1:Tu4)(a1:Ac)(o4:Nat×D2):kX [.ret,.exit 0] (Baq a0 r1 a1) (A8h L kk) o4=ob (Ie L o4) (kQ I kk):=eE (Ie L o4)
def K7 [An A Int](a0:Aj)(a1:Ac)(nx1:Tu4→A):A:=
 (bd (M7 L a0.u_env.Locals a1.Name) fun r1=>
 (cn (!r1.2)
 (nx1 r1)
 (bd (Bs L a0 (Ab.cp a1.E) [r1.1]) fun r3=>
 (lf r3))))
def w9 [An A Int](a0:Aj)(a1:Ac):A:=K7 L a0 a1 (fun r1=>bd (Ep L a0 r1 a1 L 0 0) fun o4=>Ie L o4)
def Ol(a0:Aj)(a1:Ac):Option Int:=w9 L a0 a1
def Bwm:N2:=E2 I 152 Dt Ty (Ol L) fun a0 a1 r h=>hF Tryz.func152 (C:=Bir L) (oS _) L (fun kk=>eE (K7 L a0 a1 (fun r1=>ho (Bls L (A8h L kk) a0 r1 a1 L (0,0)) fun o4=>Btx L kk a0 r1 a1 o4))) h
def V4 [An A Bool](a0:Aj)(a1:ByteArray)(a2:ByteArray):A:=
 (bd (Xz L a0.u_env.Site a1) fun r1=>
 (lf (r1.toList == a2.toList)))
def F2(a0:Aj)(a1:ByteArray)(a2:ByteArray):Option Bool:=V4 L a0 a1 a2
def Bqa:N2:=E3 B 154 Dt cS cS (F2 L) fun a0 a1 a2 r h=>hF Tryz.func154 (oS [Bi0 L]) L (fun kk=>eE (V4 L a0 a1 a2)) h
def Byk:=CC Tryz.f184
def Bpw:Bq:=oL [Bdu L]
def Baz(r1:Tu4)(a2:List Int)(v:D2):St:=⟨[(0,.any),(1,.any),(2,.any),(6,I v.1),(7,I r1.1),(8,.any),(21,lv (.t75 a2)),(22,I (a2.length:Int)),(23,I v.2)],[],0⟩
def Io [An A Ki](L:Nat)(r1:Tu4)(a2:List Int)(rec:Int→Int→A)(Au:Int)(Bi:Int):A:=
 (lw Bi a2
 (cn (r1.1 == (a2.getD (Int.toNat Bi) default))
 (lf (0,0,Bi))
 (rec Au (Dp (Bi+1))))
 (lf (1,Au,Bi)))
def Du(L:Nat)(r1:Tu4)(a2:List Int):Nat→Int→Int→Option Ki
 |0,_,_=>none
 |n+1,Au,Bi=>Io L r1 a2 (Du L r1 a2 n) Au Bi
theorem Bl1(r1:Tu4)(a2:List Int):LP (EV (Bpw L) L 9 Byk.w.l.u.l.l) [0,1,2,6,7,8,21,22,23] [] (Baz r1 a2) [.ret,.exit 0] (fun n v=>Du L r1 a2 n v.1 v.2) K:=lE (fun _=>rfl) fun n v ih=>eE (Io L r1 a2 (fun Au Bi=>re (ih (Au,Bi))) v.1 v.2)
def Gq [An A Int](L:Nat)(o2:Nat×D2):A:=
 (sl o2.1 [(lf o2.2.1),
 (lf 10)])
def A8r:Br:=(Ba 0 (Bg (EV (Bpw L) L 9 Byk.w.r) (Gu Tryz.prog (RS Tryz.f184) kk)))
theorem Bt7(r1:Tu4)(a2:List Int)(o2:Nat×D2):kX [.ret,.exit 0] (Baz r1 a2) (A8r L kk) o2=ob (Gq L o2) (kQ I kk):=eE (Gq L o2)
def I3 [An A Int](a0:Aj)(a1:ByteArray)(a2:List Int)(nx1:Tu4→A):A:=
 (bd (M7 L a0.u_env.Locals a1) fun r1=>
 (nx1 r1))
def Xm [An A Int](a0:Aj)(a1:ByteArray)(a2:List Int):A:=I3 L a0 a1 a2 (fun r1=>bd (Du L r1 a2 L 0 0) fun o2=>Gq L o2)
def Qc(a0:Aj)(a1:ByteArray)(a2:List Int):Option Int:=Xm L a0 a1 a2
def Bwu:N2:=E3 I 184 Dt cS Bq5 (Qc L) fun a0 a1 a2 r h=>hF Tryz.func184 (C:=Bpw L) (oS _) L (fun kk=>eE (I3 L a0 a1 a2 (fun r1=>ho (Bl1 L (A8r L kk) r1 a2 L (0,0)) fun o2=>Bt7 L kk r1 a2 o2))) h
def S0 [An A Int](a0:Aj)(a1:ByteArray)(a2:Bool)(a3:List Int):A:=
 (bd (M7 L a0.u_env.Locals a1) fun r1=>
 (jp (.cn (!r1.2)
 (.lf true)
 (.lf (!a2))) (fun b2=>
 (cn b2
 (lf 5)
 (bd (Qc L a0 a1 a3) fun r3=>
 (lf r3))))))
def Hg(a0:Aj)(a1:ByteArray)(a2:Bool)(a3:List Int):Option Int:=S0 L a0 a1 a2 a3
def Bwn:N2:=E4 I 153 Dt cS cB Bq5 (Hg L) fun a0 a1 a2 a3 r h=>hF Tryz.func153 (oS [Bdu L,Bwu L]) L (fun kk=>eE (S0 L a0 a1 a2 a3)) h
def Byc:=CC Tryz.f156
def Bpq:Bq:=oL [Bqa L,Bdt L]
def Bas(a0:Aj)(a3:List Ab)(a1:Ac)(v:D2):St:=⟨[(0,.ref (F1 a0)),(1,.any),(2,.any),(3,.any),(5,.any),(8,I v.1),(18,lv (.t94 a3)),(19,I (a3.length:Int)),(20,I v.2)],[(5,Eo a1)],0⟩
def Jl [An A Ki](a0:Aj)(a3:List Ab)(a1:Ac)(rec:Int→Int→A)(Cz:Int)(Kz:Int):A:=
 (lw Kz a3
 (bd (Bs L a0 (Ab.cp (a3.getD (Int.toNat Kz) default)) [1]) fun r2=>
 (cn (r2 != 0)
 (lf (0,r2,Kz))
 (rec Cz (Dp (Kz+1)))))
 (lf (1,Cz,Kz)))
def D3(L:Nat)(a0:Aj)(a3:List Ab)(a1:Ac):Nat→Int→Int→Option Ki
 |0,_,_=>none
 |n+1,Cz,Kz=>Jl L a0 a3 a1 (D3 L a0 a3 a1 n) Cz Kz
theorem Blu(a0:Aj)(a3:List Ab)(a1:Ac):LP (EV (Bpq L) L 9 Byc.w.l.u.l.l) [0,1,2,3,5,8,18,19,20] [5] (Bas a0 a3 a1) [.ret,.exit 0] (fun n v=>D3 L a0 a3 a1 n v.1 v.2) K:=lE (fun _=>rfl) fun n v ih=>eE (Jl L a0 a3 a1 (fun Cz Kz=>re (ih (Cz,Kz))) v.1 v.2)
def Gx [An A Int](L:Nat)(o3:Nat×D2):A:=
 (sl o3.1 [(lf o3.2.1),
 (lf 0)])
def A8j:Br:=(Ba 0 (Bg (EV (Bpq L) L 9 Byc.w.r) (Gu Tryz.prog (RS Tryz.f156) kk)))
theorem Btz(a0:Aj)(a3:List Ab)(a1:Ac)(o3:Nat×D2):kX [.ret,.exit 0] (Bas a0 a3 a1) (A8j L kk) o3=ob (Gx L o3) (kQ I kk):=eE (Gx L o3)
def Jp [An A Int](a0:Aj)(a1:Ac)(a2:ByteArray)(a3:List Ab)(nx1:A):A:=
 (bd (F2 L a0 a1.Name a2) fun r1=>
 (cn (!r1)
 (lf 5)
 nx1))
def Yi [An A Int](a0:Aj)(a1:Ac)(a2:ByteArray)(a3:List Ab):A:=Jp L a0 a1 a2 a3 (bd (D3 L a0 a3 a1 L 0 0) fun o3=>Gx L o3)
def B1(a0:Aj)(a1:Ac)(a2:ByteArray)(a3:List Ab):Option Int:=Yi L a0 a1 a2 a3
def Bwo:N2:=E4 I 156 Dt Ty cS B3q (B1 L) fun a0 a1 a2 a3 r h=>hF Tryz.func156 (C:=Bpq L) (oS _) L (fun kk=>eE (Jp L a0 a1 a2 a3 (ho (Blu L (A8j L kk) a0 a3 a1 L (0,0)) fun o3=>Btz L kk a0 a3 a1 o3))) h
def Byo:=CC Tryz.f205
def Byl:=CC Tryz.f187
def A4a(L:Nat):Bq:=oL []
def Bzk:Tu4→Prop:=fun x=>kk ((fun(x:Tu4)=> .tup [I x.1,B x.2]) x)
def Ba0(p1_0:List Be)(p1_1:Ad)(p1_2:ByteArray)(p1_3:ByteArray)(v:D2):St:=⟨[(0,lv (.t167 p1_0)),(1,.clo 206 0 [.loc 4 0,.loc 5 0]),(4,I v.1),(7,I (p1_0.length:Int)),(8,I v.2)],[(3,Ar p1_1),(4,[S p1_2]),(5,[S p1_3])],6⟩
def Wt [An A Ki](L:Nat)(p1_0:List Be)(p1_1:Ad)(p1_2:ByteArray)(p1_3:ByteArray)(rec:Int→Int→A)(Ao:Int)(Al:Int):A:=
 (lw Al p1_0
 (jp (.cn (((p1_0.getD (Int.toNat Al) default).From).toList == p1_2.toList)
 (.lf (((p1_0.getD (Int.toNat Al) default).To).toList == p1_3.toList))
 (.lf false)) (fun b1=>
 (cn b1
 (lf (0,Al,Al))
 (rec Ao (Dp (Al+1))))))
 (lf (1,Ao,Al)))
def Lc(L:Nat)(p1_0:List Be)(p1_1:Ad)(p1_2:ByteArray)(p1_3:ByteArray):Nat→Int→Int→Option Ki
 |0,_,_=>none
 |n+1,Ao,Al=>Wt L p1_0 p1_1 p1_2 p1_3 (Lc L p1_0 p1_1 p1_2 p1_3 n) Ao Al
theorem Bl2(p1_0:List Be)(p1_1:Ad)(p1_2:ByteArray)(p1_3:ByteArray):LP (EV (A4a L) L 8 Byo.u.l.u.l.l) [0,1,4,7,8] [3,4,5] (Ba0 p1_0 p1_1 p1_2 p1_3) [.ret,.exit 0] (fun n v=>Lc L p1_0 p1_1 p1_2 p1_3 n v.1 v.2) K:=lE (fun _=>rfl) fun n v ih=>eE (Wt L p1_0 p1_1 p1_2 p1_3 (fun Ao Al=>re (ih (Ao,Al))) v.1 v.2)
def Ayf(p1_0:List Be)(p1_1:Ad)(p1_2:ByteArray)(p1_3:ByteArray)(k:Bn):Int→Prop:=fun o=>k (I o) [(3,Ar p1_1),(4,[S p1_2]),(5,[S p1_3])]
def W3 [An A Int](L:Nat)(o2:Nat×D2):A:=
 (sl o2.1 [(lf o2.2.1),
 (lf (-1))])
def A8s:Br:=(Ba 0 (Bg (EV (A4a L) L 8 Byo.u.r) (Dq Tryz.prog (RS Tryz.f205) k)))
theorem Bt8(p1_0:List Be)(p1_1:Ad)(p1_2:ByteArray)(p1_3:ByteArray)(o2:Nat×D2):kX [.ret,.exit 0] (Ba0 p1_0 p1_1 p1_2 p1_3) (A8s L k) o2=ob (W3 L o2) (Ayf p1_0 p1_1 p1_2 p1_3 k):=eE (W3 L o2)
def Ag3 [An A Int](p1_0:List Be)(p1_1:Ad)(p1_2:ByteArray)(p1_3:ByteArray):A:=(bd (Lc L p1_0 p1_1 p1_2 p1_3 L 0 0) fun o2=>W3 L o2)
def Aaq(p1_0:List Be)(p1_1:Ad)(p1_2:ByteArray)(p1_3:ByteArray):Option Int:=Ag3 L p1_0 p1_1 p1_2 p1_3
theorem Bkm(p1_0:List Be)(p1_1:Ad)(p1_2:ByteArray)(p1_3:ByteArray):YO (A4a L) L 9 205 [lv (.t167 p1_0),.clo 206 0 [.loc 4 0,.loc 5 0]] [(3,Ar p1_1),(4,[S p1_2]),(5,[S p1_3])] k=ob (Aaq L p1_0 p1_1 p1_2 p1_3) (Ayf p1_0 p1_1 p1_2 p1_3 k):=(Cr _ _ _ jn4 _ _ _ _ _ _ _).trans (eE ((ho (Bl2 L (A8s L k) p1_0 p1_1 p1_2 p1_3 L (0,0)) fun o2=>Bt8 L k p1_0 p1_1 p1_2 p1_3 o2)))
def Sg [An A Tu4](L:Nat)(a0:Ad)(o3:Int):A:=
 (cn (decide (o3 < 0))
 (lf (0,false))
 (gi o3 a0.Links
 (lf ((a0.Links.getD (Int.toNat o3) default).Delay,true))))
def A8t(a0:Ad)(a1:ByteArray)(a2:ByteArray):Bn:=(Bu Tryz.prog (A4a L) (EI (A4a L) L 9) 1 (List.drop 4 Byl.u.l.ops) ⟨[(11,.clo 206 0 [.loc 4 0,.loc 5 0]),(10,lv (.t167 a0.Links)),(9,.loc 3 3),(3,.loc 3 0),(4,.loc 4 0),(5,.loc 5 0),(6,I 0),(7,B false)],[(3,Ar a0),(4,[S a1]),(5,[S a2])],0⟩ (some 12) (fun st9=>(Bg (EV (A4a L) L 9 Byl.u.r) (Gu Tryz.prog (RS Tryz.f187) kk)) .normal st9))
theorem Bt9(a0:Ad)(a1:ByteArray)(a2:ByteArray)(o3:Int):Ayf a0.Links a0 a1 a2 (A8t L kk a0 a1 a2) o3=ob (Sg L a0 o3) (Bzk kk):=eE (Sg L a0 o3)
def Amg [An A Tu4](a0:Ad)(a1:ByteArray)(a2:ByteArray):A:=(bd (Aaq L a0.Links a0 a1 a2) fun o3=>Sg L a0 o3)
def Abk(a0:Ad)(a1:ByteArray)(a2:ByteArray):Option Tu4:=Amg L a0 a1 a2
def Bww:N2:=E3 (fun(x:Tu4)=> .tup [I x.1,B x.2]) 187 Ml cS cS (Abk L) fun a0 a1 a2 r h=>hF Tryz.func187 (C:=A4a L) (oS _) L (fun kk=>eE ((ho (Bkm L (A8t L kk a0 a1 a2) a0.Links a0 a1 a2) fun o3=>Bt9 L kk a0 a1 a2 o3))) h
def Byd:=CC Tryz.f158
def Bpr:Bq:=oL [Bdt L]
def Bat(a0:Aj)(a2:Ac)(a1:Ak)(v:D2):St:=⟨[(0,.ref (F1 a0)),(1,.any),(2,.any),(4,.loc 4 0),(5,.loc 5 0),(6,I v.1),(18,lv (.t94 a2.Args)),(19,I (a2.Args.length:Int)),(20,I v.2)],[(4,Bw a1),(5,Eo a2)],0⟩
def Km [An A Ki](a0:Aj)(a2:Ac)(a1:Ak)(rec:Int→Int→A)(Cz:Int)(Kz:Int):A:=
 (lw Kz a2.Args
 (gi Kz a1.Params
 (bd (Bs L a0 (Ab.cp (a2.Args.getD (Int.toNat Kz) default)) [(a1.Params.getD (Int.toNat Kz) default).Type_]) fun r1=>
 (cn (r1 != 0)
 (lf (0,r1,Kz))
 (rec Cz (Dp (Kz+1))))))
 (lf (1,Cz,Kz)))
def Eb(L:Nat)(a0:Aj)(a2:Ac)(a1:Ak):Nat→Int→Int→Option Ki
 |0,_,_=>none
 |n+1,Cz,Kz=>Km L a0 a2 a1 (Eb L a0 a2 a1 n) Cz Kz
theorem Blv(a0:Aj)(a2:Ac)(a1:Ak):LP (EV (Bpr L) L 9 Byd.w.l.u.l.l) [0,1,2,4,5,6,18,19,20] [4,5] (Bat a0 a2 a1) [.ret,.exit 0] (fun n v=>Eb L a0 a2 a1 n v.1 v.2) K:=lE (fun _=>rfl) fun n v ih=>eE (Km L a0 a2 a1 (fun Cz Kz=>re (ih (Cz,Kz))) v.1 v.2)
def Hh [An A Int](a0:Aj)(a2:Ac)(o2:Nat×D2):A:=
 (sl o2.1 [(lf o2.2.1),
 (bd (Bs L a0 (Ab.cp a2.E) [3]) fun r3=>
 (lf r3))])
def A8k:Br:=(Ba 0 (Bg (EV (Bpr L) L 9 Byd.w.r) (Gu Tryz.prog (RS Tryz.f158) kk)))
theorem Bt0(a0:Aj)(a2:Ac)(a1:Ak)(o2:Nat×D2):kX [.ret,.exit 0] (Bat a0 a2 a1) (A8k L kk) o2=ob (Hh L a0 a2 o2) (kQ I kk):=eE (Hh L a0 a2 o2)
def Kr [An A Int](L:Nat)(a0:Aj)(a1:Ak)(a2:Ac)(nx1:A):A:=
 (cn ((a2.Args.length:Int) != (a1.Params.length:Int))
 (lf 8)
 nx1)
def Zq [An A Int](a0:Aj)(a1:Ak)(a2:Ac):A:=Kr L a0 a1 a2 (bd (Eb L a0 a2 a1 L 0 0) fun o2=>Hh L a0 a2 o2)
def Hf(a0:Aj)(a1:Ak)(a2:Ac):Option Int:=Zq L a0 a1 a2
def Bqb:N2:=E3 I 158 Dt Ah9 Ty (Hf L) fun a0 a1 a2 r h=>hF Tryz.func158 (C:=Bpr L) (oS _) L (fun kk=>eE (Kr L a0 a1 a2 (ho (Blv L (A8k L kk) a0 a2 a1 L (0,0)) fun o2=>Bt0 L kk a0 a2 a1 o2))) h
def S1 [An A Int](a0:Aj)(a1:Ac):A:=
 (bd (Ud L a0.u_m a1.Of) fun r1=>
 (cn (decide (r1 < 0))
 (lf 5)
 (gi r1 a0.u_m.Sites
 (bd (E8 L (a0.u_m.Sites.getD (Int.toNat r1) default) a1.Name) fun r2=>
 (cn (decide (r2 < 0))
 (lf 5)
 (bd (Abk L a0.u_m a0.u_env.Site.Name a1.Of) fun r3=>
 (cn (!r3.2)
 (lf 16)
 (gi r1 a0.u_m.Sites
 (gi r2 ((a0.u_m.Sites.getD (Int.toNat r1) default).Routines)
 (bd (Hf L a0 (((a0.u_m.Sites.getD (Int.toNat r1) default).Routines).getD (Int.toNat r2) default) (Ac.cp a1)) fun r4=>
 (lf r4)))))))))))
def Nn(a0:Aj)(a1:Ac):Option Int:=S1 L a0 a1
def Bwp:N2:=E2 I 157 Dt Ty (Nn L) fun a0 a1 r h=>hF Tryz.func157 (oS [Bp2 L,Bbn L,Bqb L,Bww L]) L (fun kk=>eE (S1 L a0 a1)) h
def A4e:=CC Tryz.f121
def Bbl:Bq:=oL [Bbn L,Bwm L,Bwn L,Bqa L,Bdt L,Bwo L,Bwp L,Bqb L]
def A99(a0:Aj)(a1:Ac)(p801_22:Bool):St:=⟨[(0,.ref (F1 a0)),(3,.loc 3 0),(4,I 0),(7,I a1.Op),(24,B p801_22)],[(3,Eo a1)],0⟩
def A9x(e0:EC):Br:=(Ba 0 (Bg (EV (Bbl L) L 9 e0) (Gu Tryz.prog (RS Tryz.f121) kk)))
def K6 [An A Int](a0:Aj)(a1:Ac)(p801_22:Bool):A:=
 (cn p801_22
 (bd (Bs L a0 (Ab.cp a1.E) [2]) fun r4=>
 (lf r4))
 (cn (a1.Op == 5)
 (bd (Bs L a0 (Ab.cp a1.E) [3]) fun r5=>
 (lf r5))
 (cn (a1.Op == 6)
 (bd (B1 L a0 (Ac.cp a1) (⟨#[114,101,115,111,117,114,99,101]⟩:ByteArray) [(Ab.cp a1.E),(Ab.cp a1.F)]) fun r6=>
 (lf r6))
 (cn (a1.Op == 7)
 (bd (B1 L a0 (Ac.cp a1) (⟨#[114,101,115,111,117,114,99,101]⟩:ByteArray) [(Ab.cp a1.E)]) fun r7=>
 (lf r7))
 (cn (a1.Op == 8)
 (bd (B1 L a0 (Ac.cp a1) (⟨#[115,116,111,114,101]⟩:ByteArray) [(Ab.cp a1.E)]) fun r8=>
 (lf r8))
 (cn (a1.Op == 9)
 (bd (F2 L a0 a1.Name (⟨#[115,116,111,114,101]⟩:ByteArray)) fun r9=>
 (bd (Hg L a0 a1.Of r9 [1]) fun r10=>
 (lf r10)))
 (cn (a1.Op == 10)
 (bd (B1 L a0 (Ac.cp a1) (⟨#[98,101,108,116]⟩:ByteArray) []) fun r11=>
 (lf r11))
 (cn (a1.Op == 11)
 (bd (B1 L a0 (Ac.cp a1) (⟨#[113,117,101,117,101]⟩:ByteArray) []) fun r12=>
 (lf r12))
 (cn (a1.Op == 12)
 (bd (B1 L a0 (Ac.cp a1) (⟨#[113,117,101,117,101]⟩:ByteArray) [(Ab.cp a1.E)]) fun r13=>
 (lf r13))
 (cn (a1.Op == 13)
 (bd (Nn L a0 (Ac.cp a1)) fun r14=>
 (lf r14))
 (cn (a1.Op == 14)
 (bd (E8 L a0.u_env.Site a1.Name) fun r15=>
 (cn (decide (r15 < 0))
 (lf 5)
 (gi r15 a0.u_env.Site.Routines
 (bd (Hf L a0 (a0.u_env.Site.Routines.getD (Int.toNat r15) default) (Ac.cp a1)) fun r16=>
 (lf r16)))))
 (cn (a1.Op == 15)
 (bd (F2 L a0 a1.Name (⟨#[116,97,108,108,121]⟩:ByteArray)) fun r17=>
 (cn (!r17)
 (lf 5)
 (bd (Bs L a0 (Ab.cp a1.E) [1,3]) fun r18=>
 (lf r18))))
 (cn (a1.Op == 16)
 (bd (B1 L a0 (Ac.cp a1) (⟨#[108,101,118,101,108]⟩:ByteArray) [(Ab.cp a1.E)]) fun r19=>
 (lf r19))
 (cn (a1.Op == 17)
 (bd (B1 L a0 (Ac.cp a1) (⟨#[99,111,117,110,116]⟩:ByteArray) [(Ab.cp a1.E)]) fun r20=>
 (lf r20))
 (lf 0)))))))))))))))
theorem Bjj(a0:Aj)(a1:Ac)(p801_22:Bool):EV (Bbl L) L 9 A4e.u.l.u.l.x (A99 a0 a1 p801_22) (A9x L kk A4e.u.r)=ob (K6 L a0 a1 p801_22) (kQ I kk):=eE (K6 L a0 a1 p801_22)
def sx_typing_routine_own_0 [An A Int](a0:Aj)(a1:Ac)(nx1:Aj→Ac→Bool→A):A:=
 (cn (a1.Op == 1)
 (bd (Ol L a0 (Ac.cp a1)) fun r1=>
 (lf r1))
 (cn (a1.Op == 2)
 (bd (F2 L a0 a1.Of (⟨#[115,116,114,101,97,109]⟩:ByteArray)) fun r2=>
 (bd (Hg L a0 a1.Name r2 [1,3]) fun r3=>
 (lf r3)))
 (cn (a1.Op == 3)
 (nx1 a0 a1 (a1.Op == 3))
 (nx1 a0 a1 (a1.Op == 4)))))
def w8 [An A Int](a0:Aj)(a1:Ac):A:=sx_typing_routine_own_0 L a0 a1 (fun a0 a1 p801_22=>K6 L a0 a1 p801_22)
theorem Bjs(a0:Aj)(a1:Ac)(z1:EC):EW (Bbl L) L 9 (RS Tryz.f121) (EC.put (rl [2,1,2,1,8]) z1 A4e) [.ref (F1 a0),.agg (Eo a1)] kk= @sx_typing_routine_own_0 Prop L (anP (kQ I kk)) a0 a1 (fun a0 a1 p801_22=>EV (Bbl L) L 9 z1 (A99 a0 a1 p801_22) (A9x L kk A4e.u.r)):=by kernel_rfl
def Kt(a0:Aj)(a1:Ac):Option Int:=w8 L a0 a1
def Bp3:N2:=E2 I 121 Dt Ty (Kt L) fun a0 a1 r h=>hF Tryz.func121 (C:=Bbl L) (oS _) L (fun kk=>Eq.trans (b:=EW (Bbl L) L 9 (RS Tryz.f121) (EC.put (rl [2,1,2,1,8]) A4e.u.l.u.l.x A4e) [.ref (F1 a0),.agg (Eo a1)] kk) (by kernel_rfl) ((Bjs L kk a0 a1 A4e.u.l.u.l.x).trans (eE (sx_typing_routine_own_0 L a0 a1 (fun a0 a1 p801_22=>re (Bjj L kk a0 a1 p801_22)))))) h
end
end Go.Proofs.YtfencmicmnhglaaGreat.Ev
