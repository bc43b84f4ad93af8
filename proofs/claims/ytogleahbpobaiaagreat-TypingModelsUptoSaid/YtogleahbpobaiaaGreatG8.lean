import Derived.Test.YtogleahbpobaiaaGreatG3
import Derived.Test.YtogleahbpobaiaaGreatG4
import Derived.Test.YtogleahbpobaiaaGreatG5
import Derived.Test.YtogleahbpobaiaaGreatG7
namespace Go.Proofs.YtogleahbpobaiaaGreat.Ev
open Go An
set_option maxRecDepth 100000
set_option maxHeartbeats 4000000
set_option linter.unusedVariables false
set_option linter.unusedSimpArgs false
set_option linter.unnecessarySimpa false
variable {A:Type} (L n:Nat) (kk:Ct) (K:Be) (k:Bx)
noncomputable def Cc6:EC:=CC Tryz.f133
noncomputable def Cc7:EC:=CC Tryz.f135
noncomputable def Cc8:EC:=CC Tryz.f139
noncomputable def c62:EC:=CC Tryz.f62
def O62:Bk:=oL [Bm7 L,B2p L]
def Byc:(ByteArray×Int)→Prop:=fun x=>kk ((fun(x:ByteArray×Int)=> .tup [S x.1,I x.2]) x)
def Bt0(p1_0:List Al)(p1_1:Aa)(p1_2:ByteArray)(v:Cw):St:=⟨[(0,.lst false (.t57 p1_0)),(1,.clo 134 0 [.loc 3 0]),(4,I v.1),(7,I (p1_0.length:Int)),(8,I v.2)],[(2,Ae p1_1),(3,[S p1_2])],4⟩
def Wx [An A Cx](L:Nat)(p1_0:List Al)(p1_1:Aa)(p1_2:ByteArray)(rec:Int→Int→A)(Ag:Int)(Ah:Int):A:=
 (cn (decide (Ah < (p1_0.length:Int)))
 (gq (0≤Ah)
 (gq (Ah < (p1_0.length:Int))
 (cn (((p1_0.getD (Int.toNat Ah) default).Name).toList == p1_2.toList)
 (lf (0,Ah,Ah))
 (rec Ag (Da (Ah+1))))))
 (lf (1,Ag,Ah)))
def J9(L:Nat)(p1_0:List Al)(p1_1:Aa)(p1_2:ByteArray):Nat→Int→Int→Option Cx
 |0,_,_=>none
 |n+1,Ag,Ah=>Wx L p1_0 p1_1 p1_2 (J9 L p1_0 p1_1 p1_2 n) Ag Ah
theorem B67(p1_0:List Al)(p1_1:Aa)(p1_2:ByteArray):LP (EV (O62 L) L 8 Cc6.u.l.u.l.l) [0,1,4,7,8] [2,3] (Bt0 p1_0 p1_1 p1_2) [.ret,.exit 0] (fun n v=>J9 L p1_0 p1_1 p1_2 n v.1 v.2) K:=lE (fun _=>rfl) fun n v ih=>eE (Wx L p1_0 p1_1 p1_2 (fun Ag Ah=>re (ih (Ag,Ah))) v.1 v.2)
def Bf0(p1_0:List Al)(p1_1:Aa)(p1_2:ByteArray)(k:Bx):Int→Prop:=fun o=>k (I o) [(2,Ae p1_1),(3,[S p1_2])]
def Xd [An A Int](L:Nat)(o1:Nat×Cw):A:=
 (sl o1.1 [(lf o1.2.1),
 (lf (-1))])
def Brz:Be:=(Ay 0 (Bl (EV (O62 L) L 8 Cc6.u.r) (E5 Tryz.prog (RS Tryz.f133) k)))
theorem Chd(p1_0:List Al)(p1_1:Aa)(p1_2:ByteArray)(o1:Nat×Cw):kX [.ret,.exit 0] (Bt0 p1_0 p1_1 p1_2) (Brz L k) o1=ob (Xd L o1) (Bf0 p1_0 p1_1 p1_2 k):=eE (Xd L o1)
def Ad5 [An A Int](L:Nat)(p1_0:List Al)(p1_1:Aa)(p1_2:ByteArray)(nx2:A):A:=
 nx2
def Alw [An A Int](p1_0:List Al)(p1_1:Aa)(p1_2:ByteArray):A:=Ad5 L p1_0 p1_1 p1_2 (bd (J9 L p1_0 p1_1 p1_2 L 0 0) fun o1=>Xd L o1)
def Wr(p1_0:List Al)(p1_1:Aa)(p1_2:ByteArray):Option Int:=Alw L p1_0 p1_1 p1_2
theorem B5l(p1_0:List Al)(p1_1:Aa)(p1_2:ByteArray):YO (O62 L) L 9 133 [.lst false (.t57 p1_0),.clo 134 0 [.loc 3 0]] [(2,Ae p1_1),(3,[S p1_2])] k=ob (Wr L p1_0 p1_1 p1_2) (Bf0 p1_0 p1_1 p1_2 k):=(Dc _ _ _ jn4 _ _ _ _ _ _ _).trans (eE (Ad5 L p1_0 p1_1 p1_2 (ho (B67 L (Brz L k) p1_0 p1_1 p1_2 L (0,0)) fun o1=>Chd L k p1_0 p1_1 p1_2 o1)))
def Bt1(p2_0:List Af)(p2_1:Aa)(p2_2:ByteArray)(v:Cw):St:=⟨[(0,.lst false (.t116 p2_0)),(1,.clo 136 0 [.loc 3 0]),(4,I v.1),(7,I (p2_0.length:Int)),(8,I v.2)],[(2,Ae p2_1),(3,[S p2_2])],4⟩
def Wy [An A Cx](L:Nat)(p2_0:List Af)(p2_1:Aa)(p2_2:ByteArray)(rec:Int→Int→A)(C1:Int)(B2:Int):A:=
 (cn (decide (B2 < (p2_0.length:Int)))
 (gq (0≤B2)
 (gq (B2 < (p2_0.length:Int))
 (cn (((p2_0.getD (Int.toNat B2) default).Name).toList == p2_2.toList)
 (lf (0,B2,B2))
 (rec C1 (Da (B2+1))))))
 (lf (1,C1,B2)))
def Ka(L:Nat)(p2_0:List Af)(p2_1:Aa)(p2_2:ByteArray):Nat→Int→Int→Option Cx
 |0,_,_=>none
 |n+1,C1,B2=>Wy L p2_0 p2_1 p2_2 (Ka L p2_0 p2_1 p2_2 n) C1 B2
theorem B68(p2_0:List Af)(p2_1:Aa)(p2_2:ByteArray):LP (EV (O62 L) L 8 Cc7.u.l.u.l.l) [0,1,4,7,8] [2,3] (Bt1 p2_0 p2_1 p2_2) [.ret,.exit 0] (fun n v=>Ka L p2_0 p2_1 p2_2 n v.1 v.2) K:=lE (fun _=>rfl) fun n v ih=>eE (Wy L p2_0 p2_1 p2_2 (fun C1 B2=>re (ih (C1,B2))) v.1 v.2)
def Bf1(p2_0:List Af)(p2_1:Aa)(p2_2:ByteArray)(k:Bx):Int→Prop:=fun o=>k (I o) [(2,Ae p2_1),(3,[S p2_2])]
def Xf [An A Int](L:Nat)(o3:Nat×Cw):A:=
 (sl o3.1 [(lf o3.2.1),
 (lf (-1))])
def Br1:Be:=(Ay 0 (Bl (EV (O62 L) L 8 Cc7.u.r) (E5 Tryz.prog (RS Tryz.f135) k)))
theorem Chf(p2_0:List Af)(p2_1:Aa)(p2_2:ByteArray)(o3:Nat×Cw):kX [.ret,.exit 0] (Bt1 p2_0 p2_1 p2_2) (Br1 L k) o3=ob (Xf L o3) (Bf1 p2_0 p2_1 p2_2 k):=eE (Xf L o3)
def Ad6 [An A Int](L:Nat)(p2_0:List Af)(p2_1:Aa)(p2_2:ByteArray)(nx5:A):A:=
 nx5
def Alx [An A Int](p2_0:List Af)(p2_1:Aa)(p2_2:ByteArray):A:=Ad6 L p2_0 p2_1 p2_2 (bd (Ka L p2_0 p2_1 p2_2 L 0 0) fun o3=>Xf L o3)
def Ws(p2_0:List Af)(p2_1:Aa)(p2_2:ByteArray):Option Int:=Alx L p2_0 p2_1 p2_2
theorem B5m(p2_0:List Af)(p2_1:Aa)(p2_2:ByteArray):YO (O62 L) L 9 135 [.lst false (.t116 p2_0),.clo 136 0 [.loc 3 0]] [(2,Ae p2_1),(3,[S p2_2])] k=ob (Ws L p2_0 p2_1 p2_2) (Bf1 p2_0 p2_1 p2_2 k):=(Dc _ _ _ jn4 _ _ _ _ _ _ _).trans (eE (Ad6 L p2_0 p2_1 p2_2 (ho (B68 L (Br1 L k) p2_0 p2_1 p2_2 L (0,0)) fun o3=>Chf L k p2_0 p2_1 p2_2 o3)))
def Bt2(p3_0:List Ap)(p3_1:Aa)(p3_2:ByteArray)(v:Cw):St:=⟨[(0,.lst false (.t123 p3_0)),(1,.clo 138 0 [.loc 3 0]),(4,I v.1),(7,I (p3_0.length:Int)),(8,I v.2)],[(2,Ae p3_1),(3,[S p3_2])],4⟩
def Wz [An A Cx](L:Nat)(p3_0:List Ap)(p3_1:Aa)(p3_2:ByteArray)(rec:Int→Int→A)(Rn:Int)(Ih:Int):A:=
 (cn (decide (Ih < (p3_0.length:Int)))
 (gq (0≤Ih)
 (gq (Ih < (p3_0.length:Int))
 (cn (((p3_0.getD (Int.toNat Ih) default).Name).toList == p3_2.toList)
 (lf (0,Ih,Ih))
 (rec Rn (Da (Ih+1))))))
 (lf (1,Rn,Ih)))
def Kb(L:Nat)(p3_0:List Ap)(p3_1:Aa)(p3_2:ByteArray):Nat→Int→Int→Option Cx
 |0,_,_=>none
 |n+1,Rn,Ih=>Wz L p3_0 p3_1 p3_2 (Kb L p3_0 p3_1 p3_2 n) Rn Ih
theorem B69(p3_0:List Ap)(p3_1:Aa)(p3_2:ByteArray):LP (EV (O62 L) L 8 Bv1.u.l.u.l.l) [0,1,4,7,8] [2,3] (Bt2 p3_0 p3_1 p3_2) [.ret,.exit 0] (fun n v=>Kb L p3_0 p3_1 p3_2 n v.1 v.2) K:=lE (fun _=>rfl) fun n v ih=>eE (Wz L p3_0 p3_1 p3_2 (fun Rn Ih=>re (ih (Rn,Ih))) v.1 v.2)
def Bf2(p3_0:List Ap)(p3_1:Aa)(p3_2:ByteArray)(k:Bx):Int→Prop:=fun o=>k (I o) [(2,Ae p3_1),(3,[S p3_2])]
def Xh [An A Int](L:Nat)(o5:Nat×Cw):A:=
 (sl o5.1 [(lf o5.2.1),
 (lf (-1))])
def Br3:Be:=(Ay 0 (Bl (EV (O62 L) L 8 Bv1.u.r) (E5 Tryz.prog (RS Tryz.f137) k)))
theorem Chh(p3_0:List Ap)(p3_1:Aa)(p3_2:ByteArray)(o5:Nat×Cw):kX [.ret,.exit 0] (Bt2 p3_0 p3_1 p3_2) (Br3 L k) o5=ob (Xh L o5) (Bf2 p3_0 p3_1 p3_2 k):=eE (Xh L o5)
def Ad7 [An A Int](L:Nat)(p3_0:List Ap)(p3_1:Aa)(p3_2:ByteArray)(nx8:A):A:=
 nx8
def Aly [An A Int](p3_0:List Ap)(p3_1:Aa)(p3_2:ByteArray):A:=Ad7 L p3_0 p3_1 p3_2 (bd (Kb L p3_0 p3_1 p3_2 L 0 0) fun o5=>Xh L o5)
def Wt(p3_0:List Ap)(p3_1:Aa)(p3_2:ByteArray):Option Int:=Aly L p3_0 p3_1 p3_2
theorem B5n(p3_0:List Ap)(p3_1:Aa)(p3_2:ByteArray):YO (O62 L) L 9 137 [.lst false (.t123 p3_0),.clo 138 0 [.loc 3 0]] [(2,Ae p3_1),(3,[S p3_2])] k=ob (Wt L p3_0 p3_1 p3_2) (Bf2 p3_0 p3_1 p3_2 k):=(Dc _ _ _ jn4 _ _ _ _ _ _ _).trans (eE (Ad7 L p3_0 p3_1 p3_2 (ho (B69 L (Br3 L k) p3_0 p3_1 p3_2 L (0,0)) fun o5=>Chh L k p3_0 p3_1 p3_2 o5)))
def Bt3(p4_0:List Ar)(p4_1:Aa)(p4_2:ByteArray)(v:Cw):St:=⟨[(0,.lst false (.t127 p4_0)),(1,.clo 140 0 [.loc 3 0]),(4,I v.1),(7,I (p4_0.length:Int)),(8,I v.2)],[(2,Ae p4_1),(3,[S p4_2])],4⟩
def W0 [An A Cx](L:Nat)(p4_0:List Ar)(p4_1:Aa)(p4_2:ByteArray)(rec:Int→Int→A)(Jj:Int)(Mr:Int):A:=
 (cn (decide (Mr < (p4_0.length:Int)))
 (gq (0≤Mr)
 (gq (Mr < (p4_0.length:Int))
 (cn (((p4_0.getD (Int.toNat Mr) default).Name).toList == p4_2.toList)
 (lf (0,Mr,Mr))
 (rec Jj (Da (Mr+1))))))
 (lf (1,Jj,Mr)))
def Kc(L:Nat)(p4_0:List Ar)(p4_1:Aa)(p4_2:ByteArray):Nat→Int→Int→Option Cx
 |0,_,_=>none
 |n+1,Jj,Mr=>W0 L p4_0 p4_1 p4_2 (Kc L p4_0 p4_1 p4_2 n) Jj Mr
theorem B7a(p4_0:List Ar)(p4_1:Aa)(p4_2:ByteArray):LP (EV (O62 L) L 8 Cc8.u.l.u.l.l) [0,1,4,7,8] [2,3] (Bt3 p4_0 p4_1 p4_2) [.ret,.exit 0] (fun n v=>Kc L p4_0 p4_1 p4_2 n v.1 v.2) K:=lE (fun _=>rfl) fun n v ih=>eE (W0 L p4_0 p4_1 p4_2 (fun Jj Mr=>re (ih (Jj,Mr))) v.1 v.2)
def Bf3(p4_0:List Ar)(p4_1:Aa)(p4_2:ByteArray)(k:Bx):Int→Prop:=fun o=>k (I o) [(2,Ae p4_1),(3,[S p4_2])]
def Uv [An A Int](L:Nat)(o7:Nat×Cw):A:=
 (sl o7.1 [(lf o7.2.1),
 (lf (-1))])
def Blg:Be:=(Ay 0 (Bl (EV (O62 L) L 8 Cc8.u.r) (E5 Tryz.prog (RS Tryz.f139) k)))
theorem B9x(p4_0:List Ar)(p4_1:Aa)(p4_2:ByteArray)(o7:Nat×Cw):kX [.ret,.exit 0] (Bt3 p4_0 p4_1 p4_2) (Blg L k) o7=ob (Uv L o7) (Bf3 p4_0 p4_1 p4_2 k):=eE (Uv L o7)
def Ab4 [An A Int](L:Nat)(p4_0:List Ar)(p4_1:Aa)(p4_2:ByteArray)(nx11:A):A:=
 nx11
def Alz [An A Int](p4_0:List Ar)(p4_1:Aa)(p4_2:ByteArray):A:=Ab4 L p4_0 p4_1 p4_2 (bd (Kc L p4_0 p4_1 p4_2 L 0 0) fun o7=>Uv L o7)
def Wu(p4_0:List Ar)(p4_1:Aa)(p4_2:ByteArray):Option Int:=Alz L p4_0 p4_1 p4_2
theorem B5o(p4_0:List Ar)(p4_1:Aa)(p4_2:ByteArray):YO (O62 L) L 9 139 [.lst false (.t127 p4_0),.clo 140 0 [.loc 3 0]] [(2,Ae p4_1),(3,[S p4_2])] k=ob (Wu L p4_0 p4_1 p4_2) (Bf3 p4_0 p4_1 p4_2 k):=(Dc _ _ _ jn4 _ _ _ _ _ _ _).trans (eE (Ab4 L p4_0 p4_1 p4_2 (ho (B7a L (Blg L k) p4_0 p4_1 p4_2 L (0,0)) fun o7=>B9x L k p4_0 p4_1 p4_2 o7)))
def Ql [An A (ByteArray×Int)](a0:Aa)(a1:ByteArray)(o8:Int):A:=
 (cn (decide (o8≥0))
 (lf ((⟨#[98,101,108,116]⟩:ByteArray),o8))
 (bd (Dy L a0.Queues a1) fun r9=>
 (cn (decide (r9≥0))
 (lf ((⟨#[113,117,101,117,101]⟩:ByteArray),r9))
 (bd (Dy L a0.Streams a1) fun r10=>
 (cn (decide (r10≥0))
 (lf ((⟨#[115,116,114,101,97,109]⟩:ByteArray),r10))
 (bd (Dy L a0.Tallies a1) fun r11=>
 (cn (decide (r11≥0))
 (lf ((⟨#[116,97,108,108,121]⟩:ByteArray),r11))
 (bd (Dy L a0.Levels a1) fun r12=>
 (cn (decide (r12≥0))
 (lf ((⟨#[108,101,118,101,108]⟩:ByteArray),r12))
 (bd (Dy L a0.Counts a1) fun r13=>
 (cn (decide (r13≥0))
 (lf ((⟨#[99,111,117,110,116]⟩:ByteArray),r13))
 (bd (Fv L a0 a1) fun r14=>
 (cn (decide (r14≥0))
 (lf ((⟨#[114,111,117,116,105,110,101]⟩:ByteArray),r14))
 (lf ((⟨#[]⟩:ByteArray),(-1))))))))))))))))
def Blh(a0:Aa)(a1:ByteArray):Bx:=(Cm Tryz.prog (O62 L) (EI (O62 L) L 9) 1 (List.drop 4 c62.x.l.l.ops) ⟨[(39,.clo 140 0 [.loc 3 0]),(38,.lst false (.t127 a0.Belts)),(37,.loc 2 4),(2,.loc 2 0),(3,.loc 3 0),(4,S (⟨#[]⟩:ByteArray)),(5,I 0)],[(2,Ae a0),(3,[S a1])],0⟩ (some 40) (fun st9=>(Bl (EV (O62 L) L 9 c62.x.l.r) (Bl (EV (O62 L) L 9 c62.x.r) (C8 Tryz.prog (RS Tryz.f62) kk))) .normal st9))
theorem B9y(a0:Aa)(a1:ByteArray)(o8:Int):Bf3 a0.Belts a0 a1 (Blh L kk a0 a1) o8=ob (Ql L a0 a1 o8) (Byc kk):=eE (Ql L a0 a1 o8)
def U2 [An A (ByteArray×Int)](L:Nat)(a0:Aa)(a1:ByteArray)(o6:Int)(nx12:A):A:=
 (cn (decide (o6≥0))
 (lf ((⟨#[115,116,111,114,101]⟩:ByteArray),o6))
 nx12)
def Xi [An A (ByteArray×Int)](a0:Aa)(a1:ByteArray)(o6:Int):A:=U2 L a0 a1 o6 (bd (Wu L a0.Belts a0 a1) fun o8=>Ql L a0 a1 o8)
def Br4(a0:Aa)(a1:ByteArray):Bx:=(Cm Tryz.prog (O62 L) (EI (O62 L) L 9) 1 (List.drop 4 c62.w.u.l.l.ops) ⟨[(32,.clo 138 0 [.loc 3 0]),(31,.lst false (.t123 a0.Stores)),(30,.loc 2 3),(2,.loc 2 0),(3,.loc 3 0),(4,S (⟨#[]⟩:ByteArray)),(5,I 0)],[(2,Ae a0),(3,[S a1])],0⟩ (some 33) (fun st9=>(Bl (EV (O62 L) L 9 c62.w.u.l.r) (Bl (EV (O62 L) L 9 c62.w.u.r) (C8 Tryz.prog (RS Tryz.f62) kk))) .normal st9))
theorem Chi(a0:Aa)(a1:ByteArray)(o6:Int):Bf2 a0.Stores a0 a1 (Br4 L kk a0 a1) o6=ob (Xi L a0 a1 o6) (Byc kk):=eE (U2 L a0 a1 o6 (ho (B5o L (Blh L kk a0 a1) a0.Belts a0 a1) fun o8=>B9y L kk a0 a1 o8))
def Xy [An A (ByteArray×Int)](L:Nat)(a0:Aa)(a1:ByteArray)(o4:Int)(nx9:A):A:=
 (cn (decide (o4≥0))
 (lf ((⟨#[114,101,115,111,117,114,99,101]⟩:ByteArray),o4))
 nx9)
def Xg [An A (ByteArray×Int)](a0:Aa)(a1:ByteArray)(o4:Int):A:=Xy L a0 a1 o4 (bd (Wt L a0.Stores a0 a1) fun o6=>Xi L a0 a1 o6)
def Br2(a0:Aa)(a1:ByteArray):Bx:=(Cm Tryz.prog (O62 L) (EI (O62 L) L 9) 1 (List.drop 4 c62.w.l.l.ops) ⟨[(25,.clo 136 0 [.loc 3 0]),(24,.lst false (.t116 a0.Resources)),(23,.loc 2 2),(2,.loc 2 0),(3,.loc 3 0),(4,S (⟨#[]⟩:ByteArray)),(5,I 0)],[(2,Ae a0),(3,[S a1])],0⟩ (some 26) (fun st9=>(Bl (EV (O62 L) L 9 c62.w.l.r) (Bl (EV (O62 L) L 9 c62.w.r) (C8 Tryz.prog (RS Tryz.f62) kk))) .normal st9))
theorem Chg(a0:Aa)(a1:ByteArray)(o4:Int):Bf1 a0.Resources a0 a1 (Br2 L kk a0 a1) o4=ob (Xg L a0 a1 o4) (Byc kk):=eE (Xy L a0 a1 o4 (ho (B5n L (Br4 L kk a0 a1) a0.Stores a0 a1) fun o6=>Chi L kk a0 a1 o6))
def Xx [An A (ByteArray×Int)](L:Nat)(a0:Aa)(a1:ByteArray)(o2:Int)(nx6:A):A:=
 (cn (decide (o2≥0))
 (lf ((⟨#[118,97,114]⟩:ByteArray),o2))
 nx6)
def Xe [An A (ByteArray×Int)](a0:Aa)(a1:ByteArray)(o2:Int):A:=Xx L a0 a1 o2 (bd (Ws L a0.Resources a0 a1) fun o4=>Xg L a0 a1 o4)
def Br0(a0:Aa)(a1:ByteArray):Bx:=(Cm Tryz.prog (O62 L) (EI (O62 L) L 9) 1 (List.drop 4 c62.u.l.l.ops) ⟨[(18,.clo 134 0 [.loc 3 0]),(17,.lst false (.t57 a0.Vars)),(16,.loc 2 1),(2,.loc 2 0),(3,.loc 3 0),(4,S (⟨#[]⟩:ByteArray)),(5,I 0)],[(2,Ae a0),(3,[S a1])],0⟩ (some 19) (fun st9=>(Bl (EV (O62 L) L 9 c62.u.l.r) (Bl (EV (O62 L) L 9 c62.u.r) (C8 Tryz.prog (RS Tryz.f62) kk))) .normal st9))
theorem Che(a0:Aa)(a1:ByteArray)(o2:Int):Bf0 a0.Vars a0 a1 (Br0 L kk a0 a1) o2=ob (Xe L a0 a1 o2) (Byc kk):=eE (Xx L a0 a1 o2 (ho (B5m L (Br2 L kk a0 a1) a0.Resources a0 a1) fun o4=>Chg L kk a0 a1 o4))
def Xw [An A (ByteArray×Int)](L:Nat)(a0:Aa)(a1:ByteArray)(nx3:A):A:=
 nx3
def Asg [An A (ByteArray×Int)](a0:Aa)(a1:ByteArray):A:=Xw L a0 a1 (bd (Wr L a0.Vars a0 a1) fun o2=>Xe L a0 a1 o2)
def Aen(a0:Aa)(a1:ByteArray):Option (ByteArray×Int):=Asg L a0 a1
def X62:Gk:=E2 (fun(x:ByteArray×Int)=> .tup [S x.1,I x.2]) 62 C0 cS (Aen L) fun a0 a1 r h=>hF Tryz.func62 (C:=O62 L) (oS _) L (fun kk=>eE (Xw L a0 a1 (ho (B5l L (Br0 L kk a0 a1) a0.Vars a0 a1) fun o2=>Che L kk a0 a1 o2))) h
def Ane [An A ByteArray](a0:Aa)(a1:ByteArray):A:=
 (bd (Aen L a0 a1) fun r1=>
 (lf r1.1))
def r0(a0:Aa)(a1:ByteArray):Option ByteArray:=Ane L a0 a1
def X32:Gk:=E2 S 32 C0 cS (r0 L) fun a0 a1 r h=>hF Tryz.func32 (oS [X62 L]) L (fun kk=>eE (Ane L a0 a1)) h
def Af7 [An A Bool](L:Nat)(a0:Int)(a1:ByteArray):A:=
 (cn (a0 == 22)
 (lf (a1.toList == (⟨#[114,101,115,111,117,114,99,101]⟩:ByteArray).toList))
 (cn (a0 == 23)
 (lf (a1.toList == (⟨#[115,116,111,114,101]⟩:ByteArray).toList))
 (jp (.cn (a1.toList == (⟨#[114,101,115,111,117,114,99,101]⟩:ByteArray).toList)
 (.lf true)
 (.lf (a1.toList == (⟨#[113,117,101,117,101]⟩:ByteArray).toList))) (fun b1=>
 (lf b1)))))
def Y6(a0:Int)(a1:ByteArray):Option Bool:=Af7 L a0 a1
def X31:Gk:=E2 B 31 (cI .i64) cS (Y6 L) fun a0 a1 r h=>hF Tryz.func31 (oS []) L (fun kk=>eE (Af7 L a0 a1)) h
def u7 [An A Bool](L:Nat)(a0:Int):A:=
 (jp (.cn (a0 == 1)
 (.lf true)
 (.lf (a0 == 3))) (fun b1=>
 (lf b1)))
def Hi(a0:Int):Option Bool:=u7 L a0
def X63:Gk:=E1 B 63 (cI .i64) (Hi L) fun a0 r h=>hF Tryz.func63 (oS []) L (fun kk=>eE (u7 L a0)) h
def Aib [An A Int](a0:Int)(a1:Int):A:=
 (jb (.cn (a0 == 5)
 (.bd (Hi L a1) fun r2=>
 (.lf r2))
 (.lf false)) (fun b1=>
 (cn b1
 (cn b1
 (lf a1)
 (jp (.cn (a0 == 7)
 (.lf (a1 == 1))
 (.lf false)) (fun b3=>
 (cn b3
 (lf 3)
 (jp (.cn (a0 == 8)
 (.lf (a1 == 3))
 (.lf false)) (fun b4=>
 (cn b4
 (lf 1)
 (lf 0))))))))
 (jp (.cn (a0 == 6)
 (.lf (a1 == 2))
 (.lf false)) (fun b5=>
 (cn b5
 (lf a1)
 (jp (.cn (a0 == 7)
 (.lf (a1 == 1))
 (.lf false)) (fun b6=>
 (cn b6
 (lf 3)
 (jp (.cn (a0 == 8)
 (.lf (a1 == 3))
 (.lf false)) (fun b7=>
 (cn b7
 (lf 1)
 (lf 0)))))))))))))
def t5(a0:Int)(a1:Int):Option Int:=Aib L a0 a1
def X33:Gk:=E2 I 33 (cI .i64) (cI .i64) (t5 L) fun a0 a1 r h=>hF Tryz.func33 (oS [X63 L]) L (fun kk=>eE (Aib L a0 a1)) h
noncomputable def c34:EC:=CC Tryz.f34
def O34:Bk:=oL [X63 L]
def Baa:Int→Prop:=fun x=>kk (I x)
def Bs5(a1:Int)(a2:Int)(p802_3:Bool):St:=⟨[(1,I a1),(2,I a2),(6,I 0),(47,B p802_3)],[],0⟩
def Bsf(e0:EC):Be:=(Ay 2 (Ay 0 (Bl (EV (O34 L) L 9 e0) (C8 Tryz.prog (RS Tryz.f34) kk))))
def Tl [An A Int](L:Nat)(a1:Int)(a2:Int)(p802_3:Bool):A:=
 (cn p802_3
 (lf 1)
 (jp (.cn (a1 == 3)
 (.lf (a2 == 1))
 (.lf false)) (fun b9=>
 (cn b9
 (lf 3)
 (lf 0)))))
theorem B3t(a1:Int)(a2:Int)(p802_3:Bool):EV (O34 L) L 9 c34.w.l.u.l.x.l.l.u (Bs5 a1 a2 p802_3) (Bsf L kk c34.w.r)=ob (Tl L a1 a2 p802_3) (Baa kk):=eE (Tl L a1 a2 p802_3)
def Bs6(a1:Int)(a2:Int)(p805_3:Bool):St:=⟨[(1,I a1),(2,I a2),(6,I 0),(78,B p805_3)],[],0⟩
def Bsg(e0:EC):Be:=(Ay 0 (Bl (EV (O34 L) L 9 e0) (C8 Tryz.prog (RS Tryz.f34) kk)))
def Tm [An A Int](L:Nat)(a1:Int)(a2:Int)(p805_3:Bool):A:=
 (cn p805_3
 (jp (.cn (a1 == 2)
 (.lf (a2 == 2))
 (.lf false)) (fun b12=>
 (cn b12
 (lf 2)
 (lf 0))))
 (lf 0))
theorem B3w(a1:Int)(a2:Int)(p805_3:Bool):EV (O34 L) L 9 c34.w.l.u.l.x.x.r (Bs6 a1 a2 p805_3) (Bsg L kk c34.w.r)=ob (Tm L a1 a2 p805_3) (Baa kk):=eE (Tm L a1 a2 p805_3)
def Bbs(a1:Int)(a2:Int)(a0:Int)(p804_4:Bool):St:=⟨[(1,I a1),(2,I a2),(6,I 0),(14,I a0),(68,B p804_4)],[],0⟩
def Baf(e0:EC):Be:=(Ay 0 (Bl (EV (O34 L) L 9 e0) (C8 Tryz.prog (RS Tryz.f34) kk)))
def sx_typing_binary_4 [An A Int](a1:Int)(a2:Int)(a0:Int)(p804_4:Bool)(nx5:Int→Int→Bool→A):A:=
 (cn p804_4
 (jb (.cn (a1 == a2)
 (.bd (Hi L a1) fun r11=>
 (.lf r11))
 (.lf false)) (fun b10=>
 (cn b10
 (lf 2)
 (lf 0))))
 (cn (a0 == 18)
 (nx5 a1 a2 (a0 == 18))
 (nx5 a1 a2 (a0 == 19))))
def i9 [An A Int](a1:Int)(a2:Int)(a0:Int)(p804_4:Bool):A:=sx_typing_binary_4 L a1 a2 a0 p804_4 (fun a1 a2 p805_3=>Tm L a1 a2 p805_3)
theorem B39(a1:Int)(a2:Int)(a0:Int)(p804_4:Bool)(z5:EC):EV (O34 L) L 9 (EC.put (rl [3]) z5 c34.w.l.u.l.x.w.u) (Bbs a1 a2 a0 p804_4) (Baf L kk c34.w.r)= @sx_typing_binary_4 Prop L (anP (Baa kk)) a1 a2 a0 p804_4 (fun a1 a2 p805_3=>EV (O34 L) L 9 z5 (Bs6 a1 a2 p805_3) (Bsg L kk c34.w.r)):=by kernel_rfl
theorem B3v(a1:Int)(a2:Int)(a0:Int)(p804_4:Bool):EV (O34 L) L 9 c34.w.l.u.l.x.w.u (Bbs a1 a2 a0 p804_4) (Baf L kk c34.w.r)=ob (i9 L a1 a2 a0 p804_4) (Baa kk):=Eq.trans (b:=EV (O34 L) L 9 (EC.put (rl [3]) c34.w.l.u.l.x.x.r c34.w.l.u.l.x.w.u) (Bbs a1 a2 a0 p804_4) (Baf L kk c34.w.r)) (by kernel_rfl) ((B39 L kk a1 a2 a0 p804_4 c34.w.l.u.l.x.x.r).trans (eE (sx_typing_binary_4 L a1 a2 a0 p804_4 (fun a1 a2 p805_3=>re (B3w L kk a1 a2 p805_3)))))
def Bbr(a1:Int)(a2:Int)(a0:Int)(p803_4:Bool):St:=⟨[(1,I a1),(2,I a2),(6,I 0),(14,I a0),(62,B p803_4)],[],0⟩
def Bae(e0:EC):Be:=(Ay 0 (Bl (EV (O34 L) L 9 e0) (C8 Tryz.prog (RS Tryz.f34) kk)))
def sx_typing_binary_3 [An A Int](L:Nat)(a1:Int)(a2:Int)(a0:Int)(p803_4:Bool)(nx4:Int→Int→Int→Bool→A):A:=
 (cn p803_4
 (cn (a1 == a2)
 (lf 2)
 (lf 0))
 (cn (a0 == 16)
 (nx4 a1 a2 a0 (a0 == 16))
 (nx4 a1 a2 a0 (a0 == 17))))
def i8 [An A Int](a1:Int)(a2:Int)(a0:Int)(p803_4:Bool):A:=sx_typing_binary_3 L a1 a2 a0 p803_4 (fun a1 a2 a0 p804_4=>i9 L a1 a2 a0 p804_4)
theorem B38(a1:Int)(a2:Int)(a0:Int)(p803_4:Bool)(z4:EC):EV (O34 L) L 9 (EC.put (rl [3]) z4 c34.w.l.u.l.x.u.r) (Bbr a1 a2 a0 p803_4) (Bae L kk c34.w.r)= @sx_typing_binary_3 Prop (anP (Baa kk)) L a1 a2 a0 p803_4 (fun a1 a2 a0 p804_4=>EV (O34 L) L 9 z4 (Bbs a1 a2 a0 p804_4) (Baf L kk c34.w.r)):=by kernel_rfl
theorem B3u(a1:Int)(a2:Int)(a0:Int)(p803_4:Bool):EV (O34 L) L 9 c34.w.l.u.l.x.u.r (Bbr a1 a2 a0 p803_4) (Bae L kk c34.w.r)=ob (i8 L a1 a2 a0 p803_4) (Baa kk):=Eq.trans (b:=EV (O34 L) L 9 (EC.put (rl [3]) c34.w.l.u.l.x.w.u c34.w.l.u.l.x.u.r) (Bbr a1 a2 a0 p803_4) (Bae L kk c34.w.r)) (by kernel_rfl) ((B38 L kk a1 a2 a0 p803_4 c34.w.l.u.l.x.w.u).trans (eE (sx_typing_binary_3 L a1 a2 a0 p803_4 (fun a1 a2 a0 p804_4=>re (B3v L kk a1 a2 a0 p804_4)))))
def Bbq(a1:Int)(a2:Int)(b1:Bool)(a0:Int)(p801_5:Bool):St:=⟨[(1,I a1),(2,I a2),(6,I 0),(7,B b1),(14,I a0),(15,B p801_5)],[],0⟩
def Bad(e0:EC):Be:=(Ay 0 (Bl (EV (O34 L) L 9 e0) (C8 Tryz.prog (RS Tryz.f34) kk)))
def sx_typing_binary_1 [An A Int](a1:Int)(a2:Int)(b1:Bool)(a0:Int)(p801_5:Bool)(nx2:Int→Int→Bool→A)(nx3:Int→Int→Int→Bool→A):A:=
 (cn p801_5
 (jb (.cn (a1 == a2)
 (.bd (Hi L a1) fun r3=>
 (.lf r3))
 (.lf false)) (fun b2=>
 (cn b2
 (lf a1)
 (lf 0))))
 (cn (a0 == 11)
 (cn b1
 (lf 1)
 (bd (Hi L a1) fun r4=>
 (jb (.cn r4
 (.bd (Hi L a2) fun r6=>
 (.lf r6))
 (.lf false)) (fun b5=>
 (jp (.cn b5
 (.lf (a1 != a2))
 (.lf false)) (fun b7=>
 (cn b7
 (lf 3)
 (lf 0))))))))
 (cn (a0 == 12)
 (cn b1
 (nx2 a1 a2 b1)
 (jp (.cn (a1 == 3)
 (.lf (a2 == 3))
 (.lf false)) (fun b8=>
 (nx2 a1 a2 b8))))
 (cn (a0 == 14)
 (nx3 a1 a2 a0 (a0 == 14))
 (nx3 a1 a2 a0 (a0 == 15))))))
def f8 [An A Int](a1:Int)(a2:Int)(b1:Bool)(a0:Int)(p801_5:Bool):A:=sx_typing_binary_1 L a1 a2 b1 a0 p801_5 (fun a1 a2 p802_3=>Tl L a1 a2 p802_3) (fun a1 a2 a0 p803_4=>i8 L a1 a2 a0 p803_4)
theorem B37(a1:Int)(a2:Int)(b1:Bool)(a0:Int)(p801_5:Bool)(z2 z3:EC):EV (O34 L) L 9 (EC.put (rl [9]) z3 (EC.put (rl [6,2,2]) z2 c34.w.l.u.l.u)) (Bbq a1 a2 b1 a0 p801_5) (Bad L kk c34.w.r)= @sx_typing_binary_1 Prop L (anP (Baa kk)) a1 a2 b1 a0 p801_5 (fun a1 a2 p802_3=>EV (O34 L) L 9 z2 (Bs5 a1 a2 p802_3) (Bsf L kk c34.w.r)) (fun a1 a2 a0 p803_4=>EV (O34 L) L 9 z3 (Bbr a1 a2 a0 p803_4) (Bae L kk c34.w.r)):=by kernel_rfl
theorem B3s(a1:Int)(a2:Int)(b1:Bool)(a0:Int)(p801_5:Bool):EV (O34 L) L 9 c34.w.l.u.l.u (Bbq a1 a2 b1 a0 p801_5) (Bad L kk c34.w.r)=ob (f8 L a1 a2 b1 a0 p801_5) (Baa kk):=Eq.trans (b:=EV (O34 L) L 9 (EC.put (rl [9]) c34.w.l.u.l.x.u.r (EC.put (rl [6,2,2]) c34.w.l.u.l.x.l.l.u c34.w.l.u.l.u)) (Bbq a1 a2 b1 a0 p801_5) (Bad L kk c34.w.r)) (by kernel_rfl) ((B37 L kk a1 a2 b1 a0 p801_5 c34.w.l.u.l.x.l.l.u c34.w.l.u.l.x.u.r).trans (eE (sx_typing_binary_1 L a1 a2 b1 a0 p801_5 (fun a1 a2 p802_3=>re (B3t L kk a1 a2 p802_3)) (fun a1 a2 a0 p803_4=>re (B3u L kk a1 a2 a0 p803_4)))))
def sx_typing_binary_0 [An A Int](L:Nat)(a0:Int)(a1:Int)(a2:Int)(nx1:Int→Int→Bool→Int→Bool→A):A:=
 (jp (.cn (a1 == 1)
 (.lf (a2 == 1))
 (.lf false)) (fun b1=>
 (cn (a0 == 9)
 (nx1 a1 a2 b1 a0 (a0 == 9))
 (cn (a0 == 10)
 (nx1 a1 a2 b1 a0 (a0 == 10))
 (cn (a0 == 13)
 (nx1 a1 a2 b1 a0 (a0 == 13))
 (cn (a0 == 20)
 (nx1 a1 a2 b1 a0 (a0 == 20))
 (nx1 a1 a2 b1 a0 (a0 == 21))))))))
def Aol [An A Int](a0:Int)(a1:Int)(a2:Int):A:=sx_typing_binary_0 L a0 a1 a2 (fun a1 a2 b1 a0 p801_5=>f8 L a1 a2 b1 a0 p801_5)
theorem B36(a0:Int)(a1:Int)(a2:Int)(z1:EC):EW (O34 L) L 9 (RS Tryz.f34) (EC.put (rl [4,1,2,1,2]) z1 c34) [I a0,I a1,I a2] kk= @sx_typing_binary_0 Prop (anP (Baa kk)) L a0 a1 a2 (fun a1 a2 b1 a0 p801_5=>EV (O34 L) L 9 z1 (Bbq a1 a2 b1 a0 p801_5) (Bad L kk c34.w.r)):=by kernel_rfl
def Y5(a0:Int)(a1:Int)(a2:Int):Option Int:=Aol L a0 a1 a2
def X34:Gk:=E3 I 34 (cI .i64) (cI .i64) (cI .i64) (Y5 L) fun a0 a1 a2 r h=>hF Tryz.func34 (C:=O34 L) (oS _) L (fun kk=>Eq.trans (b:=EW (O34 L) L 9 (RS Tryz.f34) (EC.put (rl [4,1,2,1,2]) c34.w.l.u.l.u c34) [I a0,I a1,I a2] kk) (by kernel_rfl) ((B36 L kk a0 a1 a2 c34.w.l.u.l.u).trans (eE (sx_typing_binary_0 L a0 a1 a2 (fun a1 a2 b1 a0 p801_5=>re (B3s L kk a1 a2 b1 a0 p801_5)))))) h
def Bvb(F:Aq→Ab→Option Cw):Prop:=∀y0 y1 r,F y0 y1=some r→Ho Tryz.prog 17 [Ew.en y0,Bs.en y1] (fun(x:Cw)=> .tup [I x.1,I x.2]) r
noncomputable def c17:EC:=CC Tryz.f17
def O17(Ht:Aq→Ab→Option Cw)(L:Nat):Bk:=(orc 17 (A2 (fun(x:Cw)=> .tup [I x.1,I x.2]) Ew Bs Ht) (oL [X9 L,X31 L,X32 L,X33 L,X34 L]))
theorem s17(Ht:Aq→Ab→Option Cw)(B40:Bvb Ht)(L:Nat):Ep Tryz.prog (O17 Ht L):=(Gx (a2 _ B40) (oS [X9 L,X31 L,X32 L,X33 L,X34 L]))
def Cju(kk:Ct):Cw→Prop:=fun x=>kk ((fun(x:Cw)=> .tup [I x.1,I x.2]) x)
def Btd(a1:Ab)(a0:Aq)(v:Int×Int×List Int×Int):St:=⟨[(0,.any),(1,.any),(2,.loc 2 0),(3,.loc 3 0),(4,I v.1),(5,I v.2.1),(6,.lst true (.t41 v.2.2.1)),(11,.any),(12,.any),(13,.any),(15,.lst false (.t38 a1.Kids)),(16,I (a1.Kids.length:Int)),(17,I v.2.2.2),(35,.any),(49,.any),(62,.any),(72,.any),(85,.any),(89,.any),(93,.any)],[(2,J4 a0),(3,C5 a1)],0⟩
def W4 [An A (Nat×Int×Int×List Int×Int)](Ht:Aq→Ab→Option Cw)(L:Nat)(a1:Ab)(a0:Aq)(rec:Int→Int→List Int→Int→A)(Ak:Int)(Ag:Int)(Am:List Int)(Va:Int):A:=
 (cn (decide (Va < (a1.Kids.length:Int)))
 (gq (0≤Va)
 (gq (Va < (a1.Kids.length:Int))
 (bd (Ht a0 (Ab.cp (a1.Kids.getD (Int.toNat Va) default))) fun r1=>
 (cn (r1.2 != 0)
 (lf (0,0,r1.2,Am,Va))
 (gq ((Am.length+ [r1.1].length)*8≤140737488355328)
 (gq (Am.length+ [r1.1].length≤maxLen)
 (rec Ak Ag (Am++ [r1.1]) (Da (Va+1)))))))))
 (lf (1,Ak,Ag,Am,Va)))
def Kh(Ht:Aq→Ab→Option Cw)(L:Nat)(a1:Ab)(a0:Aq):Nat→Int→Int→List Int→Int→Option (Nat×Int×Int×List Int×Int)
 |0,_,_,_,_=>none
 |n+1,Ak,Ag,Am,Va=>W4 Ht L a1 a0 (Kh Ht L a1 a0 n) Ak Ag Am Va
theorem B59(Ht:Aq→Ab→Option Cw)(L:Nat)(K:Be)(a1:Ab)(a0:Aq):LP (EV (O17 Ht L) L 9 c17.w.l.u.l.l) [0,1,2,3,4,5,6,11,12,13,15,16,17,35,49,62,72,85,89,93] [2,3] (Btd a1 a0) [.ret,.exit 0] (fun n v=>Kh Ht L a1 a0 n v.1 v.2.1 v.2.2.1 v.2.2.2) K:=lE (fun _=>rfl) fun n v ih=>eE (W4 Ht L a1 a0 (fun Ak Ag Am Va=>re (ih (Ak,Ag,Am,Va))) v.1 v.2.1 v.2.2.1 v.2.2.2)
def Sw [An A Cw](Ht:Aq→Ab→Option Cw)(L:Nat)(a1:Ab)(a0:Aq)(o2:Nat×Int×Int×List Int×Int):A:=
 (sl o2.1 [(lf (o2.2.1,o2.2.2.1)),
 (cn (a1.Op == 3)
 (bd (Aep L a0 a1.Name) fun r3=>
 (cn (!r3.2)
 (lf (0,5))
 (lf (r3.1,0))))
 (cn (decide (a1.Op≥22))
 (bd (r0 L a0.Site a1.Name) fun r4=>
 (bd (Y6 L a1.Op r4) fun r5=>
 (cn (!r5)
 (lf (0,5))
 (lf (1,0)))))
 (cn ((o2.2.2.2.1.length:Int) == 1)
 (gq (0≤0)
 (gq (0 < (o2.2.2.2.1.length:Int))
 (bd (t5 L a1.Op (o2.2.2.2.1.getD 0 default)) fun r6=>
 (cn (r6 == 0)
 (lf (0,10))
 (lf (r6,0))))))
 (cn ((o2.2.2.2.1.length:Int) == 2)
 (gq (0≤0)
 (gq (0 < (o2.2.2.2.1.length:Int))
 (gq (0≤1)
 (gq (1 < (o2.2.2.2.1.length:Int))
 (bd (Y5 L a1.Op (o2.2.2.2.1.getD 0 default) (o2.2.2.2.1.getD 1 default)) fun r7=>
 (cn (r7 == 0)
 (lf (0,10))
 (lf (r7,0))))))))
 (cn (a1.Op == 1)
 (lf (1,0))
 (cn (a1.Op == 2)
 (lf (2,0))
 (cn (a1.Op == 4)
 (lf (3,0))
 (lf (0,10)))))))))])
def Bq4(Ht:Aq→Ab→Option Cw)(L:Nat)(kk:Ct):Be:=(Ay 0 (Bl (EV (O17 Ht L) L 9 c17.w.r) (C8 Tryz.prog (RS Tryz.f17) kk)))
theorem Cgi(Ht:Aq→Ab→Option Cw)(L:Nat)(kk:Ct)(a1:Ab)(a0:Aq)(o2:Nat×Int×Int×List Int×Int):kX [.ret,.exit 0] (Btd a1 a0) (Bq4 Ht L kk) o2=ob (Sw Ht L a1 a0 o2) (Cju kk):=eE (Sw Ht L a1 a0 o2)
def Yd [An A Cw](Ht:Aq→Ab→Option Cw)(L:Nat)(a0:Aq)(a1:Ab)(nx1:A):A:=
 nx1
def Ask [An A Cw](Ht:Aq→Ab→Option Cw)(L:Nat)(a0:Aq)(a1:Ab):A:=Yd Ht L a0 a1 (bd (Kh Ht L a1 a0 L 0 0 [] 0) fun o2=>Sw Ht L a1 a0 o2)
def Akb(Ht:Aq→Ab→Option Cw)(L:Nat)(a0:Aq)(a1:Ab):Option Cw:=Ask Ht L a0 a1
theorem b17(Ht:Aq→Ab→Option Cw)(B40:Bvb Ht)(L:Nat):Bvb (Akb Ht L):=fun a0 a1 r h=>hF Tryz.func17 (s17 Ht B40 L) L (fun kk=>eE (Yd Ht L a0 a1 (ho (B59 Ht L (Bq4 Ht L kk) a1 a0 L (0,0,[],0)) fun o2=>Cgi Ht L kk a1 a0 o2))) h
def Kt:Nat→Aq→Ab→Option Cw
 |0,_,_=>none
 |L+1,a0,a1=>Akb (Kt L) L a0 a1
theorem B4m(L:Nat):Bvb (Kt L):=by
 induction L with
 |zero=>exact fun _ _ _ h=>(by cases h)
 |succ L ih=>
  have i17:=ih
  exact b17 (Kt L) i17 L
def X17(L:Nat):Gk:=E2 (fun(x:Cw)=> .tup [I x.1,I x.2]) 17 Ew Bs (Kt L) (B4m L)
def Akk [An A Cw](a0:Aq)(a1:Ab):A:=
 (bd (P7 L (Ab.cp a1)) fun r1=>
 (cn (r1 != 0)
 (lf (0,r1))
 (bd (Kt L a0 (Ab.cp a1)) fun r2=>
 (lf (r2.1,r2.2)))))
def Aeo(a0:Aq)(a1:Ab):Option Cw:=Akk L a0 a1
def X7:Gk:=E2 (fun(x:Cw)=> .tup [I x.1,I x.2]) 7 Ew Bs (Aeo L) fun a0 a1 r h=>hF Tryz.func7 (oS [X16 L,X17 L]) L (fun kk=>eE (Akk L a0 a1)) h
noncomputable def Cc2:EC:=CC Tryz.f127
def B12:Bk:=oL [X7 L]
def Cej:Int→Prop:=fun x=>kk (I x)
def Bmd(r1:Cw)(a2:List Int)(a1:Ab)(v:Cw):St:=⟨[(0,.any),(1,.any),(2,.any),(4,.any),(6,I v.1),(7,I r1.1),(8,.any),(23,.lst false (.t41 a2)),(24,I (a2.length:Int)),(25,I v.2)],[(4,C5 a1)],0⟩
def J0 [An A Cx](L:Nat)(r1:Cw)(a2:List Int)(a1:Ab)(rec:Int→Int→A)(Ak:Int)(Br:Int):A:=
 (cn (decide (Br < (a2.length:Int)))
 (gq (0≤Br)
 (gq (Br < (a2.length:Int))
 (cn (r1.1 == (a2.getD (Int.toNat Br) default))
 (lf (0,0,Br))
 (rec Ak (Da (Br+1))))))
 (lf (1,Ak,Br)))
def D5(L:Nat)(r1:Cw)(a2:List Int)(a1:Ab):Nat→Int→Int→Option Cx
 |0,_,_=>none
 |n+1,Ak,Br=>J0 L r1 a2 a1 (D5 L r1 a2 a1 n) Ak Br
theorem Byx(r1:Cw)(a2:List Int)(a1:Ab):LP (EV (B12 L) L 9 Cc2.w.u.l.u.l.l) [0,1,2,4,6,7,8,23,24,25] [4] (Bmd r1 a2 a1) [.ret,.exit 0] (fun n v=>D5 L r1 a2 a1 n v.1 v.2) K:=lE (fun _=>rfl) fun n v ih=>eE (J0 L r1 a2 a1 (fun Ak Br=>re (ih (Ak,Br))) v.1 v.2)
def Hf [An A Int](L:Nat)(o2:Nat×Cw):A:=
 (sl o2.1 [(lf o2.2.1),
 (lf 10)])
def Bjr:Be:=(Ay 0 (Bl (EV (B12 L) L 9 Cc2.w.u.r) (C8 Tryz.prog (RS Tryz.f127) kk)))
theorem B78(r1:Cw)(a2:List Int)(a1:Ab)(o2:Nat×Cw):kX [.ret,.exit 0] (Bmd r1 a2 a1) (Bjr L kk) o2=ob (Hf L o2) (Cej kk):=eE (Hf L o2)
def J2 [An A Int](a0:Aj)(a1:Ab)(a2:List Int)(nx1:Cw→A):A:=
 (bd (Aeo L a0.u_env (Ab.cp a1)) fun r1=>
 (cn (r1.2 != 0)
 (lf r1.2)
 (nx1 r1)))
def v5 [An A Int](a0:Aj)(a1:Ab)(a2:List Int):A:=J2 L a0 a1 a2 (fun r1=>bd (D5 L r1 a2 a1 L 0 0) fun o2=>Hf L o2)
def Bw(a0:Aj)(a1:Ab)(a2:List Int):Option Int:=v5 L a0 a1 a2
def Bpg:Gk:=E3 I 127 Dv Bs B3l (Bw L) fun a0 a1 a2 r h=>hF Tryz.func127 (C:=B12 L) (oS _) L (fun kk=>eE (J2 L a0 a1 a2 (fun r1=>ho (Byx L (Bjr L kk) r1 a2 a1 L (0,0)) fun o2=>B78 L kk r1 a2 a1 o2))) h
noncomputable def B3i:EC:=CC Tryz.f124
def Bu9:Bk:=oL [X20 L,Bpg L]
def Cei:Int→Prop:=fun x=>kk (I x)
def Bmc(a0:Aj)(r1:v6)(a1:Ac)(v:Cw):St:=⟨[(0,.ref (F5 a0)),(1,.any),(3,.loc 3 0),(4,I v.1),(5,I r1.1),(6,.any),(27,.lst false (.t57 a0.u_env.Site.Vars)),(28,I (a0.u_env.Site.Vars.length:Int)),(29,I v.2)],[(3,C7 a1)],0⟩
def Lw [An A Cx](a0:Aj)(r1:v6)(a1:Ac)(rec:Int→Int→A)(C2:Int)(Aoy:Int):A:=
 (cn (decide (Aoy < (a0.u_env.Site.Vars.length:Int)))
 (gq (0≤Aoy)
 (gq (Aoy < (a0.u_env.Site.Vars.length:Int))
 (cn (((a0.u_env.Site.Vars.getD (Int.toNat Aoy) default).Name).toList == a1.Name.toList)
 (bd (Bw L a0 (Ab.cp a1.E) [(a0.u_env.Site.Vars.getD (Int.toNat Aoy) default).Type_]) fun r2=>
 (lf (0,r2,Aoy)))
 (rec C2 (Da (Aoy+1))))))
 (lf (1,C2,Aoy)))
def Ey(L:Nat)(a0:Aj)(r1:v6)(a1:Ac):Nat→Int→Int→Option Cx
 |0,_,_=>none
 |n+1,C2,Aoy=>Lw L a0 r1 a1 (Ey L a0 r1 a1 n) C2 Aoy
theorem Byw(a0:Aj)(r1:v6)(a1:Ac):LP (EV (Bu9 L) L 9 B3i.w.l.u.l.l.u.l.l) [0,1,3,4,5,6,27,28,29] [3] (Bmc a0 r1 a1) [.ret,.exit 0] (fun n v=>Ey L a0 r1 a1 n v.1 v.2) K:=lE (fun _=>rfl) fun n v ih=>eE (Lw L a0 r1 a1 (fun C2 Aoy=>re (ih (C2,Aoy))) v.1 v.2)
def Iv [An A Int](L:Nat)(o4:Nat×Cw):A:=
 (sl o4.1 [(lf o4.2.1),
 (lf 5)])
def Bjq:Be:=(Ay 0 (Bl (EV (Bu9 L) L 9 B3i.w.l.u.l.r) (Bl (EV (Bu9 L) L 9 B3i.w.r) (C8 Tryz.prog (RS Tryz.f124) kk))))
theorem B77(a0:Aj)(r1:v6)(a1:Ac)(o4:Nat×Cw):kX [.ret,.exit 0] (Bmc a0 r1 a1) (Bjq L kk) o4=ob (Iv L o4) (Cei kk):=eE (Iv L o4)
def L1 [An A Int](a0:Aj)(a1:Ac)(nx1:v6→A):A:=
 (bd (N3 L a0.u_env.Locals a1.Name) fun r1=>
 (cn (!r1.2)
 (nx1 r1)
 (bd (Bw L a0 (Ab.cp a1.E) [r1.1]) fun r3=>
 (lf r3))))
def Afq [An A Int](a0:Aj)(a1:Ac):A:=L1 L a0 a1 (fun r1=>bd (Ey L a0 r1 a1 L 0 0) fun o4=>Iv L o4)
def P9(a0:Aj)(a1:Ac):Option Int:=Afq L a0 a1
def Cbc:Gk:=E2 I 124 Dv Hj (P9 L) fun a0 a1 r h=>hF Tryz.func124 (C:=Bu9 L) (oS _) L (fun kk=>eE (L1 L a0 a1 (fun r1=>ho (Byw L (Bjq L kk) a0 r1 a1 L (0,0)) fun o4=>B77 L kk a0 r1 a1 o4))) h
def Yl [An A Bool](a0:Aj)(a1:ByteArray)(a2:ByteArray):A:=
 (bd (r0 L a0.u_env.Site a1) fun r1=>
 (lf (r1.toList == a2.toList)))
def F6(a0:Aj)(a1:ByteArray)(a2:ByteArray):Option Bool:=Yl L a0 a1 a2
def B2m:Gk:=E3 B 126 Dv cS cS (F6 L) fun a0 a1 a2 r h=>hF Tryz.func126 (oS [X32 L]) L (fun kk=>eE (Yl L a0 a1 a2)) h
noncomputable def Cde:EC:=CC Tryz.f172
def B18:Bk:=oL [X20 L]
def Ceq:Int→Prop:=fun x=>kk (I x)
def Bmn(r1:v6)(a2:List Int)(v:Cw):St:=⟨[(0,.any),(1,.any),(2,.any),(6,I v.1),(7,I r1.1),(8,.any),(21,.lst false (.t41 a2)),(22,I (a2.length:Int)),(23,I v.2)],[],0⟩
def I8 [An A Cx](L:Nat)(r1:v6)(a2:List Int)(rec:Int→Int→A)(Ak:Int)(Br:Int):A:=
 (cn (decide (Br < (a2.length:Int)))
 (gq (0≤Br)
 (gq (Br < (a2.length:Int))
 (cn (r1.1 == (a2.getD (Int.toNat Br) default))
 (lf (0,0,Br))
 (rec Ak (Da (Br+1))))))
 (lf (1,Ak,Br)))
def Dw(L:Nat)(r1:v6)(a2:List Int):Nat→Int→Int→Option Cx
 |0,_,_=>none
 |n+1,Ak,Br=>I8 L r1 a2 (Dw L r1 a2 n) Ak Br
theorem By7(r1:v6)(a2:List Int):LP (EV (B18 L) L 9 Cde.w.l.u.l.l) [0,1,2,6,7,8,21,22,23] [] (Bmn r1 a2) [.ret,.exit 0] (fun n v=>Dw L r1 a2 n v.1 v.2) K:=lE (fun _=>rfl) fun n v ih=>eE (I8 L r1 a2 (fun Ak Br=>re (ih (Ak,Br))) v.1 v.2)
def Gq [An A Int](L:Nat)(o2:Nat×Cw):A:=
 (sl o2.1 [(lf o2.2.1),
 (lf 10)])
def Bj9:Be:=(Ay 0 (Bl (EV (B18 L) L 9 Cde.w.r) (C8 Tryz.prog (RS Tryz.f172) kk)))
theorem B8q(r1:v6)(a2:List Int)(o2:Nat×Cw):kX [.ret,.exit 0] (Bmn r1 a2) (Bj9 L kk) o2=ob (Gq L o2) (Ceq kk):=eE (Gq L o2)
def Ji [An A Int](a0:Aj)(a1:ByteArray)(a2:List Int)(nx1:v6→A):A:=
 (bd (N3 L a0.u_env.Locals a1) fun r1=>
 (nx1 r1))
def m4 [An A Int](a0:Aj)(a1:ByteArray)(a2:List Int):A:=Ji L a0 a1 a2 (fun r1=>bd (Dw L r1 a2 L 0 0) fun o2=>Gq L o2)
def Rw(a0:Aj)(a1:ByteArray)(a2:List Int):Option Int:=m4 L a0 a1 a2
def Cbq:Gk:=E3 I 172 Dv cS B3l (Rw L) fun a0 a1 a2 r h=>hF Tryz.func172 (C:=B18 L) (oS _) L (fun kk=>eE (Ji L a0 a1 a2 (fun r1=>ho (By7 L (Bj9 L kk) r1 a2 L (0,0)) fun o2=>B8q L kk r1 a2 o2))) h
def Uk [An A Int](a0:Aj)(a1:ByteArray)(a2:Bool)(a3:List Int):A:=
 (bd (N3 L a0.u_env.Locals a1) fun r1=>
 (jp (.cn (!r1.2)
 (.lf true)
 (.lf (!a2))) (fun b2=>
 (cn b2
 (lf 5)
 (bd (Rw L a0 a1 a3) fun r3=>
 (lf r3))))))
def Hr(a0:Aj)(a1:ByteArray)(a2:Bool)(a3:List Int):Option Int:=Uk L a0 a1 a2 a3
def Cbd:Gk:=E4 I 125 Dv cS cB B3l (Hr L) fun a0 a1 a2 a3 r h=>hF Tryz.func125 (oS [X20 L,Cbq L]) L (fun kk=>eE (Uk L a0 a1 a2 a3)) h
noncomputable def Cc3:EC:=CC Tryz.f128
def B13:Bk:=oL [B2m L,Bpg L]
def Cek:Int→Prop:=fun x=>kk (I x)
def Bme(a0:Aj)(a3:List Ab)(a1:Ac)(v:Cw):St:=⟨[(0,.ref (F5 a0)),(1,.any),(2,.any),(3,.any),(5,.any),(8,I v.1),(18,.lst false (.t38 a3)),(19,I (a3.length:Int)),(20,I v.2)],[(5,C7 a1)],0⟩
def Jz [An A Cx](a0:Aj)(a3:List Ab)(a1:Ac)(rec:Int→Int→A)(C2:Int)(Ib:Int):A:=
 (cn (decide (Ib < (a3.length:Int)))
 (gq (0≤Ib)
 (gq (Ib < (a3.length:Int))
 (bd (Bw L a0 (Ab.cp (a3.getD (Int.toNat Ib) default)) [1]) fun r2=>
 (cn (r2 != 0)
 (lf (0,r2,Ib))
 (rec C2 (Da (Ib+1)))))))
 (lf (1,C2,Ib)))
def D4(L:Nat)(a0:Aj)(a3:List Ab)(a1:Ac):Nat→Int→Int→Option Cx
 |0,_,_=>none
 |n+1,C2,Ib=>Jz L a0 a3 a1 (D4 L a0 a3 a1 n) C2 Ib
theorem Byy(a0:Aj)(a3:List Ab)(a1:Ac):LP (EV (B13 L) L 9 Cc3.w.l.u.l.l) [0,1,2,3,5,8,18,19,20] [5] (Bme a0 a3 a1) [.ret,.exit 0] (fun n v=>D4 L a0 a3 a1 n v.1 v.2) K:=lE (fun _=>rfl) fun n v ih=>eE (Jz L a0 a3 a1 (fun C2 Ib=>re (ih (C2,Ib))) v.1 v.2)
def He [An A Int](L:Nat)(o3:Nat×Cw):A:=
 (sl o3.1 [(lf o3.2.1),
 (lf 0)])
def Bjs:Be:=(Ay 0 (Bl (EV (B13 L) L 9 Cc3.w.r) (C8 Tryz.prog (RS Tryz.f128) kk)))
theorem B79(a0:Aj)(a3:List Ab)(a1:Ac)(o3:Nat×Cw):kX [.ret,.exit 0] (Bme a0 a3 a1) (Bjs L kk) o3=ob (He L o3) (Cek kk):=eE (He L o3)
def J1 [An A Int](a0:Aj)(a1:Ac)(a2:ByteArray)(a3:List Ab)(nx1:A):A:=
 (bd (F6 L a0 a1.Name a2) fun r1=>
 (cn (!r1)
 (lf 5)
 nx1))
def u9 [An A Int](a0:Aj)(a1:Ac)(a2:ByteArray)(a3:List Ab):A:=J1 L a0 a1 a2 a3 (bd (D4 L a0 a3 a1 L 0 0) fun o3=>He L o3)
def B6(a0:Aj)(a1:Ac)(a2:ByteArray)(a3:List Ab):Option Int:=u9 L a0 a1 a2 a3
def Cbe:Gk:=E4 I 128 Dv Hj cS Cjp (B6 L) fun a0 a1 a2 a3 r h=>hF Tryz.func128 (C:=B13 L) (oS _) L (fun kk=>eE (J1 L a0 a1 a2 a3 (ho (Byy L (Bjs L kk) a0 a3 a1 L (0,0)) fun o3=>B79 L kk a0 a3 a1 o3))) h
noncomputable def Cdn:EC:=CC Tryz.f194
noncomputable def Cdf:EC:=CC Tryz.f173
def Bf7(L:Nat):Bk:=oL []
def Cer:v6→Prop:=fun x=>kk ((fun(x:v6)=> .tup [I x.1,B x.2]) x)
def Bmo(p1_0:List Bg)(p1_1:Ad)(p1_2:ByteArray)(p1_3:ByteArray)(v:Cw):St:=⟨[(0,.lst false (.t139 p1_0)),(1,.clo 195 0 [.loc 4 0,.loc 5 0]),(4,I v.1),(7,I (p1_0.length:Int)),(8,I v.2)],[(3,Az p1_1),(4,[S p1_2]),(5,[S p1_3])],6⟩
def Ze [An A Cx](L:Nat)(p1_0:List Bg)(p1_1:Ad)(p1_2:ByteArray)(p1_3:ByteArray)(rec:Int→Int→A)(Ag:Int)(Ah:Int):A:=
 (cn (decide (Ah < (p1_0.length:Int)))
 (gq (0≤Ah)
 (gq (Ah < (p1_0.length:Int))
 (jp (.cn (((p1_0.getD (Int.toNat Ah) default).From).toList == p1_2.toList)
 (.lf (((p1_0.getD (Int.toNat Ah) default).To).toList == p1_3.toList))
 (.lf false)) (fun b1=>
 (cn b1
 (lf (0,Ah,Ah))
 (rec Ag (Da (Ah+1))))))))
 (lf (1,Ag,Ah)))
def L8(L:Nat)(p1_0:List Bg)(p1_1:Ad)(p1_2:ByteArray)(p1_3:ByteArray):Nat→Int→Int→Option Cx
 |0,_,_=>none
 |n+1,Ag,Ah=>Ze L p1_0 p1_1 p1_2 p1_3 (L8 L p1_0 p1_1 p1_2 p1_3 n) Ag Ah
theorem By8(p1_0:List Bg)(p1_1:Ad)(p1_2:ByteArray)(p1_3:ByteArray):LP (EV (Bf7 L) L 8 Cdn.u.l.u.l.l) [0,1,4,7,8] [3,4,5] (Bmo p1_0 p1_1 p1_2 p1_3) [.ret,.exit 0] (fun n v=>L8 L p1_0 p1_1 p1_2 p1_3 n v.1 v.2) K:=lE (fun _=>rfl) fun n v ih=>eE (Ze L p1_0 p1_1 p1_2 p1_3 (fun Ag Ah=>re (ih (Ag,Ah))) v.1 v.2)
def A8v(p1_0:List Bg)(p1_1:Ad)(p1_2:ByteArray)(p1_3:ByteArray)(k:Bx):Int→Prop:=fun o=>k (I o) [(3,Az p1_1),(4,[S p1_2]),(5,[S p1_3])]
def Zn [An A Int](L:Nat)(o2:Nat×Cw):A:=
 (sl o2.1 [(lf o2.2.1),
 (lf (-1))])
def Bka:Be:=(Ay 0 (Bl (EV (Bf7 L) L 8 Cdn.u.r) (E5 Tryz.prog (RS Tryz.f194) k)))
theorem B8r(p1_0:List Bg)(p1_1:Ad)(p1_2:ByteArray)(p1_3:ByteArray)(o2:Nat×Cw):kX [.ret,.exit 0] (Bmo p1_0 p1_1 p1_2 p1_3) (Bka L k) o2=ob (Zn L o2) (A8v p1_0 p1_1 p1_2 p1_3 k):=eE (Zn L o2)
def Agy [An A Int](L:Nat)(p1_0:List Bg)(p1_1:Ad)(p1_2:ByteArray)(p1_3:ByteArray)(nx2:A):A:=
 nx2
def Aon [An A Int](p1_0:List Bg)(p1_1:Ad)(p1_2:ByteArray)(p1_3:ByteArray):A:=Agy L p1_0 p1_1 p1_2 p1_3 (bd (L8 L p1_0 p1_1 p1_2 p1_3 L 0 0) fun o2=>Zn L o2)
def Aga(p1_0:List Bg)(p1_1:Ad)(p1_2:ByteArray)(p1_3:ByteArray):Option Int:=Aon L p1_0 p1_1 p1_2 p1_3
theorem Bxg(p1_0:List Bg)(p1_1:Ad)(p1_2:ByteArray)(p1_3:ByteArray):YO (Bf7 L) L 9 194 [.lst false (.t139 p1_0),.clo 195 0 [.loc 4 0,.loc 5 0]] [(3,Az p1_1),(4,[S p1_2]),(5,[S p1_3])] k=ob (Aga L p1_0 p1_1 p1_2 p1_3) (A8v p1_0 p1_1 p1_2 p1_3 k):=(Dc _ _ _ jn4 _ _ _ _ _ _ _).trans (eE (Agy L p1_0 p1_1 p1_2 p1_3 (ho (By8 L (Bka L k) p1_0 p1_1 p1_2 p1_3 L (0,0)) fun o2=>B8r L k p1_0 p1_1 p1_2 p1_3 o2)))
def Ty [An A v6](L:Nat)(a0:Ad)(o3:Int):A:=
 (cn (decide (o3 < 0))
 (lf (0,false))
 (gq (0≤o3)
 (gq (o3 < (a0.Links.length:Int))
 (lf ((a0.Links.getD (Int.toNat o3) default).Delay,true)))))
def Bkb(a0:Ad)(a1:ByteArray)(a2:ByteArray):Bx:=(Cm Tryz.prog (Bf7 L) (EI (Bf7 L) L 9) 1 (List.drop 4 Cdf.u.l.ops) ⟨[(11,.clo 195 0 [.loc 4 0,.loc 5 0]),(10,.lst false (.t139 a0.Links)),(9,.loc 3 3),(3,.loc 3 0),(4,.loc 4 0),(5,.loc 5 0),(6,I 0),(7,B false)],[(3,Az a0),(4,[S a1]),(5,[S a2])],0⟩ (some 12) (fun st9=>(Bl (EV (Bf7 L) L 9 Cdf.u.r) (C8 Tryz.prog (RS Tryz.f173) kk)) .normal st9))
theorem B8s(a0:Ad)(a1:ByteArray)(a2:ByteArray)(o3:Int):A8v a0.Links a0 a1 a2 (Bkb L kk a0 a1 a2) o3=ob (Ty L a0 o3) (Cer kk):=eE (Ty L a0 o3)
def Zw [An A v6](L:Nat)(a0:Ad)(a1:ByteArray)(a2:ByteArray)(nx3:A):A:=
 nx3
def Aun [An A v6](a0:Ad)(a1:ByteArray)(a2:ByteArray):A:=Zw L a0 a1 a2 (bd (Aga L a0.Links a0 a1 a2) fun o3=>Ty L a0 o3)
def Ag8(a0:Ad)(a1:ByteArray)(a2:ByteArray):Option v6:=Aun L a0 a1 a2
def Cbr:Gk:=E3 (fun(x:v6)=> .tup [I x.1,B x.2]) 173 D1 cS cS (Ag8 L) fun a0 a1 a2 r h=>hF Tryz.func173 (C:=Bf7 L) (oS _) L (fun kk=>eE (Zw L a0 a1 a2 (ho (Bxg L (Bkb L kk a0 a1 a2) a0.Links a0 a1 a2) fun o3=>B8s L kk a0 a1 a2 o3))) h
noncomputable def Cc5:EC:=CC Tryz.f131
def B14:Bk:=oL [Bpg L]
def Cem:Int→Prop:=fun x=>kk (I x)
def Bmg(a0:Aj)(a2:Ac)(a1:Ai)(v:Cw):St:=⟨[(0,.ref (F5 a0)),(1,.any),(2,.any),(4,.loc 4 0),(5,.loc 5 0),(6,I v.1),(18,.lst false (.t38 a2.Args)),(19,I (a2.Args.length:Int)),(20,I v.2)],[(4,B3 a1),(5,C7 a2)],0⟩
def Kw [An A Cx](a0:Aj)(a2:Ac)(a1:Ai)(rec:Int→Int→A)(C2:Int)(Ib:Int):A:=
 (cn (decide (Ib < (a2.Args.length:Int)))
 (gq (0≤Ib)
 (gq (Ib < (a2.Args.length:Int))
 (gq (0≤Ib)
 (gq (Ib < (a1.Params.length:Int))
 (bd (Bw L a0 (Ab.cp (a2.Args.getD (Int.toNat Ib) default)) [(a1.Params.getD (Int.toNat Ib) default).Type_]) fun r1=>
 (cn (r1 != 0)
 (lf (0,r1,Ib))
 (rec C2 (Da (Ib+1)))))))))
 (lf (1,C2,Ib)))
def Ef(L:Nat)(a0:Aj)(a2:Ac)(a1:Ai):Nat→Int→Int→Option Cx
 |0,_,_=>none
 |n+1,C2,Ib=>Kw L a0 a2 a1 (Ef L a0 a2 a1 n) C2 Ib
theorem By0(a0:Aj)(a2:Ac)(a1:Ai):LP (EV (B14 L) L 9 Cc5.w.l.u.l.l) [0,1,2,4,5,6,18,19,20] [4,5] (Bmg a0 a2 a1) [.ret,.exit 0] (fun n v=>Ef L a0 a2 a1 n v.1 v.2) K:=lE (fun _=>rfl) fun n v ih=>eE (Kw L a0 a2 a1 (fun C2 Ib=>re (ih (C2,Ib))) v.1 v.2)
def H0 [An A Int](a0:Aj)(a2:Ac)(o2:Nat×Cw):A:=
 (sl o2.1 [(lf o2.2.1),
 (bd (Bw L a0 (Ab.cp a2.E) [3]) fun r3=>
 (lf r3))])
def Bjv:Be:=(Ay 0 (Bl (EV (B14 L) L 9 Cc5.w.r) (C8 Tryz.prog (RS Tryz.f131) kk)))
theorem B8c(a0:Aj)(a2:Ac)(a1:Ai)(o2:Nat×Cw):kX [.ret,.exit 0] (Bmg a0 a2 a1) (Bjv L kk) o2=ob (H0 L a0 a2 o2) (Cem kk):=eE (H0 L a0 a2 o2)
def K5 [An A Int](L:Nat)(a0:Aj)(a1:Ai)(a2:Ac)(nx1:A):A:=
 (cn ((a2.Args.length:Int) != (a1.Params.length:Int))
 (lf 8)
 nx1)
def Acf [An A Int](a0:Aj)(a1:Ai)(a2:Ac):A:=K5 L a0 a1 a2 (bd (Ef L a0 a2 a1 L 0 0) fun o2=>H0 L a0 a2 o2)
def Hq(a0:Aj)(a1:Ai)(a2:Ac):Option Int:=Acf L a0 a1 a2
def B2n:Gk:=E3 I 131 Dv w3 Hj (Hq L) fun a0 a1 a2 r h=>hF Tryz.func131 (C:=B14 L) (oS _) L (fun kk=>eE (K5 L a0 a1 a2 (ho (By0 L (Bjv L kk) a0 a2 a1 L (0,0)) fun o2=>B8c L kk a0 a2 a1 o2))) h
def Ul [An A Int](a0:Aj)(a1:Ac):A:=
 (bd (Wl L a0.u_m a1.Of) fun r1=>
 (cn (decide (r1 < 0))
 (lf 5)
 (gq (0≤r1)
 (gq (r1 < (a0.u_m.Sites.length:Int))
 (bd (Fv L (a0.u_m.Sites.getD (Int.toNat r1) default) a1.Name) fun r2=>
 (cn (decide (r2 < 0))
 (lf 5)
 (bd (Ag8 L a0.u_m a0.u_env.Site.Name a1.Of) fun r3=>
 (cn (!r3.2)
 (lf 16)
 (gq (0≤r1)
 (gq (r1 < (a0.u_m.Sites.length:Int))
 (gq (0≤r2)
 (gq (r2 < ((((a0.u_m.Sites.getD (Int.toNat r1) default).Routines).length:Nat):Int))
 (bd (Hq L a0 (((a0.u_m.Sites.getD (Int.toNat r1) default).Routines).getD (Int.toNat r2) default) (Ac.cp a1)) fun r4=>
 (lf r4))))))))))))))
def Oz(a0:Aj)(a1:Ac):Option Int:=Ul L a0 a1
def Cbf:Gk:=E2 I 129 Dv Hj (Oz L) fun a0 a1 r h=>hF Tryz.func129 (oS [B2g L,Bm7 L,B2n L,Cbr L]) L (fun kk=>eE (Ul L a0 a1)) h
end Go.Proofs.YtogleahbpobaiaaGreat.Ev
