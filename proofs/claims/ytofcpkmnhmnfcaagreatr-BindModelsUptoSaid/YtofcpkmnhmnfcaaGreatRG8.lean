import Derived.Test.YtofcpkmnhmnfcaaGreatRG3
import Derived.Test.YtofcpkmnhmnfcaaGreatRG4
import Derived.Test.YtofcpkmnhmnfcaaGreatRG5
import Derived.Test.YtofcpkmnhmnfcaaGreatRG7
namespace Go.Proofs.YtofcpkmnhmnfcaaGreatR.Ev
open Go An
set_option maxRecDepth 100000
set_option maxHeartbeats 4000000
set_option linter.unusedVariables false
set_option linter.unusedSimpArgs false
set_option linter.unnecessarySimpa false
noncomputable section
variable {A:Type} (L n:Nat) (kk:Cz) (K:Ba) (k:Bq)
def c26:=CC Tryz.f26
def Ckd:=CC Tryz.f163
def Cke:=CC Tryz.f167
def c93:=CC Tryz.f93
def O93:Bd:=oL [B96 L,Br1 L]
def B4f:(ByteArray×Int)→Prop:=fun x=>kk ((fun(x:ByteArray×Int)=> .tup [S x.1,I x.2]) x)
def Bze(p1_0:List Ag)(p1_1:Aa)(p1_2:ByteArray)(v:Cs):St:=⟨[(0,lv (.t39 p1_0)),(1,.clo 162 0 [.loc 3 0]),(4,I v.1),(7,I (p1_0.length:Int)),(8,I v.2)],[(2,(Af p1_1)),(3,[S p1_2])],4⟩
def m0 [An A Cm](L:Nat)(p1_0:List Ag)(p1_1:Aa)(p1_2:ByteArray)(rec:Int→Int→A)(Ai:Int)(Aj:Int):A:=
 (lw Aj p1_0
 (cn (((p1_0.getD (Int.toNat Aj) default).Name).toList == p1_2.toList)
 (lf (0,Aj,Aj))
 (rec Ai (B7 (Aj+1))))
 (lf (1,Ai,Aj)))
def Lf(L:Nat)(p1_0:List Ag)(p1_1:Aa)(p1_2:ByteArray):Nat→Int→Int→Option Cm
 |0,_,_=>none
 |n+1,Ai,Aj=>m0 L p1_0 p1_1 p1_2 (Lf L p1_0 p1_1 p1_2 n) Ai Aj
theorem Cdv(p1_0:List Ag)(p1_1:Aa)(p1_2:ByteArray):LP (EV (O93 L) L 8 c26.u.l.u.l.l) [0,1,4,7,8] [2,3] (Bze p1_0 p1_1 p1_2) [.ret,.exit 0] (fun n v=>Lf L p1_0 p1_1 p1_2 n v.1 v.2) K:=lE (fun _=>rfl) fun n v ih=>eE (m0 L p1_0 p1_1 p1_2 (fun Ai Aj=>re (ih (Ai,Aj))) v.1 v.2)
def Bjb(p1_0:List Ag)(p1_1:Aa)(p1_2:ByteArray)(k:Bq):Int→Prop:=fun o=>k (I o) [(2,(Af p1_1)),(3,[S p1_2])]
def t8 [An A Int](L:Nat)(o1:Nat×Cs):A:=
 (sl o1.1 [(lf o1.2.1),
 (lf (-1))])
def Bxh:Ba:=(Av 0 (Be (EV (O93 L) L 8 c26.u.r) (Eb Tryz.prog (RS Tryz.f26) k)))
theorem Cnx(p1_0:List Ag)(p1_1:Aa)(p1_2:ByteArray)(o1:Nat×Cs):kX [.ret,.exit 0] (Bze p1_0 p1_1 p1_2) (Bxh L k) o1=ob (t8 L o1) (Bjb p1_0 p1_1 p1_2 k):=eE (t8 L o1)
def Apu [An A Int](p1_0:List Ag)(p1_1:Aa)(p1_2:ByteArray):A:=(bd (Lf L p1_0 p1_1 p1_2 L 0 0) fun o1=>t8 L o1)
def g6(p1_0:List Ag)(p1_1:Aa)(p1_2:ByteArray):Option Int:=Apu L p1_0 p1_1 p1_2
theorem Cbz(p1_0:List Ag)(p1_1:Aa)(p1_2:ByteArray):YO (O93 L) L 9 26 [lv (.t39 p1_0),.clo 162 0 [.loc 3 0]] [(2,(Af p1_1)),(3,[S p1_2])] k=ob (g6 L p1_0 p1_1 p1_2) (Bjb p1_0 p1_1 p1_2 k):=(C3 _ _ _ jn4 _ _ _ _ _ _ _).trans (eE ((ho (Cdv L (Bxh L k) p1_0 p1_1 p1_2 L (0,0)) fun o1=>Cnx L k p1_0 p1_1 p1_2 o1)))
def Bzf(p2_0:List Ah)(p2_1:Aa)(p2_2:ByteArray)(v:Cs):St:=⟨[(0,lv (.t110 p2_0)),(1,.clo 164 0 [.loc 3 0]),(4,I v.1),(7,I (p2_0.length:Int)),(8,I v.2)],[(2,(Af p2_1)),(3,[S p2_2])],4⟩
def m3 [An A Cm](L:Nat)(p2_0:List Ah)(p2_1:Aa)(p2_2:ByteArray)(rec:Int→Int→A)(Bt:Int)(B1:Int):A:=
 (lw B1 p2_0
 (cn (((p2_0.getD (Int.toNat B1) default).Name).toList == p2_2.toList)
 (lf (0,B1,B1))
 (rec Bt (B7 (B1+1))))
 (lf (1,Bt,B1)))
def Lg(L:Nat)(p2_0:List Ah)(p2_1:Aa)(p2_2:ByteArray):Nat→Int→Int→Option Cm
 |0,_,_=>none
 |n+1,Bt,B1=>m3 L p2_0 p2_1 p2_2 (Lg L p2_0 p2_1 p2_2 n) Bt B1
theorem Cdw(p2_0:List Ah)(p2_1:Aa)(p2_2:ByteArray):LP (EV (O93 L) L 8 Ckd.u.l.u.l.l) [0,1,4,7,8] [2,3] (Bzf p2_0 p2_1 p2_2) [.ret,.exit 0] (fun n v=>Lg L p2_0 p2_1 p2_2 n v.1 v.2) K:=lE (fun _=>rfl) fun n v ih=>eE (m3 L p2_0 p2_1 p2_2 (fun Bt B1=>re (ih (Bt,B1))) v.1 v.2)
def Bjc(p2_0:List Ah)(p2_1:Aa)(p2_2:ByteArray)(k:Bq):Int→Prop:=fun o=>k (I o) [(2,(Af p2_1)),(3,[S p2_2])]
def u5 [An A Int](L:Nat)(o3:Nat×Cs):A:=
 (sl o3.1 [(lf o3.2.1),
 (lf (-1))])
def Bxj:Ba:=(Av 0 (Be (EV (O93 L) L 8 Ckd.u.r) (Eb Tryz.prog (RS Tryz.f163) k)))
theorem Cnz(p2_0:List Ah)(p2_1:Aa)(p2_2:ByteArray)(o3:Nat×Cs):kX [.ret,.exit 0] (Bzf p2_0 p2_1 p2_2) (Bxj L k) o3=ob (u5 L o3) (Bjc p2_0 p2_1 p2_2 k):=eE (u5 L o3)
def Apv [An A Int](p2_0:List Ah)(p2_1:Aa)(p2_2:ByteArray):A:=(bd (Lg L p2_0 p2_1 p2_2 L 0 0) fun o3=>u5 L o3)
def g7(p2_0:List Ah)(p2_1:Aa)(p2_2:ByteArray):Option Int:=Apv L p2_0 p2_1 p2_2
theorem Cb0(p2_0:List Ah)(p2_1:Aa)(p2_2:ByteArray):YO (O93 L) L 9 163 [lv (.t110 p2_0),.clo 164 0 [.loc 3 0]] [(2,(Af p2_1)),(3,[S p2_2])] k=ob (g7 L p2_0 p2_1 p2_2) (Bjc p2_0 p2_1 p2_2 k):=(C3 _ _ _ jn4 _ _ _ _ _ _ _).trans (eE ((ho (Cdw L (Bxj L k) p2_0 p2_1 p2_2 L (0,0)) fun o3=>Cnz L k p2_0 p2_1 p2_2 o3)))
def Bzg(p3_0:List Ar)(p3_1:Aa)(p3_2:ByteArray)(v:Cs):St:=⟨[(0,lv (.t113 p3_0)),(1,.clo 166 0 [.loc 3 0]),(4,I v.1),(7,I (p3_0.length:Int)),(8,I v.2)],[(2,(Af p3_1)),(3,[S p3_2])],4⟩
def m4 [An A Cm](L:Nat)(p3_0:List Ar)(p3_1:Aa)(p3_2:ByteArray)(rec:Int→Int→A)(Ef:Int)(C7:Int):A:=
 (lw C7 p3_0
 (cn (((p3_0.getD (Int.toNat C7) default).Name).toList == p3_2.toList)
 (lf (0,C7,C7))
 (rec Ef (B7 (C7+1))))
 (lf (1,Ef,C7)))
def Lh(L:Nat)(p3_0:List Ar)(p3_1:Aa)(p3_2:ByteArray):Nat→Int→Int→Option Cm
 |0,_,_=>none
 |n+1,Ef,C7=>m4 L p3_0 p3_1 p3_2 (Lh L p3_0 p3_1 p3_2 n) Ef C7
theorem Cdx(p3_0:List Ar)(p3_1:Aa)(p3_2:ByteArray):LP (EV (O93 L) L 8 B06.u.l.u.l.l) [0,1,4,7,8] [2,3] (Bzg p3_0 p3_1 p3_2) [.ret,.exit 0] (fun n v=>Lh L p3_0 p3_1 p3_2 n v.1 v.2) K:=lE (fun _=>rfl) fun n v ih=>eE (m4 L p3_0 p3_1 p3_2 (fun Ef C7=>re (ih (Ef,C7))) v.1 v.2)
def Bjd(p3_0:List Ar)(p3_1:Aa)(p3_2:ByteArray)(k:Bq):Int→Prop:=fun o=>k (I o) [(2,(Af p3_1)),(3,[S p3_2])]
def u7 [An A Int](L:Nat)(o5:Nat×Cs):A:=
 (sl o5.1 [(lf o5.2.1),
 (lf (-1))])
def Bxl:Ba:=(Av 0 (Be (EV (O93 L) L 8 B06.u.r) (Eb Tryz.prog (RS Tryz.f165) k)))
theorem Cn1(p3_0:List Ar)(p3_1:Aa)(p3_2:ByteArray)(o5:Nat×Cs):kX [.ret,.exit 0] (Bzg p3_0 p3_1 p3_2) (Bxl L k) o5=ob (u7 L o5) (Bjd p3_0 p3_1 p3_2 k):=eE (u7 L o5)
def Apw [An A Int](p3_0:List Ar)(p3_1:Aa)(p3_2:ByteArray):A:=(bd (Lh L p3_0 p3_1 p3_2 L 0 0) fun o5=>u7 L o5)
def g8(p3_0:List Ar)(p3_1:Aa)(p3_2:ByteArray):Option Int:=Apw L p3_0 p3_1 p3_2
theorem Cb1(p3_0:List Ar)(p3_1:Aa)(p3_2:ByteArray):YO (O93 L) L 9 165 [lv (.t113 p3_0),.clo 166 0 [.loc 3 0]] [(2,(Af p3_1)),(3,[S p3_2])] k=ob (g8 L p3_0 p3_1 p3_2) (Bjd p3_0 p3_1 p3_2 k):=(C3 _ _ _ jn4 _ _ _ _ _ _ _).trans (eE ((ho (Cdx L (Bxl L k) p3_0 p3_1 p3_2 L (0,0)) fun o5=>Cn1 L k p3_0 p3_1 p3_2 o5)))
def Bzh(p4_0:List Ax)(p4_1:Aa)(p4_2:ByteArray)(v:Cs):St:=⟨[(0,lv (.t115 p4_0)),(1,.clo 168 0 [.loc 3 0]),(4,I v.1),(7,I (p4_0.length:Int)),(8,I v.2)],[(2,(Af p4_1)),(3,[S p4_2])],4⟩
def m5 [An A Cm](L:Nat)(p4_0:List Ax)(p4_1:Aa)(p4_2:ByteArray)(rec:Int→Int→A)(Cq:Int)(Rf:Int):A:=
 (lw Rf p4_0
 (cn (((p4_0.getD (Int.toNat Rf) default).Name).toList == p4_2.toList)
 (lf (0,Rf,Rf))
 (rec Cq (B7 (Rf+1))))
 (lf (1,Cq,Rf)))
def Li(L:Nat)(p4_0:List Ax)(p4_1:Aa)(p4_2:ByteArray):Nat→Int→Int→Option Cm
 |0,_,_=>none
 |n+1,Cq,Rf=>m5 L p4_0 p4_1 p4_2 (Li L p4_0 p4_1 p4_2 n) Cq Rf
theorem Cdy(p4_0:List Ax)(p4_1:Aa)(p4_2:ByteArray):LP (EV (O93 L) L 8 Cke.u.l.u.l.l) [0,1,4,7,8] [2,3] (Bzh p4_0 p4_1 p4_2) [.ret,.exit 0] (fun n v=>Li L p4_0 p4_1 p4_2 n v.1 v.2) K:=lE (fun _=>rfl) fun n v ih=>eE (m5 L p4_0 p4_1 p4_2 (fun Cq Rf=>re (ih (Cq,Rf))) v.1 v.2)
def Bje(p4_0:List Ax)(p4_1:Aa)(p4_2:ByteArray)(k:Bq):Int→Prop:=fun o=>k (I o) [(2,(Af p4_1)),(3,[S p4_2])]
def X3 [An A Int](L:Nat)(o7:Nat×Cs):A:=
 (sl o7.1 [(lf o7.2.1),
 (lf (-1))])
def Bpc:Ba:=(Av 0 (Be (EV (O93 L) L 8 Cke.u.r) (Eb Tryz.prog (RS Tryz.f167) k)))
theorem Cgv(p4_0:List Ax)(p4_1:Aa)(p4_2:ByteArray)(o7:Nat×Cs):kX [.ret,.exit 0] (Bzh p4_0 p4_1 p4_2) (Bpc L k) o7=ob (X3 L o7) (Bje p4_0 p4_1 p4_2 k):=eE (X3 L o7)
def Apx [An A Int](p4_0:List Ax)(p4_1:Aa)(p4_2:ByteArray):A:=(bd (Li L p4_0 p4_1 p4_2 L 0 0) fun o7=>X3 L o7)
def i8(p4_0:List Ax)(p4_1:Aa)(p4_2:ByteArray):Option Int:=Apx L p4_0 p4_1 p4_2
theorem Cb2(p4_0:List Ax)(p4_1:Aa)(p4_2:ByteArray):YO (O93 L) L 9 167 [lv (.t115 p4_0),.clo 168 0 [.loc 3 0]] [(2,(Af p4_1)),(3,[S p4_2])] k=ob (i8 L p4_0 p4_1 p4_2) (Bje p4_0 p4_1 p4_2 k):=(C3 _ _ _ jn4 _ _ _ _ _ _ _).trans (eE ((ho (Cdy L (Bpc L k) p4_0 p4_1 p4_2 L (0,0)) fun o7=>Cgv L k p4_0 p4_1 p4_2 o7)))
def S6 [An A (ByteArray×Int)](a0:Aa)(a1:ByteArray)(o8:Int):A:=
 (cn (decide (o8≥0))
 (lf ((⟨#[98,101,108,116]⟩:ByteArray),o8))
 (bd (D1 L a0.Queues a1) fun r9=>
 (cn (decide (r9≥0))
 (lf ((⟨#[113,117,101,117,101]⟩:ByteArray),r9))
 (bd (D1 L a0.Streams a1) fun r10=>
 (cn (decide (r10≥0))
 (lf ((⟨#[115,116,114,101,97,109]⟩:ByteArray),r10))
 (bd (D1 L a0.Tallies a1) fun r11=>
 (cn (decide (r11≥0))
 (lf ((⟨#[116,97,108,108,121]⟩:ByteArray),r11))
 (bd (D1 L a0.Levels a1) fun r12=>
 (cn (decide (r12≥0))
 (lf ((⟨#[108,101,118,101,108]⟩:ByteArray),r12))
 (bd (D1 L a0.Counts a1) fun r13=>
 (cn (decide (r13≥0))
 (lf ((⟨#[99,111,117,110,116]⟩:ByteArray),r13))
 (bd (Gi L a0 a1) fun r14=>
 (cn (decide (r14≥0))
 (lf ((⟨#[114,111,117,116,105,110,101]⟩:ByteArray),r14))
 (lf ((⟨#[]⟩:ByteArray),(-1))))))))))))))))
def Bpd(a0:Aa)(a1:ByteArray):Bq:=(B4 Tryz.prog (O93 L) (EI (O93 L) L 9) 1 (List.drop 4 c93.x.l.l.ops) ⟨[(39,.clo 168 0 [.loc 3 0]),(38,lv (.t115 a0.Belts)),(37,.loc 2 4),(2,.loc 2 0),(3,.loc 3 0),(4,S (⟨#[]⟩:ByteArray)),(5,I 0)],[(2,(Af a0)),(3,[S a1])],0⟩ (some 40) (fun st9=>(Be (EV (O93 L) L 9 c93.x.l.r) (Be (EV (O93 L) L 9 c93.x.r) (Cp Tryz.prog (RS Tryz.f93) kk))) .normal st9))
theorem Cgw(a0:Aa)(a1:ByteArray)(o8:Int):Bje a0.Belts a0 a1 (Bpd L kk a0 a1) o8=ob (S6 L a0 a1 o8) (B4f kk):=eE (S6 L a0 a1 o8)
def Yl [An A (ByteArray×Int)](L:Nat)(a0:Aa)(a1:ByteArray)(o6:Int)(nx12:A):A:=
 (cn (decide (o6≥0))
 (lf ((⟨#[115,116,111,114,101]⟩:ByteArray),o6))
 nx12)
def u9 [An A (ByteArray×Int)](a0:Aa)(a1:ByteArray)(o6:Int):A:=Yl L a0 a1 o6 (bd (i8 L a0.Belts a0 a1) fun o8=>S6 L a0 a1 o8)
def Bxm(a0:Aa)(a1:ByteArray):Bq:=(B4 Tryz.prog (O93 L) (EI (O93 L) L 9) 1 (List.drop 4 c93.w.u.l.l.ops) ⟨[(32,.clo 166 0 [.loc 3 0]),(31,lv (.t113 a0.Stores)),(30,.loc 2 3),(2,.loc 2 0),(3,.loc 3 0),(4,S (⟨#[]⟩:ByteArray)),(5,I 0)],[(2,(Af a0)),(3,[S a1])],0⟩ (some 33) (fun st9=>(Be (EV (O93 L) L 9 c93.w.u.l.r) (Be (EV (O93 L) L 9 c93.w.u.r) (Cp Tryz.prog (RS Tryz.f93) kk))) .normal st9))
theorem Cn2(a0:Aa)(a1:ByteArray)(o6:Int):Bjd a0.Stores a0 a1 (Bxm L kk a0 a1) o6=ob (u9 L a0 a1 o6) (B4f kk):=eE (Yl L a0 a1 o6 (ho (Cb2 L (Bpd L kk a0 a1) a0.Belts a0 a1) fun o8=>Cgw L kk a0 a1 o8))
def y6 [An A (ByteArray×Int)](L:Nat)(a0:Aa)(a1:ByteArray)(o4:Int)(nx9:A):A:=
 (cn (decide (o4≥0))
 (lf ((⟨#[114,101,115,111,117,114,99,101]⟩:ByteArray),o4))
 nx9)
def u6 [An A (ByteArray×Int)](a0:Aa)(a1:ByteArray)(o4:Int):A:=y6 L a0 a1 o4 (bd (g8 L a0.Stores a0 a1) fun o6=>u9 L a0 a1 o6)
def Bxk(a0:Aa)(a1:ByteArray):Bq:=(B4 Tryz.prog (O93 L) (EI (O93 L) L 9) 1 (List.drop 4 c93.w.l.l.ops) ⟨[(25,.clo 164 0 [.loc 3 0]),(24,lv (.t110 a0.Resources)),(23,.loc 2 2),(2,.loc 2 0),(3,.loc 3 0),(4,S (⟨#[]⟩:ByteArray)),(5,I 0)],[(2,(Af a0)),(3,[S a1])],0⟩ (some 26) (fun st9=>(Be (EV (O93 L) L 9 c93.w.l.r) (Be (EV (O93 L) L 9 c93.w.r) (Cp Tryz.prog (RS Tryz.f93) kk))) .normal st9))
theorem Cn0(a0:Aa)(a1:ByteArray)(o4:Int):Bjc a0.Resources a0 a1 (Bxk L kk a0 a1) o4=ob (u6 L a0 a1 o4) (B4f kk):=eE (y6 L a0 a1 o4 (ho (Cb1 L (Bxm L kk a0 a1) a0.Stores a0 a1) fun o6=>Cn2 L kk a0 a1 o6))
def y5 [An A (ByteArray×Int)](L:Nat)(a0:Aa)(a1:ByteArray)(o2:Int)(nx6:A):A:=
 (cn (decide (o2≥0))
 (lf ((⟨#[118,97,114]⟩:ByteArray),o2))
 nx6)
def u4 [An A (ByteArray×Int)](a0:Aa)(a1:ByteArray)(o2:Int):A:=y5 L a0 a1 o2 (bd (g7 L a0.Resources a0 a1) fun o4=>u6 L a0 a1 o4)
def Bxi(a0:Aa)(a1:ByteArray):Bq:=(B4 Tryz.prog (O93 L) (EI (O93 L) L 9) 1 (List.drop 4 c93.u.l.l.ops) ⟨[(18,.clo 162 0 [.loc 3 0]),(17,lv (.t39 a0.Vars)),(16,.loc 2 1),(2,.loc 2 0),(3,.loc 3 0),(4,S (⟨#[]⟩:ByteArray)),(5,I 0)],[(2,(Af a0)),(3,[S a1])],0⟩ (some 19) (fun st9=>(Be (EV (O93 L) L 9 c93.u.l.r) (Be (EV (O93 L) L 9 c93.u.r) (Cp Tryz.prog (RS Tryz.f93) kk))) .normal st9))
theorem Cny(a0:Aa)(a1:ByteArray)(o2:Int):Bjb a0.Vars a0 a1 (Bxi L kk a0 a1) o2=ob (u4 L a0 a1 o2) (B4f kk):=eE (y5 L a0 a1 o2 (ho (Cb0 L (Bxk L kk a0 a1) a0.Resources a0 a1) fun o4=>Cn0 L kk a0 a1 o4))
def Av1 [An A (ByteArray×Int)](a0:Aa)(a1:ByteArray):A:=(bd (g6 L a0.Vars a0 a1) fun o2=>u4 L a0 a1 o2)
def Ahw(a0:Aa)(a1:ByteArray):Option (ByteArray×Int):=Av1 L a0 a1
def X93:F7:=E2 (fun(x:ByteArray×Int)=> .tup [S x.1,I x.2]) 93 Cn cS (Ahw L) fun a0 a1 r h=>hF Tryz.func93 (C:=O93 L) (oS _) L (fun kk=>eE ((ho (Cbz L (Bxi L kk a0 a1) a0.Vars a0 a1) fun o2=>Cny L kk a0 a1 o2))) h
def Arb [An A ByteArray](a0:Aa)(a1:ByteArray):A:=
 (bd (Ahw L a0 a1) fun r1=>
 (lf r1.1))
def Ac8(a0:Aa)(a1:ByteArray):Option ByteArray:=Arb L a0 a1
def X63:F7:=E2 S 63 Cn cS (Ac8 L) fun a0 a1 r h=>hF Tryz.func63 (oS [X93 L]) L (fun kk=>eE (Arb L a0 a1)) h
def Ajw [An A Bool](L:Nat)(a0:Int)(a1:ByteArray):A:=
 (cn (a0 == 22)
 (lf (a1.toList == (⟨#[114,101,115,111,117,114,99,101]⟩:ByteArray).toList))
 (cn (a0 == 23)
 (lf (a1.toList == (⟨#[115,116,111,114,101]⟩:ByteArray).toList))
 (jp (.cn (a1.toList == (⟨#[114,101,115,111,117,114,99,101]⟩:ByteArray).toList)
 (.lf true)
 (.lf (a1.toList == (⟨#[113,117,101,117,101]⟩:ByteArray).toList))) (fun b1=>
 (lf b1)))))
def Abb(a0:Int)(a1:ByteArray):Option Bool:=Ajw L a0 a1
def Cah:F7:=E2 B 196 (cI .i64) cS (Abb L) fun a0 a1 r h=>hF Tryz.func196 (oS []) L (fun kk=>eE (Ajw L a0 a1)) h
def Adh [An A Bool](L:Nat)(a0:Int):A:=
 (jp (.cn (a0 == 1)
 (.lf true)
 (.lf (a0 == 3))) (fun b1=>
 (lf b1)))
def H6(a0:Int):Option Bool:=Adh L a0
def Can:F7:=E1 B 230 (cI .i64) (H6 L) fun a0 r h=>hF Tryz.func230 (oS []) L (fun kk=>eE (Adh L a0)) h
def Al9 [An A Int](a0:Int)(a1:Int):A:=
 (jb (.cn (a0 == 5)
 (.bd (H6 L a1) fun r2=>
 (.lf r2))
 (.lf false)) (fun b1=>
 (cn b1
 (cn b1
 (lf a1)
 (jp (.cn (a0 == 7)
 (.lf (a1 == 1))
 (.lf false)) (fun b3=>
 (cn b3
 (lf 3)
 (jp (.cn (a0 == 8)
 (.lf (a1 == 3))
 (.lf false)) (fun b4=>
 (cn b4
 (lf 1)
 (lf 0))))))))
 (jp (.cn (a0 == 6)
 (.lf (a1 == 2))
 (.lf false)) (fun b5=>
 (cn b5
 (lf a1)
 (jp (.cn (a0 == 7)
 (.lf (a1 == 1))
 (.lf false)) (fun b6=>
 (cn b6
 (lf 3)
 (jp (.cn (a0 == 8)
 (.lf (a1 == 3))
 (.lf false)) (fun b7=>
 (cn b7
 (lf 1)
 (lf 0)))))))))))))
def Adb(a0:Int)(a1:Int):Option Int:=Al9 L a0 a1
def Cai:F7:=E2 I 197 (cI .i64) (cI .i64) (Adb L) fun a0 a1 r h=>hF Tryz.func197 (oS [Can L]) L (fun kk=>eE (Al9 L a0 a1)) h
def Vw:=CC Tryz.f198
def Ak2:Bd:=oL [Can L]
def Bpx(a1:Int)(a2:Int)(p802_3:Bool):St:=⟨[(1,I a1),(2,I a2),(6,I 0),(47,B p802_3)],[],0⟩
def Bpj(e0:EC):Ba:=(Av 2 (Av 0 (Be (EV (Ak2 L) L 9 e0) (Cp Tryz.prog (RS Tryz.f198) kk))))
def V6 [An A Int](L:Nat)(a1:Int)(a2:Int)(p802_3:Bool):A:=
 (cn p802_3
 (lf 1)
 (jp (.cn (a1 == 3)
 (.lf (a2 == 1))
 (.lf false)) (fun b9=>
 (cn b9
 (lf 3)
 (lf 0)))))
theorem B1n(a1:Int)(a2:Int)(p802_3:Bool):EV (Ak2 L) L 9 Vw.w.l.u.l.x.l.l.u (Bpx a1 a2 p802_3) (Bpj L kk Vw.w.r)=ob (V6 L a1 a2 p802_3) (kQ I kk):=eE (V6 L a1 a2 p802_3)
def Bpy(a1:Int)(a2:Int)(p805_3:Bool):St:=⟨[(1,I a1),(2,I a2),(6,I 0),(78,B p805_3)],[],0⟩
def Bpk(e0:EC):Ba:=(Av 0 (Be (EV (Ak2 L) L 9 e0) (Cp Tryz.prog (RS Tryz.f198) kk)))
def V7 [An A Int](L:Nat)(a1:Int)(a2:Int)(p805_3:Bool):A:=
 (cn p805_3
 (jp (.cn (a1 == 2)
 (.lf (a2 == 2))
 (.lf false)) (fun b12=>
 (cn b12
 (lf 2)
 (lf 0))))
 (lf 0))
theorem B1q(a1:Int)(a2:Int)(p805_3:Bool):EV (Ak2 L) L 9 Vw.w.l.u.l.x.x.r (Bpy a1 a2 p805_3) (Bpk L kk Vw.w.r)=ob (V7 L a1 a2 p805_3) (kQ I kk):=eE (V7 L a1 a2 p805_3)
def A56(a1:Int)(a2:Int)(a0:Int)(p804_4:Bool):St:=⟨[(1,I a1),(2,I a2),(6,I 0),(14,I a0),(68,B p804_4)],[],0⟩
def A5n(e0:EC):Ba:=(Av 0 (Be (EV (Ak2 L) L 9 e0) (Cp Tryz.prog (RS Tryz.f198) kk)))
def sx_typing_binary_4 [An A Int](a1:Int)(a2:Int)(a0:Int)(p804_4:Bool)(nx5:Int→Int→Bool→A):A:=
 (cn p804_4
 (jb (.cn (a1 == a2)
 (.bd (H6 L a1) fun r11=>
 (.lf r11))
 (.lf false)) (fun b10=>
 (cn b10
 (lf 2)
 (lf 0))))
 (cn (a0 == 18)
 (nx5 a1 a2 (a0 == 18))
 (nx5 a1 a2 (a0 == 19))))
def Aci [An A Int](a1:Int)(a2:Int)(a0:Int)(p804_4:Bool):A:=sx_typing_binary_4 L a1 a2 a0 p804_4 (fun a1 a2 p805_3=>V7 L a1 a2 p805_3)
theorem B2f(a1:Int)(a2:Int)(a0:Int)(p804_4:Bool)(z5:EC):EV (Ak2 L) L 9 (EC.put (rl [3]) z5 Vw.w.l.u.l.x.w.u) (A56 a1 a2 a0 p804_4) (A5n L kk Vw.w.r)= @sx_typing_binary_4 Prop L (anP (kQ I kk)) a1 a2 a0 p804_4 (fun a1 a2 p805_3=>EV (Ak2 L) L 9 z5 (Bpy a1 a2 p805_3) (Bpk L kk Vw.w.r)):=by kernel_rfl
theorem B1p(a1:Int)(a2:Int)(a0:Int)(p804_4:Bool):EV (Ak2 L) L 9 Vw.w.l.u.l.x.w.u (A56 a1 a2 a0 p804_4) (A5n L kk Vw.w.r)=ob (Aci L a1 a2 a0 p804_4) (kQ I kk):=Eq.trans (b:=EV (Ak2 L) L 9 (EC.put (rl [3]) Vw.w.l.u.l.x.x.r Vw.w.l.u.l.x.w.u) (A56 a1 a2 a0 p804_4) (A5n L kk Vw.w.r)) (by kernel_rfl) ((B2f L kk a1 a2 a0 p804_4 Vw.w.l.u.l.x.x.r).trans (eE (sx_typing_binary_4 L a1 a2 a0 p804_4 (fun a1 a2 p805_3=>re (B1q L kk a1 a2 p805_3)))))
def A55(a1:Int)(a2:Int)(a0:Int)(p803_4:Bool):St:=⟨[(1,I a1),(2,I a2),(6,I 0),(14,I a0),(62,B p803_4)],[],0⟩
def A5m(e0:EC):Ba:=(Av 0 (Be (EV (Ak2 L) L 9 e0) (Cp Tryz.prog (RS Tryz.f198) kk)))
def sx_typing_binary_3 [An A Int](L:Nat)(a1:Int)(a2:Int)(a0:Int)(p803_4:Bool)(nx4:Int→Int→Int→Bool→A):A:=
 (cn p803_4
 (cn (a1 == a2)
 (lf 2)
 (lf 0))
 (cn (a0 == 16)
 (nx4 a1 a2 a0 (a0 == 16))
 (nx4 a1 a2 a0 (a0 == 17))))
def Ach [An A Int](a1:Int)(a2:Int)(a0:Int)(p803_4:Bool):A:=sx_typing_binary_3 L a1 a2 a0 p803_4 (fun a1 a2 a0 p804_4=>Aci L a1 a2 a0 p804_4)
theorem B2e(a1:Int)(a2:Int)(a0:Int)(p803_4:Bool)(z4:EC):EV (Ak2 L) L 9 (EC.put (rl [3]) z4 Vw.w.l.u.l.x.u.r) (A55 a1 a2 a0 p803_4) (A5m L kk Vw.w.r)= @sx_typing_binary_3 Prop (anP (kQ I kk)) L a1 a2 a0 p803_4 (fun a1 a2 a0 p804_4=>EV (Ak2 L) L 9 z4 (A56 a1 a2 a0 p804_4) (A5n L kk Vw.w.r)):=by kernel_rfl
theorem B1o(a1:Int)(a2:Int)(a0:Int)(p803_4:Bool):EV (Ak2 L) L 9 Vw.w.l.u.l.x.u.r (A55 a1 a2 a0 p803_4) (A5m L kk Vw.w.r)=ob (Ach L a1 a2 a0 p803_4) (kQ I kk):=Eq.trans (b:=EV (Ak2 L) L 9 (EC.put (rl [3]) Vw.w.l.u.l.x.w.u Vw.w.l.u.l.x.u.r) (A55 a1 a2 a0 p803_4) (A5m L kk Vw.w.r)) (by kernel_rfl) ((B2e L kk a1 a2 a0 p803_4 Vw.w.l.u.l.x.w.u).trans (eE (sx_typing_binary_3 L a1 a2 a0 p803_4 (fun a1 a2 a0 p804_4=>re (B1p L kk a1 a2 a0 p804_4)))))
def A54(a1:Int)(a2:Int)(b1:Bool)(a0:Int)(p801_5:Bool):St:=⟨[(1,I a1),(2,I a2),(6,I 0),(7,B b1),(14,I a0),(15,B p801_5)],[],0⟩
def A5l(e0:EC):Ba:=(Av 0 (Be (EV (Ak2 L) L 9 e0) (Cp Tryz.prog (RS Tryz.f198) kk)))
def sx_typing_binary_1 [An A Int](a1:Int)(a2:Int)(b1:Bool)(a0:Int)(p801_5:Bool)(nx2:Int→Int→Bool→A)(nx3:Int→Int→Int→Bool→A):A:=
 (cn p801_5
 (jb (.cn (a1 == a2)
 (.bd (H6 L a1) fun r3=>
 (.lf r3))
 (.lf false)) (fun b2=>
 (cn b2
 (lf a1)
 (lf 0))))
 (cn (a0 == 11)
 (cn b1
 (lf 1)
 (bd (H6 L a1) fun r4=>
 (jb (.cn r4
 (.bd (H6 L a2) fun r6=>
 (.lf r6))
 (.lf false)) (fun b5=>
 (jp (.cn b5
 (.lf (a1 != a2))
 (.lf false)) (fun b7=>
 (cn b7
 (lf 3)
 (lf 0))))))))
 (cn (a0 == 12)
 (cn b1
 (nx2 a1 a2 b1)
 (jp (.cn (a1 == 3)
 (.lf (a2 == 3))
 (.lf false)) (fun b8=>
 (nx2 a1 a2 b8))))
 (cn (a0 == 14)
 (nx3 a1 a2 a0 (a0 == 14))
 (nx3 a1 a2 a0 (a0 == 15))))))
def Acg [An A Int](a1:Int)(a2:Int)(b1:Bool)(a0:Int)(p801_5:Bool):A:=sx_typing_binary_1 L a1 a2 b1 a0 p801_5 (fun a1 a2 p802_3=>V6 L a1 a2 p802_3) (fun a1 a2 a0 p803_4=>Ach L a1 a2 a0 p803_4)
theorem B2d(a1:Int)(a2:Int)(b1:Bool)(a0:Int)(p801_5:Bool)(z2 z3:EC):EV (Ak2 L) L 9 (EC.put (rl [9]) z3 (EC.put (rl [6,2,2]) z2 Vw.w.l.u.l.u)) (A54 a1 a2 b1 a0 p801_5) (A5l L kk Vw.w.r)= @sx_typing_binary_1 Prop L (anP (kQ I kk)) a1 a2 b1 a0 p801_5 (fun a1 a2 p802_3=>EV (Ak2 L) L 9 z2 (Bpx a1 a2 p802_3) (Bpj L kk Vw.w.r)) (fun a1 a2 a0 p803_4=>EV (Ak2 L) L 9 z3 (A55 a1 a2 a0 p803_4) (A5m L kk Vw.w.r)):=by kernel_rfl
theorem B1m(a1:Int)(a2:Int)(b1:Bool)(a0:Int)(p801_5:Bool):EV (Ak2 L) L 9 Vw.w.l.u.l.u (A54 a1 a2 b1 a0 p801_5) (A5l L kk Vw.w.r)=ob (Acg L a1 a2 b1 a0 p801_5) (kQ I kk):=Eq.trans (b:=EV (Ak2 L) L 9 (EC.put (rl [9]) Vw.w.l.u.l.x.u.r (EC.put (rl [6,2,2]) Vw.w.l.u.l.x.l.l.u Vw.w.l.u.l.u)) (A54 a1 a2 b1 a0 p801_5) (A5l L kk Vw.w.r)) (by kernel_rfl) ((B2d L kk a1 a2 b1 a0 p801_5 Vw.w.l.u.l.x.l.l.u Vw.w.l.u.l.x.u.r).trans (eE (sx_typing_binary_1 L a1 a2 b1 a0 p801_5 (fun a1 a2 p802_3=>re (B1n L kk a1 a2 p802_3)) (fun a1 a2 a0 p803_4=>re (B1o L kk a1 a2 a0 p803_4)))))
def sx_typing_binary_0 [An A Int](L:Nat)(a0:Int)(a1:Int)(a2:Int)(nx1:Int→Int→Bool→Int→Bool→A):A:=
 (jp (.cn (a1 == 1)
 (.lf (a2 == 1))
 (.lf false)) (fun b1=>
 (cn (a0 == 9)
 (nx1 a1 a2 b1 a0 (a0 == 9))
 (cn (a0 == 10)
 (nx1 a1 a2 b1 a0 (a0 == 10))
 (cn (a0 == 13)
 (nx1 a1 a2 b1 a0 (a0 == 13))
 (cn (a0 == 20)
 (nx1 a1 a2 b1 a0 (a0 == 20))
 (nx1 a1 a2 b1 a0 (a0 == 21))))))))
def Asd [An A Int](a0:Int)(a1:Int)(a2:Int):A:=sx_typing_binary_0 L a0 a1 a2 (fun a1 a2 b1 a0 p801_5=>Acg L a1 a2 b1 a0 p801_5)
theorem B2c(a0:Int)(a1:Int)(a2:Int)(z1:EC):EW (Ak2 L) L 9 (RS Tryz.f198) (EC.put (rl [4,1,2,1,2]) z1 Vw) [I a0,I a1,I a2] kk= @sx_typing_binary_0 Prop (anP (kQ I kk)) L a0 a1 a2 (fun a1 a2 b1 a0 p801_5=>EV (Ak2 L) L 9 z1 (A54 a1 a2 b1 a0 p801_5) (A5l L kk Vw.w.r)):=by kernel_rfl
def Aba(a0:Int)(a1:Int)(a2:Int):Option Int:=Asd L a0 a1 a2
def Caj:F7:=E3 I 198 (cI .i64) (cI .i64) (cI .i64) (Aba L) fun a0 a1 a2 r h=>hF Tryz.func198 (C:=Ak2 L) (oS _) L (fun kk=>Eq.trans (b:=EW (Ak2 L) L 9 (RS Tryz.f198) (EC.put (rl [4,1,2,1,2]) Vw.w.l.u.l.u Vw) [I a0,I a1,I a2] kk) (by kernel_rfl) ((B2c L kk a0 a1 a2 Vw.w.l.u.l.u).trans (eE (sx_typing_binary_0 L a0 a1 a2 (fun a1 a2 b1 a0 p801_5=>re (B1m L kk a1 a2 b1 a0 p801_5)))))) h
def Bl1(F:Aq→Ab→Option Cs):Prop:=∀y0 y1 r,F y0 y1=some r→Ho Tryz.prog 140 [Gg.en y0,Bj.en y1] (fun(x:Cs)=> .tup [I x.1,I x.2]) r
def Cj3:=CC Tryz.f140
def B9a(Gb:Aq→Ab→Option Cs)(L:Nat):Bd:=(orc 140 (A2 (fun(x:Cs)=> .tup [I x.1,I x.2]) Gg Bj Gb) (oL [X63 L,Cag L,Cah L,Cai L,Caj L]))
theorem Crx(Gb:Aq→Ab→Option Cs)(Bvn:Bl1 Gb)(L:Nat):Dv Tryz.prog (B9a Gb L):=(D4 (a2 _ Bvn) (oS [X63 L,Cag L,Cah L,Cai L,Caj L]))
def Cll(kk:Cz):Cs→Prop:=fun x=>kk ((fun(x:Cs)=> .tup [I x.1,I x.2]) x)
def Bqc(a1:Ab)(a0:Aq)(v:Int×Int×List Int×Int):St:=⟨[(0,.any),(1,.any),(2,.loc 2 0),(3,.loc 3 0),(4,I v.1),(5,I v.2.1),(6,.lst true (.t37 v.2.2.1)),(11,.any),(12,.any),(13,.any),(15,lv (.t63 a1.Kids)),(16,I (a1.Kids.length:Int)),(17,I v.2.2.2),(35,.any),(49,.any),(62,.any),(72,.any),(85,.any),(89,.any),(93,.any)],[(2,(Pu a0)),(3,(F3 a1))],0⟩
def m9 [An A (Nat×Int×Int×List Int×Int)](Gb:Aq→Ab→Option Cs)(L:Nat)(a1:Ab)(a0:Aq)(rec:Int→Int→List Int→Int→A)(Al:Int)(Ai:Int)(Ak:List Int)(Ac0:Int):A:=
 (lw Ac0 a1.Kids
 (bd (Gb a0 (Ab.cp (a1.Kids.getD (Int.toNat Ac0) default))) fun r1=>
 (cn (r1.2 != 0)
 (lf (0,0,r1.2,Ak,Ac0))
 (gq ((Ak.length+ [r1.1].length)*8≤140737488355328)
 (gq (Ak.length+ [r1.1].length≤maxLen)
 (rec Al Ai (Ak++ [r1.1]) (B7 (Ac0+1)))))))
 (lf (1,Al,Ai,Ak,Ac0)))
def Ln(Gb:Aq→Ab→Option Cs)(L:Nat)(a1:Ab)(a0:Aq):Nat→Int→Int→List Int→Int→Option (Nat×Int×Int×List Int×Int)
 |0,_,_,_,_=>none
 |n+1,Al,Ai,Ak,Ac0=>m9 Gb L a1 a0 (Ln Gb L a1 a0 n) Al Ai Ak Ac0
theorem B4t(Gb:Aq→Ab→Option Cs)(L:Nat)(K:Ba)(a1:Ab)(a0:Aq):LP (EV (B9a Gb L) L 9 Cj3.w.l.u.l.l) [0,1,2,3,4,5,6,11,12,13,15,16,17,35,49,62,72,85,89,93] [2,3] (Bqc a1 a0) [.ret,.exit 0] (fun n v=>Ln Gb L a1 a0 n v.1 v.2.1 v.2.2.1 v.2.2.2) K:=lE (fun _=>rfl) fun n v ih=>eE (m9 Gb L a1 a0 (fun Al Ai Ak Ac0=>re (ih (Al,Ai,Ak,Ac0))) v.1 v.2.1 v.2.2.1 v.2.2.2)
def Vm [An A Cs](Gb:Aq→Ab→Option Cs)(L:Nat)(a1:Ab)(a0:Aq)(o2:Nat×Int×Int×List Int×Int):A:=
 (sl o2.1 [(lf (o2.2.1,o2.2.2.1)),
 (cn (a1.Op == 3)
 (bd (Ahy L a0 a1.Name) fun r3=>
 (cn (!r3.2)
 (lf (0,5))
 (lf (r3.1,0))))
 (cn (decide (a1.Op≥22))
 (bd (Ac8 L a0.Site a1.Name) fun r4=>
 (bd (Abb L a1.Op r4) fun r5=>
 (cn (!r5)
 (lf (0,5))
 (lf (1,0)))))
 (cn ((o2.2.2.2.1.length:Int) == 1)
 (gi 0 o2.2.2.2.1
 (bd (Adb L a1.Op (o2.2.2.2.1.getD 0 default)) fun r6=>
 (cn (r6 == 0)
 (lf (0,10))
 (lf (r6,0)))))
 (cn ((o2.2.2.2.1.length:Int) == 2)
 (gi 0 o2.2.2.2.1
 (gi 1 o2.2.2.2.1
 (bd (Aba L a1.Op (o2.2.2.2.1.getD 0 default) (o2.2.2.2.1.getD 1 default)) fun r7=>
 (cn (r7 == 0)
 (lf (0,10))
 (lf (r7,0))))))
 (cn (a1.Op == 1)
 (lf (1,0))
 (cn (a1.Op == 2)
 (lf (2,0))
 (cn (a1.Op == 4)
 (lf (3,0))
 (lf (0,10)))))))))])
def Bmy(Gb:Aq→Ab→Option Cs)(L:Nat)(kk:Cz):Ba:=(Av 0 (Be (EV (B9a Gb L) L 9 Cj3.w.r) (Cp Tryz.prog (RS Tryz.f140) kk)))
theorem Cei(Gb:Aq→Ab→Option Cs)(L:Nat)(kk:Cz)(a1:Ab)(a0:Aq)(o2:Nat×Int×Int×List Int×Int):kX [.ret,.exit 0] (Bqc a1 a0) (Bmy Gb L kk) o2=ob (Vm Gb L a1 a0 o2) (Cll kk):=eE (Vm Gb L a1 a0 o2)
def Av5 [An A Cs](Gb:Aq→Ab→Option Cs)(L:Nat)(a0:Aq)(a1:Ab):A:=(bd (Ln Gb L a1 a0 L 0 0 [] 0) fun o2=>Vm Gb L a1 a0 o2)
def An4(Gb:Aq→Ab→Option Cs)(L:Nat)(a0:Aq)(a1:Ab):Option Cs:=Av5 Gb L a0 a1
theorem Cp5(Gb:Aq→Ab→Option Cs)(Bvn:Bl1 Gb)(L:Nat):Bl1 (An4 Gb L):=fun a0 a1 r h=>hF Tryz.func140 (Crx Gb Bvn L) L (fun kk=>eE ((ho (B4t Gb L (Bmy Gb L kk) a1 a0 L (0,0,[],0)) fun o2=>Cei Gb L kk a1 a0 o2))) h
def L2:Nat→Aq→Ab→Option Cs
 |0,_,_=>none
 |L+1,a0,a1=>An4 (L2 L) L a0 a1
theorem B26(L:Nat):Bl1 (L2 L):=by
 induction L with
 |zero=>exact fun _ _ _ h=>(by cases h)
 |succ L ih=>
  have i140:=ih
  exact Cp5 (L2 L) i140 L
def Ch3(L:Nat):F7:=E2 (fun(x:Cs)=> .tup [I x.1,I x.2]) 140 Gg Bj (L2 L) (B26 L)
def Aoe [An A Cs](a0:Aq)(a1:Ab):A:=
 (bd (Sm L (Ab.cp a1)) fun r1=>
 (cn (r1 != 0)
 (lf (0,r1))
 (bd (L2 L a0 (Ab.cp a1)) fun r2=>
 (lf (r2.1,r2.2)))))
def Ahx(a0:Aq)(a1:Ab):Option Cs:=Aoe L a0 a1
def X76:F7:=E2 (fun(x:Cs)=> .tup [I x.1,I x.2]) 76 Gg Bj (Ahx L) fun a0 a1 r h=>hF Tryz.func76 (oS [X42 L,Ch3 L]) L (fun kk=>eE (Aoe L a0 a1)) h
def Ckk:=CC Tryz.f190
def B9k:Bd:=oL [X76 L]
def Bqx(r1:Cs)(a2:List Int)(a1:Ab)(v:Cs):St:=⟨[(0,.any),(1,.any),(2,.any),(4,.any),(6,I v.1),(7,I r1.1),(8,.any),(23,lv (.t37 a2)),(24,I (a2.length:Int)),(25,I v.2)],[(4,(F3 a1))],0⟩
def K0 [An A Cm](L:Nat)(r1:Cs)(a2:List Int)(a1:Ab)(rec:Int→Int→A)(Al:Int)(Bu:Int):A:=
 (lw Bu a2
 (cn (r1.1 == (a2.getD (Int.toNat Bu) default))
 (lf (0,0,Bu))
 (rec Al (B7 (Bu+1))))
 (lf (1,Al,Bu)))
def D8(L:Nat)(r1:Cs)(a2:List Int)(a1:Ab):Nat→Int→Int→Option Cm
 |0,_,_=>none
 |n+1,Al,Bu=>K0 L r1 a2 a1 (D8 L r1 a2 a1 n) Al Bu
theorem B5e(r1:Cs)(a2:List Int)(a1:Ab):LP (EV (B9k L) L 9 Ckk.w.u.l.u.l.l) [0,1,2,4,6,7,8,23,24,25] [4] (Bqx r1 a2 a1) [.ret,.exit 0] (fun n v=>D8 L r1 a2 a1 n v.1 v.2) K:=lE (fun _=>rfl) fun n v ih=>eE (K0 L r1 a2 a1 (fun Al Bu=>re (ih (Al,Bu))) v.1 v.2)
def Hy [An A Int](L:Nat)(o2:Nat×Cs):A:=
 (sl o2.1 [(lf o2.2.1),
 (lf 10)])
def Bnr:Ba:=(Av 0 (Be (EV (B9k L) L 9 Ckk.w.u.r) (Cp Tryz.prog (RS Tryz.f190) kk)))
theorem Cfb(r1:Cs)(a2:List Int)(a1:Ab)(o2:Nat×Cs):kX [.ret,.exit 0] (Bqx r1 a2 a1) (Bnr L kk) o2=ob (Hy L o2) (kQ I kk):=eE (Hy L o2)
def K2 [An A Int](a0:Ao)(a1:Ab)(a2:List Int)(nx1:Cs→A):A:=
 (bd (Ahx L a0.u_env (Ab.cp a1)) fun r1=>
 (cn (r1.2 != 0)
 (lf r1.2)
 (nx1 r1)))
def Adj [An A Int](a0:Ao)(a1:Ab)(a2:List Int):A:=K2 L a0 a1 a2 (fun r1=>bd (D8 L r1 a2 a1 L 0 0) fun o2=>Hy L o2)
def Bw(a0:Ao)(a1:Ab)(a2:List Int):Option Int:=Adj L a0 a1 a2
def Buk:F7:=E3 I 190 Du Bj Ca8 (Bw L) fun a0 a1 a2 r h=>hF Tryz.func190 (C:=B9k L) (oS _) L (fun kk=>eE (K2 L a0 a1 a2 (fun r1=>ho (B5e L (Bnr L kk) r1 a2 a1 L (0,0)) fun o2=>Cfb L kk r1 a2 a1 o2))) h
def Ca6:=CC Tryz.f187
def B0o:Bd:=oL [Buk L,Bum L]
def Bqw(a0:Ao)(r1:Tu6)(a1:Ad)(v:Cs):St:=⟨[(0,.ref (I9 a0)),(1,.any),(3,.loc 3 0),(4,I v.1),(5,I r1.1),(6,.any),(27,lv (.t39 a0.u_env.Site.Vars)),(28,I (a0.u_env.Site.Vars.length:Int)),(29,I v.2)],[(3,(Ej a1))],0⟩
def M8 [An A Cm](a0:Ao)(r1:Tu6)(a1:Ad)(rec:Int→Int→A)(C6:Int)(Awl:Int):A:=
 (lw Awl a0.u_env.Site.Vars
 (cn (((a0.u_env.Site.Vars.getD (Int.toNat Awl) default).Name).toList == a1.Name.toList)
 (bd (Bw L a0 (Ab.cp a1.E) [(a0.u_env.Site.Vars.getD (Int.toNat Awl) default).Type_]) fun r2=>
 (lf (0,r2,Awl)))
 (rec C6 (B7 (Awl+1))))
 (lf (1,C6,Awl)))
def F4(L:Nat)(a0:Ao)(r1:Tu6)(a1:Ad):Nat→Int→Int→Option Cm
 |0,_,_=>none
 |n+1,C6,Awl=>M8 L a0 r1 a1 (F4 L a0 r1 a1 n) C6 Awl
theorem B5d(a0:Ao)(r1:Tu6)(a1:Ad):LP (EV (B0o L) L 9 Ca6.w.l.u.l.l.u.l.l) [0,1,3,4,5,6,27,28,29] [3] (Bqw a0 r1 a1) [.ret,.exit 0] (fun n v=>F4 L a0 r1 a1 n v.1 v.2) K:=lE (fun _=>rfl) fun n v ih=>eE (M8 L a0 r1 a1 (fun C6 Awl=>re (ih (C6,Awl))) v.1 v.2)
def Jh [An A Int](L:Nat)(o4:Nat×Cs):A:=
 (sl o4.1 [(lf o4.2.1),
 (lf 5)])
def Bnq:Ba:=(Av 0 (Be (EV (B0o L) L 9 Ca6.w.l.u.l.r) (Be (EV (B0o L) L 9 Ca6.w.r) (Cp Tryz.prog (RS Tryz.f187) kk))))
theorem Cfa(a0:Ao)(r1:Tu6)(a1:Ad)(o4:Nat×Cs):kX [.ret,.exit 0] (Bqw a0 r1 a1) (Bnq L kk) o4=ob (Jh L o4) (kQ I kk):=eE (Jh L o4)
def Nb [An A Int](a0:Ao)(a1:Ad)(nx1:Tu6→A):A:=
 (bd (P6 L a0.u_env.Locals a1.Name) fun r1=>
 (cn (!r1.2)
 (nx1 r1)
 (bd (Bw L a0 (Ab.cp a1.E) [r1.1]) fun r3=>
 (lf r3))))
def Aja [An A Int](a0:Ao)(a1:Ad):A:=Nb L a0 a1 (fun r1=>bd (F4 L a0 r1 a1 L 0 0) fun o4=>Jh L o4)
def So(a0:Ao)(a1:Ad):Option Int:=Aja L a0 a1
def Cie:F7:=E2 I 187 Du H7 (So L) fun a0 a1 r h=>hF Tryz.func187 (C:=B0o L) (oS _) L (fun kk=>eE (Nb L a0 a1 (fun r1=>ho (B5d L (Bnq L kk) a0 r1 a1 L (0,0)) fun o4=>Cfa L kk a0 r1 a1 o4))) h
def Aal [An A Bool](a0:Ao)(a1:ByteArray)(a2:ByteArray):A:=
 (bd (Ac8 L a0.u_env.Site a1) fun r1=>
 (lf (r1.toList == a2.toList)))
def Gq(a0:Ao)(a1:ByteArray)(a2:ByteArray):Option Bool:=Aal L a0 a1 a2
def Cad:F7:=E3 B 189 Du cS cS (Gq L) fun a0 a1 a2 r h=>hF Tryz.func189 (oS [X63 L]) L (fun kk=>eE (Aal L a0 a1 a2)) h
def Ckv:=CC Tryz.f224
def B9t:Bd:=oL [Bum L]
def Bq9(r1:Tu6)(a2:List Int)(v:Cs):St:=⟨[(0,.any),(1,.any),(2,.any),(6,I v.1),(7,I r1.1),(8,.any),(21,lv (.t37 a2)),(22,I (a2.length:Int)),(23,I v.2)],[],0⟩
def Jr [An A Cm](L:Nat)(r1:Tu6)(a2:List Int)(rec:Int→Int→A)(Al:Int)(Bu:Int):A:=
 (lw Bu a2
 (cn (r1.1 == (a2.getD (Int.toNat Bu) default))
 (lf (0,0,Bu))
 (rec Al (B7 (Bu+1))))
 (lf (1,Al,Bu)))
def Dx(L:Nat)(r1:Tu6)(a2:List Int):Nat→Int→Int→Option Cm
 |0,_,_=>none
 |n+1,Al,Bu=>Jr L r1 a2 (Dx L r1 a2 n) Al Bu
theorem B5q(r1:Tu6)(a2:List Int):LP (EV (B9t L) L 9 Ckv.w.l.u.l.l) [0,1,2,6,7,8,21,22,23] [] (Bq9 r1 a2) [.ret,.exit 0] (fun n v=>Dx L r1 a2 n v.1 v.2) K:=lE (fun _=>rfl) fun n v ih=>eE (Jr L r1 a2 (fun Al Bu=>re (ih (Al,Bu))) v.1 v.2)
def Hm [An A Int](L:Nat)(o2:Nat×Cs):A:=
 (sl o2.1 [(lf o2.2.1),
 (lf 10)])
def Bn4:Ba:=(Av 0 (Be (EV (B9t L) L 9 Ckv.w.r) (Cp Tryz.prog (RS Tryz.f224) kk)))
theorem Cfo(r1:Tu6)(a2:List Int)(o2:Nat×Cs):kX [.ret,.exit 0] (Bq9 r1 a2) (Bn4 L kk) o2=ob (Hm L o2) (kQ I kk):=eE (Hm L o2)
def Kh [An A Int](a0:Ao)(a1:ByteArray)(a2:List Int)(nx1:Tu6→A):A:=
 (bd (P6 L a0.u_env.Locals a1) fun r1=>
 (nx1 r1))
def Acs [An A Int](a0:Ao)(a1:ByteArray)(a2:List Int):A:=Kh L a0 a1 a2 (fun r1=>bd (Dx L r1 a2 L 0 0) fun o2=>Hm L o2)
def Un(a0:Ao)(a1:ByteArray)(a2:List Int):Option Int:=Acs L a0 a1 a2
def Cit:F7:=E3 I 224 Du cS Ca8 (Un L) fun a0 a1 a2 r h=>hF Tryz.func224 (C:=B9t L) (oS _) L (fun kk=>eE (Kh L a0 a1 a2 (fun r1=>ho (B5q L (Bn4 L kk) r1 a2 L (0,0)) fun o2=>Cfo L kk r1 a2 o2))) h
def Xc [An A Int](a0:Ao)(a1:ByteArray)(a2:Bool)(a3:List Int):A:=
 (bd (P6 L a0.u_env.Locals a1) fun r1=>
 (jp (.cn (!r1.2)
 (.lf true)
 (.lf (!a2))) (fun b2=>
 (cn b2
 (lf 5)
 (bd (Un L a0 a1 a3) fun r3=>
 (lf r3))))))
def Ig(a0:Ao)(a1:ByteArray)(a2:Bool)(a3:List Int):Option Int:=Xc L a0 a1 a2 a3
def Cif:F7:=E4 I 188 Du cS cB Ca8 (Ig L) fun a0 a1 a2 a3 r h=>hF Tryz.func188 (oS [Bum L,Cit L]) L (fun kk=>eE (Xc L a0 a1 a2 a3)) h
def Ckl:=CC Tryz.f191
def B9l:Bd:=oL [Cad L,Buk L]
def Bqy(a0:Ao)(a3:List Ab)(a1:Ad)(v:Cs):St:=⟨[(0,.ref (I9 a0)),(1,.any),(2,.any),(3,.any),(5,.any),(8,I v.1),(18,lv (.t63 a3)),(19,I (a3.length:Int)),(20,I v.2)],[(5,(Ej a1))],0⟩
def Kz [An A Cm](a0:Ao)(a3:List Ab)(a1:Ad)(rec:Int→Int→A)(C6:Int)(My:Int):A:=
 (lw My a3
 (bd (Bw L a0 (Ab.cp (a3.getD (Int.toNat My) default)) [1]) fun r2=>
 (cn (r2 != 0)
 (lf (0,r2,My))
 (rec C6 (B7 (My+1)))))
 (lf (1,C6,My)))
def D7(L:Nat)(a0:Ao)(a3:List Ab)(a1:Ad):Nat→Int→Int→Option Cm
 |0,_,_=>none
 |n+1,C6,My=>Kz L a0 a3 a1 (D7 L a0 a3 a1 n) C6 My
theorem B5f(a0:Ao)(a3:List Ab)(a1:Ad):LP (EV (B9l L) L 9 Ckl.w.l.u.l.l) [0,1,2,3,5,8,18,19,20] [5] (Bqy a0 a3 a1) [.ret,.exit 0] (fun n v=>D7 L a0 a3 a1 n v.1 v.2) K:=lE (fun _=>rfl) fun n v ih=>eE (Kz L a0 a3 a1 (fun C6 My=>re (ih (C6,My))) v.1 v.2)
def Hx [An A Int](L:Nat)(o3:Nat×Cs):A:=
 (sl o3.1 [(lf o3.2.1),
 (lf 0)])
def Bns:Ba:=(Av 0 (Be (EV (B9l L) L 9 Ckl.w.r) (Cp Tryz.prog (RS Tryz.f191) kk)))
theorem Cfc(a0:Ao)(a3:List Ab)(a1:Ad)(o3:Nat×Cs):kX [.ret,.exit 0] (Bqy a0 a3 a1) (Bns L kk) o3=ob (Hx L o3) (kQ I kk):=eE (Hx L o3)
def K1 [An A Int](a0:Ao)(a1:Ad)(a2:ByteArray)(a3:List Ab)(nx1:A):A:=
 (bd (Gq L a0 a1.Name a2) fun r1=>
 (cn (!r1)
 (lf 5)
 nx1))
def Adi [An A Int](a0:Ao)(a1:Ad)(a2:ByteArray)(a3:List Ab):A:=K1 L a0 a1 a2 a3 (bd (D7 L a0 a3 a1 L 0 0) fun o3=>Hx L o3)
def B5(a0:Ao)(a1:Ad)(a2:ByteArray)(a3:List Ab):Option Int:=Adi L a0 a1 a2 a3
def Cig:F7:=E4 I 191 Du H7 cS A7d (B5 L) fun a0 a1 a2 a3 r h=>hF Tryz.func191 (C:=B9l L) (oS _) L (fun kk=>eE (K1 L a0 a1 a2 a3 (ho (B5f L (Bns L kk) a0 a3 a1 L (0,0)) fun o3=>Cfc L kk a0 a3 a1 o3))) h
def Ck3:=CC Tryz.f243
def Ckw:=CC Tryz.f225
def Bji(L:Nat):Bd:=oL []
def Clo:Tu6→Prop:=fun x=>kk ((fun(x:Tu6)=> .tup [I x.1,B x.2]) x)
def Bra(p1_0:List Bk)(p1_1:Ac)(p1_2:ByteArray)(p1_3:ByteArray)(v:Cs):St:=⟨[(0,lv (.t81 p1_0)),(1,.clo 244 0 [.loc 4 0,.loc 5 0]),(4,I v.1),(7,I (p1_0.length:Int)),(8,I v.2)],[(3,(Au p1_1)),(4,[S p1_2]),(5,[S p1_3])],6⟩
def Abl [An A Cm](L:Nat)(p1_0:List Bk)(p1_1:Ac)(p1_2:ByteArray)(p1_3:ByteArray)(rec:Int→Int→A)(Ai:Int)(Aj:Int):A:=
 (lw Aj p1_0
 (jp (.cn (((p1_0.getD (Int.toNat Aj) default).From).toList == p1_2.toList)
 (.lf (((p1_0.getD (Int.toNat Aj) default).To).toList == p1_3.toList))
 (.lf false)) (fun b1=>
 (cn b1
 (lf (0,Aj,Aj))
 (rec Ai (B7 (Aj+1))))))
 (lf (1,Ai,Aj)))
def Nk(L:Nat)(p1_0:List Bk)(p1_1:Ac)(p1_2:ByteArray)(p1_3:ByteArray):Nat→Int→Int→Option Cm
 |0,_,_=>none
 |n+1,Ai,Aj=>Abl L p1_0 p1_1 p1_2 p1_3 (Nk L p1_0 p1_1 p1_2 p1_3 n) Ai Aj
theorem B5r(p1_0:List Bk)(p1_1:Ac)(p1_2:ByteArray)(p1_3:ByteArray):LP (EV (Bji L) L 8 Ck3.u.l.u.l.l) [0,1,4,7,8] [3,4,5] (Bra p1_0 p1_1 p1_2 p1_3) [.ret,.exit 0] (fun n v=>Nk L p1_0 p1_1 p1_2 p1_3 n v.1 v.2) K:=lE (fun _=>rfl) fun n v ih=>eE (Abl L p1_0 p1_1 p1_2 p1_3 (fun Ai Aj=>re (ih (Ai,Aj))) v.1 v.2)
def Bct(p1_0:List Bk)(p1_1:Ac)(p1_2:ByteArray)(p1_3:ByteArray)(k:Bq):Int→Prop:=fun o=>k (I o) [(3,(Au p1_1)),(4,[S p1_2]),(5,[S p1_3])]
def Aby [An A Int](L:Nat)(o2:Nat×Cs):A:=
 (sl o2.1 [(lf o2.2.1),
 (lf (-1))])
def Bn5:Ba:=(Av 0 (Be (EV (Bji L) L 8 Ck3.u.r) (Eb Tryz.prog (RS Tryz.f243) k)))
theorem Cfp(p1_0:List Bk)(p1_1:Ac)(p1_2:ByteArray)(p1_3:ByteArray)(o2:Nat×Cs):kX [.ret,.exit 0] (Bra p1_0 p1_1 p1_2 p1_3) (Bn5 L k) o2=ob (Aby L o2) (Bct p1_0 p1_1 p1_2 p1_3 k):=eE (Aby L o2)
def Asi [An A Int](p1_0:List Bk)(p1_1:Ac)(p1_2:ByteArray)(p1_3:ByteArray):A:=(bd (Nk L p1_0 p1_1 p1_2 p1_3 L 0 0) fun o2=>Aby L o2)
def Ajz(p1_0:List Bk)(p1_1:Ac)(p1_2:ByteArray)(p1_3:ByteArray):Option Int:=Asi L p1_0 p1_1 p1_2 p1_3
theorem B3l(p1_0:List Bk)(p1_1:Ac)(p1_2:ByteArray)(p1_3:ByteArray):YO (Bji L) L 9 243 [lv (.t81 p1_0),.clo 244 0 [.loc 4 0,.loc 5 0]] [(3,(Au p1_1)),(4,[S p1_2]),(5,[S p1_3])] k=ob (Ajz L p1_0 p1_1 p1_2 p1_3) (Bct p1_0 p1_1 p1_2 p1_3 k):=(C3 _ _ _ jn4 _ _ _ _ _ _ _).trans (eE ((ho (B5r L (Bn5 L k) p1_0 p1_1 p1_2 p1_3 L (0,0)) fun o2=>Cfp L k p1_0 p1_1 p1_2 p1_3 o2)))
def Wr [An A Tu6](L:Nat)(a0:Ac)(o3:Int):A:=
 (cn (decide (o3 < 0))
 (lf (0,false))
 (gi o3 a0.Links
 (lf ((a0.Links.getD (Int.toNat o3) default).Delay,true))))
def Bn6(a0:Ac)(a1:ByteArray)(a2:ByteArray):Bq:=(B4 Tryz.prog (Bji L) (EI (Bji L) L 9) 1 (List.drop 4 Ckw.u.l.ops) ⟨[(11,.clo 244 0 [.loc 4 0,.loc 5 0]),(10,lv (.t81 a0.Links)),(9,.loc 3 3),(3,.loc 3 0),(4,.loc 4 0),(5,.loc 5 0),(6,I 0),(7,B false)],[(3,(Au a0)),(4,[S a1]),(5,[S a2])],0⟩ (some 12) (fun st9=>(Be (EV (Bji L) L 9 Ckw.u.r) (Cp Tryz.prog (RS Tryz.f225) kk)) .normal st9))
theorem Cfq(a0:Ac)(a1:ByteArray)(a2:ByteArray)(o3:Int):Bct a0.Links a0 a1 a2 (Bn6 L kk a0 a1 a2) o3=ob (Wr L a0 o3) (Clo kk):=eE (Wr L a0 o3)
def Ayj [An A Tu6](a0:Ac)(a1:ByteArray)(a2:ByteArray):A:=(bd (Ajz L a0.Links a0 a1 a2) fun o3=>Wr L a0 o3)
def Akz(a0:Ac)(a1:ByteArray)(a2:ByteArray):Option Tu6:=Ayj L a0 a1 a2
def Ciu:F7:=E3 (fun(x:Tu6)=> .tup [I x.1,B x.2]) 225 Cu cS cS (Akz L) fun a0 a1 a2 r h=>hF Tryz.func225 (C:=Bji L) (oS _) L (fun kk=>eE ((ho (B3l L (Bn6 L kk a0 a1 a2) a0.Links a0 a1 a2) fun o3=>Cfq L kk a0 a1 a2 o3))) h
def Ckm:=CC Tryz.f193
def B9m:Bd:=oL [Buk L]
def Bqz(a0:Ao)(a2:Ad)(a1:Am)(v:Cs):St:=⟨[(0,.ref (I9 a0)),(1,.any),(2,.any),(4,.loc 4 0),(5,.loc 5 0),(6,I v.1),(18,lv (.t63 a2.Args)),(19,I (a2.Args.length:Int)),(20,I v.2)],[(4,(Cv a1)),(5,(Ej a2))],0⟩
def L5 [An A Cm](a0:Ao)(a2:Ad)(a1:Am)(rec:Int→Int→A)(C6:Int)(My:Int):A:=
 (lw My a2.Args
 (gi My a1.Params
 (bd (Bw L a0 (Ab.cp (a2.Args.getD (Int.toNat My) default)) [(a1.Params.getD (Int.toNat My) default).Type_]) fun r1=>
 (cn (r1 != 0)
 (lf (0,r1,My))
 (rec C6 (B7 (My+1))))))
 (lf (1,C6,My)))
def El(L:Nat)(a0:Ao)(a2:Ad)(a1:Am):Nat→Int→Int→Option Cm
 |0,_,_=>none
 |n+1,C6,My=>L5 L a0 a2 a1 (El L a0 a2 a1 n) C6 My
theorem B5g(a0:Ao)(a2:Ad)(a1:Am):LP (EV (B9m L) L 9 Ckm.w.l.u.l.l) [0,1,2,4,5,6,18,19,20] [4,5] (Bqz a0 a2 a1) [.ret,.exit 0] (fun n v=>El L a0 a2 a1 n v.1 v.2) K:=lE (fun _=>rfl) fun n v ih=>eE (L5 L a0 a2 a1 (fun C6 My=>re (ih (C6,My))) v.1 v.2)
def Il [An A Int](a0:Ao)(a2:Ad)(o2:Nat×Cs):A:=
 (sl o2.1 [(lf o2.2.1),
 (bd (Bw L a0 (Ab.cp a2.E) [3]) fun r3=>
 (lf r3))])
def Bnt:Ba:=(Av 0 (Be (EV (B9m L) L 9 Ckm.w.r) (Cp Tryz.prog (RS Tryz.f193) kk)))
theorem Cfd(a0:Ao)(a2:Ad)(a1:Am)(o2:Nat×Cs):kX [.ret,.exit 0] (Bqz a0 a2 a1) (Bnt L kk) o2=ob (Il L a0 a2 o2) (kQ I kk):=eE (Il L a0 a2 o2)
def Mc [An A Int](L:Nat)(a0:Ao)(a1:Am)(a2:Ad)(nx1:A):A:=
 (cn ((a2.Args.length:Int) != (a1.Params.length:Int))
 (lf 8)
 nx1)
def Afv [An A Int](a0:Ao)(a1:Am)(a2:Ad):A:=Mc L a0 a1 a2 (bd (El L a0 a2 a1 L 0 0) fun o2=>Il L a0 a2 o2)
def Ie(a0:Ao)(a1:Am)(a2:Ad):Option Int:=Afv L a0 a1 a2
def Cae:F7:=E3 I 193 Du Adm H7 (Ie L) fun a0 a1 a2 r h=>hF Tryz.func193 (C:=B9m L) (oS _) L (fun kk=>eE (Mc L a0 a1 a2 (ho (B5g L (Bnt L kk) a0 a2 a1 L (0,0)) fun o2=>Cfd L kk a0 a2 a1 o2))) h
def Xd [An A Int](a0:Ao)(a1:Ad):A:=
 (bd (d6 L a0.u_m a1.Of) fun r1=>
 (cn (decide (r1 < 0))
 (lf 5)
 (gi r1 a0.u_m.Sites
 (bd (Gi L (a0.u_m.Sites.getD (Int.toNat r1) default) a1.Name) fun r2=>
 (cn (decide (r2 < 0))
 (lf 5)
 (bd (Akz L a0.u_m a0.u_env.Site.Name a1.Of) fun r3=>
 (cn (!r3.2)
 (lf 16)
 (gi r1 a0.u_m.Sites
 (gi r2 ((a0.u_m.Sites.getD (Int.toNat r1) default).Routines)
 (bd (Ie L a0 (((a0.u_m.Sites.getD (Int.toNat r1) default).Routines).getD (Int.toNat r2) default) (Ad.cp a1)) fun r4=>
 (lf r4)))))))))))
def Ri(a0:Ao)(a1:Ad):Option Int:=Xd L a0 a1
def Cih:F7:=E2 I 192 Du H7 (Ri L) fun a0 a1 r h=>hF Tryz.func192 (oS [B92 L,Br1 L,Cae L,Ciu L]) L (fun kk=>eE (Xd L a0 a1)) h
def Bjq:=CC Tryz.f136
def Brv:Bd:=oL [Br1 L,Cie L,Cif L,Cad L,Buk L,Cig L,Cih L,Cae L]
def Bpu(a0:Ao)(a1:Ad)(p801_22:Bool):St:=⟨[(0,.ref (I9 a0)),(3,.loc 3 0),(4,I 0),(7,I a1.Op),(24,B p801_22)],[(3,(Ej a1))],0⟩
def Bpg(e0:EC):Ba:=(Av 0 (Be (EV (Brv L) L 9 e0) (Cp Tryz.prog (RS Tryz.f136) kk)))
def Na [An A Int](a0:Ao)(a1:Ad)(p801_22:Bool):A:=
 (cn p801_22
 (bd (Bw L a0 (Ab.cp a1.E) [2]) fun r4=>
 (lf r4))
 (cn (a1.Op == 5)
 (bd (Bw L a0 (Ab.cp a1.E) [3]) fun r5=>
 (lf r5))
 (cn (a1.Op == 6)
 (bd (B5 L a0 (Ad.cp a1) (⟨#[114,101,115,111,117,114,99,101]⟩:ByteArray) [(Ab.cp a1.E),(Ab.cp a1.F)]) fun r6=>
 (lf r6))
 (cn (a1.Op == 7)
 (bd (B5 L a0 (Ad.cp a1) (⟨#[114,101,115,111,117,114,99,101]⟩:ByteArray) [(Ab.cp a1.E)]) fun r7=>
 (lf r7))
 (cn (a1.Op == 8)
 (bd (B5 L a0 (Ad.cp a1) (⟨#[115,116,111,114,101]⟩:ByteArray) [(Ab.cp a1.E)]) fun r8=>
 (lf r8))
 (cn (a1.Op == 9)
 (bd (Gq L a0 a1.Name (⟨#[115,116,111,114,101]⟩:ByteArray)) fun r9=>
 (bd (Ig L a0 a1.Of r9 [1]) fun r10=>
 (lf r10)))
 (cn (a1.Op == 10)
 (bd (B5 L a0 (Ad.cp a1) (⟨#[98,101,108,116]⟩:ByteArray) []) fun r11=>
 (lf r11))
 (cn (a1.Op == 11)
 (bd (B5 L a0 (Ad.cp a1) (⟨#[113,117,101,117,101]⟩:ByteArray) []) fun r12=>
 (lf r12))
 (cn (a1.Op == 12)
 (bd (B5 L a0 (Ad.cp a1) (⟨#[113,117,101,117,101]⟩:ByteArray) [(Ab.cp a1.E)]) fun r13=>
 (lf r13))
 (cn (a1.Op == 13)
 (bd (Ri L a0 (Ad.cp a1)) fun r14=>
 (lf r14))
 (cn (a1.Op == 14)
 (bd (Gi L a0.u_env.Site a1.Name) fun r15=>
 (cn (decide (r15 < 0))
 (lf 5)
 (gi r15 a0.u_env.Site.Routines
 (bd (Ie L a0 (a0.u_env.Site.Routines.getD (Int.toNat r15) default) (Ad.cp a1)) fun r16=>
 (lf r16)))))
 (cn (a1.Op == 15)
 (bd (Gq L a0 a1.Name (⟨#[116,97,108,108,121]⟩:ByteArray)) fun r17=>
 (cn (!r17)
 (lf 5)
 (bd (Bw L a0 (Ab.cp a1.E) [1,3]) fun r18=>
 (lf r18))))
 (cn (a1.Op == 16)
 (bd (B5 L a0 (Ad.cp a1) (⟨#[108,101,118,101,108]⟩:ByteArray) [(Ab.cp a1.E)]) fun r19=>
 (lf r19))
 (cn (a1.Op == 17)
 (bd (B5 L a0 (Ad.cp a1) (⟨#[99,111,117,110,116]⟩:ByteArray) [(Ab.cp a1.E)]) fun r20=>
 (lf r20))
 (lf 0)))))))))))))))
theorem B1e(a0:Ao)(a1:Ad)(p801_22:Bool):EV (Brv L) L 9 Bjq.u.l.u.l.x (Bpu a0 a1 p801_22) (Bpg L kk Bjq.u.r)=ob (Na L a0 a1 p801_22) (kQ I kk):=eE (Na L a0 a1 p801_22)
def sx_typing_routine_own_0 [An A Int](a0:Ao)(a1:Ad)(nx1:Ao→Ad→Bool→A):A:=
 (cn (a1.Op == 1)
 (bd (So L a0 (Ad.cp a1)) fun r1=>
 (lf r1))
 (cn (a1.Op == 2)
 (bd (Gq L a0 a1.Of (⟨#[115,116,114,101,97,109]⟩:ByteArray)) fun r2=>
 (bd (Ig L a0 a1.Name r2 [1,3]) fun r3=>
 (lf r3)))
 (cn (a1.Op == 3)
 (nx1 a0 a1 (a1.Op == 3))
 (nx1 a0 a1 (a1.Op == 4)))))
def Ai9 [An A Int](a0:Ao)(a1:Ad):A:=sx_typing_routine_own_0 L a0 a1 (fun a0 a1 p801_22=>Na L a0 a1 p801_22)
theorem B14(a0:Ao)(a1:Ad)(z1:EC):EW (Brv L) L 9 (RS Tryz.f136) (EC.put (rl [2,1,2,1,8]) z1 Bjq) [.ref (I9 a0),.agg (Ej a1)] kk= @sx_typing_routine_own_0 Prop L (anP (kQ I kk)) a0 a1 (fun a0 a1 p801_22=>EV (Brv L) L 9 z1 (Bpu a0 a1 p801_22) (Bpg L kk Bjq.u.r)):=by kernel_rfl
def Md(a0:Ao)(a1:Ad):Option Int:=Ai9 L a0 a1
def B93:F7:=E2 I 136 Du H7 (Md L) fun a0 a1 r h=>hF Tryz.func136 (C:=Brv L) (oS _) L (fun kk=>Eq.trans (b:=EW (Brv L) L 9 (RS Tryz.f136) (EC.put (rl [2,1,2,1,8]) Bjq.u.l.u.l.x Bjq) [.ref (I9 a0),.agg (Ej a1)] kk) (by kernel_rfl) ((B14 L kk a0 a1 Bjq.u.l.u.l.x).trans (eE (sx_typing_routine_own_0 L a0 a1 (fun a0 a1 p801_22=>re (B1e L kk a0 a1 p801_22)))))) h
end
end Go.Proofs.YtofcpkmnhmnfcaaGreatR.Ev
