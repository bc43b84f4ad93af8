import Derived.Test.YtfencmicmnhglaaGreatG3
import Derived.Test.YtfencmicmnhglaaGreatG4
import Derived.Test.YtfencmicmnhglaaGreatG5
import Derived.Test.YtfencmicmnhglaaGreatG7
namespace Go.Proofs.YtfencmicmnhglaaGreat.Ev
open Go An
set_option maxRecDepth 100000
set_option maxHeartbeats 4000000
set_option linter.unusedVariables false
set_option linter.unusedSimpArgs false
set_option linter.unnecessarySimpa false
noncomputable section
variable {A:Type} (L n:Nat) (kk:Dm) (K:Be) (k:Bx)
def c25:=CC Tryz.f25
def Ck6:=CC Tryz.f219
def Ck7:=CC Tryz.f222
def A19:=CC Tryz.f203
def Aba:Bi:=oL [Bsn L,B9x L]
def Bp0:(ByteArray×Int)→Prop:=fun x=>kk ((fun(x:ByteArray×Int)=> .tup [S x.1,I x.2]) x)
def Brv(p1_0:List Al)(p1_1:Aa)(p1_2:ByteArray)(v:Cp):St:=⟨[(0,lv (.t77 p1_0)),(1,.clo 218 0 [.loc 3 0]),(4,I v.1),(7,I (p1_0.length:Int)),(8,I v.2)],[(2,(Ae p1_1)),(3,[S p1_2])],4⟩
def Yv [An A B8](L:Nat)(p1_0:List Al)(p1_1:Aa)(p1_2:ByteArray)(rec:Int→Int→A)(Ag:Int)(Ai:Int):A:=
 (lw Ai p1_0
 (cn (((p1_0.getD (Int.toNat Ai) default).Name).toList == p1_2.toList)
 (lf (0,Ai,Ai))
 (rec Ag (Cq (Ai+1))))
 (lf (1,Ag,Ai)))
def Kw(L:Nat)(p1_0:List Al)(p1_1:Aa)(p1_2:ByteArray):Nat→Int→Int→Option B8
 |0,_,_=>none
 |n+1,Ag,Ai=>Yv L p1_0 p1_1 p1_2 (Kw L p1_0 p1_1 p1_2 n) Ag Ai
theorem B5b(p1_0:List Al)(p1_1:Aa)(p1_2:ByteArray):LP (EV (Aba L) L 8 c25.u.l.u.l.l) [0,1,4,7,8] [2,3] (Brv p1_0 p1_1 p1_2) [.ret,.exit 0] (fun n v=>Kw L p1_0 p1_1 p1_2 n v.1 v.2) K:=lE (fun _=>rfl) fun n v ih=>eE (Yv L p1_0 p1_1 p1_2 (fun Ag Ai=>re (ih (Ag,Ai))) v.1 v.2)
def Bb6(p1_0:List Al)(p1_1:Aa)(p1_2:ByteArray)(k:Bx):Int→Prop:=fun o=>k (I o) [(2,(Ae p1_1)),(3,[S p1_2])]
def Za [An A Int](L:Nat)(o1:Nat×Cp):A:=
 (sl o1.1 [(lf o1.2.1),
 (lf (-1))])
def Bos:Be:=(Ax 0 (Bk (EV (Aba L) L 8 c25.u.r) (E8 Tryz.prog (RS Tryz.f25) k)))
theorem Ce3(p1_0:List Al)(p1_1:Aa)(p1_2:ByteArray)(o1:Nat×Cp):kX [.ret,.exit 0] (Brv p1_0 p1_1 p1_2) (Bos L k) o1=ob (Za L o1) (Bb6 p1_0 p1_1 p1_2 k):=eE (Za L o1)
def Anm [An A Int](p1_0:List Al)(p1_1:Aa)(p1_2:ByteArray):A:=(bd (Kw L p1_0 p1_1 p1_2 L 0 0) fun o1=>Za L o1)
def Yn(p1_0:List Al)(p1_1:Aa)(p1_2:ByteArray):Option Int:=Anm L p1_0 p1_1 p1_2
theorem B24(p1_0:List Al)(p1_1:Aa)(p1_2:ByteArray):YO (Aba L) L 9 25 [lv (.t77 p1_0),.clo 218 0 [.loc 3 0]] [(2,(Ae p1_1)),(3,[S p1_2])] k=ob (Yn L p1_0 p1_1 p1_2) (Bb6 p1_0 p1_1 p1_2 k):=(Dg _ _ _ jn4 _ _ _ _ _ _ _).trans (eE ((ho (B5b L (Bos L k) p1_0 p1_1 p1_2 L (0,0)) fun o1=>Ce3 L k p1_0 p1_1 p1_2 o1)))
def Brw(p2_0:List Af)(p2_1:Aa)(p2_2:ByteArray)(v:Cp):St:=⟨[(0,lv (.t145 p2_0)),(1,.clo 220 0 [.loc 3 0]),(4,I v.1),(7,I (p2_0.length:Int)),(8,I v.2)],[(2,(Ae p2_1)),(3,[S p2_2])],4⟩
def Yw [An A B8](L:Nat)(p2_0:List Af)(p2_1:Aa)(p2_2:ByteArray)(rec:Int→Int→A)(Ct:Int)(Bw:Int):A:=
 (lw Bw p2_0
 (cn (((p2_0.getD (Int.toNat Bw) default).Name).toList == p2_2.toList)
 (lf (0,Bw,Bw))
 (rec Ct (Cq (Bw+1))))
 (lf (1,Ct,Bw)))
def Kx(L:Nat)(p2_0:List Af)(p2_1:Aa)(p2_2:ByteArray):Nat→Int→Int→Option B8
 |0,_,_=>none
 |n+1,Ct,Bw=>Yw L p2_0 p2_1 p2_2 (Kx L p2_0 p2_1 p2_2 n) Ct Bw
theorem B5c(p2_0:List Af)(p2_1:Aa)(p2_2:ByteArray):LP (EV (Aba L) L 8 Ck6.u.l.u.l.l) [0,1,4,7,8] [2,3] (Brw p2_0 p2_1 p2_2) [.ret,.exit 0] (fun n v=>Kx L p2_0 p2_1 p2_2 n v.1 v.2) K:=lE (fun _=>rfl) fun n v ih=>eE (Yw L p2_0 p2_1 p2_2 (fun Ct Bw=>re (ih (Ct,Bw))) v.1 v.2)
def Bb7(p2_0:List Af)(p2_1:Aa)(p2_2:ByteArray)(k:Bx):Int→Prop:=fun o=>k (I o) [(2,(Ae p2_1)),(3,[S p2_2])]
def Zc [An A Int](L:Nat)(o3:Nat×Cp):A:=
 (sl o3.1 [(lf o3.2.1),
 (lf (-1))])
def Bov:Be:=(Ax 0 (Bk (EV (Aba L) L 8 Ck6.u.r) (E8 Tryz.prog (RS Tryz.f219) k)))
theorem Ce5(p2_0:List Af)(p2_1:Aa)(p2_2:ByteArray)(o3:Nat×Cp):kX [.ret,.exit 0] (Brw p2_0 p2_1 p2_2) (Bov L k) o3=ob (Zc L o3) (Bb7 p2_0 p2_1 p2_2 k):=eE (Zc L o3)
def Ann [An A Int](p2_0:List Af)(p2_1:Aa)(p2_2:ByteArray):A:=(bd (Kx L p2_0 p2_1 p2_2 L 0 0) fun o3=>Zc L o3)
def Yp(p2_0:List Af)(p2_1:Aa)(p2_2:ByteArray):Option Int:=Ann L p2_0 p2_1 p2_2
theorem B25(p2_0:List Af)(p2_1:Aa)(p2_2:ByteArray):YO (Aba L) L 9 219 [lv (.t145 p2_0),.clo 220 0 [.loc 3 0]] [(2,(Ae p2_1)),(3,[S p2_2])] k=ob (Yp L p2_0 p2_1 p2_2) (Bb7 p2_0 p2_1 p2_2 k):=(Dg _ _ _ jn4 _ _ _ _ _ _ _).trans (eE ((ho (B5c L (Bov L k) p2_0 p2_1 p2_2 L (0,0)) fun o3=>Ce5 L k p2_0 p2_1 p2_2 o3)))
def Brx(p3_0:List Aq)(p3_1:Aa)(p3_2:ByteArray)(v:Cp):St:=⟨[(0,lv (.t151 p3_0)),(1,.clo 221 0 [.loc 3 0]),(4,I v.1),(7,I (p3_0.length:Int)),(8,I v.2)],[(2,(Ae p3_1)),(3,[S p3_2])],4⟩
def Yx [An A B8](L:Nat)(p3_0:List Aq)(p3_1:Aa)(p3_2:ByteArray)(rec:Int→Int→A)(Jz:Int)(H0:Int):A:=
 (lw H0 p3_0
 (cn (((p3_0.getD (Int.toNat H0) default).Name).toList == p3_2.toList)
 (lf (0,H0,H0))
 (rec Jz (Cq (H0+1))))
 (lf (1,Jz,H0)))
def Ky(L:Nat)(p3_0:List Aq)(p3_1:Aa)(p3_2:ByteArray):Nat→Int→Int→Option B8
 |0,_,_=>none
 |n+1,Jz,H0=>Yx L p3_0 p3_1 p3_2 (Ky L p3_0 p3_1 p3_2 n) Jz H0
theorem B5d(p3_0:List Aq)(p3_1:Aa)(p3_2:ByteArray):LP (EV (Aba L) L 8 B0k.u.l.u.l.l) [0,1,4,7,8] [2,3] (Brx p3_0 p3_1 p3_2) [.ret,.exit 0] (fun n v=>Ky L p3_0 p3_1 p3_2 n v.1 v.2) K:=lE (fun _=>rfl) fun n v ih=>eE (Yx L p3_0 p3_1 p3_2 (fun Jz H0=>re (ih (Jz,H0))) v.1 v.2)
def Bb8(p3_0:List Aq)(p3_1:Aa)(p3_2:ByteArray)(k:Bx):Int→Prop:=fun o=>k (I o) [(2,(Ae p3_1)),(3,[S p3_2])]
def Ze [An A Int](L:Nat)(o5:Nat×Cp):A:=
 (sl o5.1 [(lf o5.2.1),
 (lf (-1))])
def Box:Be:=(Ax 0 (Bk (EV (Aba L) L 8 B0k.u.r) (E8 Tryz.prog (RS Tryz.f201) k)))
theorem Ce7(p3_0:List Aq)(p3_1:Aa)(p3_2:ByteArray)(o5:Nat×Cp):kX [.ret,.exit 0] (Brx p3_0 p3_1 p3_2) (Box L k) o5=ob (Ze L o5) (Bb8 p3_0 p3_1 p3_2 k):=eE (Ze L o5)
def Ano [An A Int](p3_0:List Aq)(p3_1:Aa)(p3_2:ByteArray):A:=(bd (Ky L p3_0 p3_1 p3_2 L 0 0) fun o5=>Ze L o5)
def Yq(p3_0:List Aq)(p3_1:Aa)(p3_2:ByteArray):Option Int:=Ano L p3_0 p3_1 p3_2
theorem B26(p3_0:List Aq)(p3_1:Aa)(p3_2:ByteArray):YO (Aba L) L 9 201 [lv (.t151 p3_0),.clo 221 0 [.loc 3 0]] [(2,(Ae p3_1)),(3,[S p3_2])] k=ob (Yq L p3_0 p3_1 p3_2) (Bb8 p3_0 p3_1 p3_2 k):=(Dg _ _ _ jn4 _ _ _ _ _ _ _).trans (eE ((ho (B5d L (Box L k) p3_0 p3_1 p3_2 L (0,0)) fun o5=>Ce7 L k p3_0 p3_1 p3_2 o5)))
def Bry(p4_0:List Au)(p4_1:Aa)(p4_2:ByteArray)(v:Cp):St:=⟨[(0,lv (.t155 p4_0)),(1,.clo 223 0 [.loc 3 0]),(4,I v.1),(7,I (p4_0.length:Int)),(8,I v.2)],[(2,(Ae p4_1)),(3,[S p4_2])],4⟩
def Yy [An A B8](L:Nat)(p4_0:List Au)(p4_1:Aa)(p4_2:ByteArray)(rec:Int→Int→A)(Kf:Int)(Qd:Int):A:=
 (lw Qd p4_0
 (cn (((p4_0.getD (Int.toNat Qd) default).Name).toList == p4_2.toList)
 (lf (0,Qd,Qd))
 (rec Kf (Cq (Qd+1))))
 (lf (1,Kf,Qd)))
def Kz(L:Nat)(p4_0:List Au)(p4_1:Aa)(p4_2:ByteArray):Nat→Int→Int→Option B8
 |0,_,_=>none
 |n+1,Kf,Qd=>Yy L p4_0 p4_1 p4_2 (Kz L p4_0 p4_1 p4_2 n) Kf Qd
theorem B5e(p4_0:List Au)(p4_1:Aa)(p4_2:ByteArray):LP (EV (Aba L) L 8 Ck7.u.l.u.l.l) [0,1,4,7,8] [2,3] (Bry p4_0 p4_1 p4_2) [.ret,.exit 0] (fun n v=>Kz L p4_0 p4_1 p4_2 n v.1 v.2) K:=lE (fun _=>rfl) fun n v ih=>eE (Yy L p4_0 p4_1 p4_2 (fun Kf Qd=>re (ih (Kf,Qd))) v.1 v.2)
def Bb9(p4_0:List Au)(p4_1:Aa)(p4_2:ByteArray)(k:Bx):Int→Prop:=fun o=>k (I o) [(2,(Ae p4_1)),(3,[S p4_2])]
def Wf [An A Int](L:Nat)(o7:Nat×Cp):A:=
 (sl o7.1 [(lf o7.2.1),
 (lf (-1))])
def Bgx:Be:=(Ax 0 (Bk (EV (Aba L) L 8 Ck7.u.r) (E8 Tryz.prog (RS Tryz.f222) k)))
theorem B58(p4_0:List Au)(p4_1:Aa)(p4_2:ByteArray)(o7:Nat×Cp):kX [.ret,.exit 0] (Bry p4_0 p4_1 p4_2) (Bgx L k) o7=ob (Wf L o7) (Bb9 p4_0 p4_1 p4_2 k):=eE (Wf L o7)
def Anp [An A Int](p4_0:List Au)(p4_1:Aa)(p4_2:ByteArray):A:=(bd (Kz L p4_0 p4_1 p4_2 L 0 0) fun o7=>Wf L o7)
def Yr(p4_0:List Au)(p4_1:Aa)(p4_2:ByteArray):Option Int:=Anp L p4_0 p4_1 p4_2
theorem B27(p4_0:List Au)(p4_1:Aa)(p4_2:ByteArray):YO (Aba L) L 9 222 [lv (.t155 p4_0),.clo 223 0 [.loc 3 0]] [(2,(Ae p4_1)),(3,[S p4_2])] k=ob (Yr L p4_0 p4_1 p4_2) (Bb9 p4_0 p4_1 p4_2 k):=(Dg _ _ _ jn4 _ _ _ _ _ _ _).trans (eE ((ho (B5e L (Bgx L k) p4_0 p4_1 p4_2 L (0,0)) fun o7=>B58 L k p4_0 p4_1 p4_2 o7)))
def R5 [An A (ByteArray×Int)](a0:Aa)(a1:ByteArray)(o8:Int):A:=
 (cn (decide (o8≥0))
 (lf ((⟨#[98,101,108,116]⟩:ByteArray),o8))
 (bd (Eb L a0.Queues a1) fun r9=>
 (cn (decide (r9≥0))
 (lf ((⟨#[113,117,101,117,101]⟩:ByteArray),r9))
 (bd (Eb L a0.Streams a1) fun r10=>
 (cn (decide (r10≥0))
 (lf ((⟨#[115,116,114,101,97,109]⟩:ByteArray),r10))
 (bd (Eb L a0.Tallies a1) fun r11=>
 (cn (decide (r11≥0))
 (lf ((⟨#[116,97,108,108,121]⟩:ByteArray),r11))
 (bd (Eb L a0.Levels a1) fun r12=>
 (cn (decide (r12≥0))
 (lf ((⟨#[108,101,118,101,108]⟩:ByteArray),r12))
 (bd (Eb L a0.Counts a1) fun r13=>
 (cn (decide (r13≥0))
 (lf ((⟨#[99,111,117,110,116]⟩:ByteArray),r13))
 (bd (Gm L a0 a1) fun r14=>
 (cn (decide (r14≥0))
 (lf ((⟨#[114,111,117,116,105,110,101]⟩:ByteArray),r14))
 (lf ((⟨#[]⟩:ByteArray),(-1))))))))))))))))
def Bgy(a0:Aa)(a1:ByteArray):Bx:=(Cm Tryz.prog (Aba L) (EI (Aba L) L 9) 1 (List.drop 4 A19.x.l.l.ops) ⟨[(39,.clo 223 0 [.loc 3 0]),(38,lv (.t155 a0.Belts)),(37,.loc 2 4),(2,.loc 2 0),(3,.loc 3 0),(4,S (⟨#[]⟩:ByteArray)),(5,I 0)],[(2,(Ae a0)),(3,[S a1])],0⟩ (some 40) (fun st9=>(Bk (EV (Aba L) L 9 A19.x.l.r) (Bk (EV (Aba L) L 9 A19.x.r) (C0 Tryz.prog (RS Tryz.f203) kk))) .normal st9))
theorem B59(a0:Aa)(a1:ByteArray)(o8:Int):Bb9 a0.Belts a0 a1 (Bgy L kk a0 a1) o8=ob (R5 L a0 a1 o8) (Bp0 kk):=eE (R5 L a0 a1 o8)
def Wp [An A (ByteArray×Int)](L:Nat)(a0:Aa)(a1:ByteArray)(o6:Int)(nx12:A):A:=
 (cn (decide (o6≥0))
 (lf ((⟨#[115,116,111,114,101]⟩:ByteArray),o6))
 nx12)
def Zf [An A (ByteArray×Int)](a0:Aa)(a1:ByteArray)(o6:Int):A:=Wp L a0 a1 o6 (bd (Yr L a0.Belts a0 a1) fun o8=>R5 L a0 a1 o8)
def Boy(a0:Aa)(a1:ByteArray):Bx:=(Cm Tryz.prog (Aba L) (EI (Aba L) L 9) 1 (List.drop 4 A19.w.u.l.l.ops) ⟨[(32,.clo 221 0 [.loc 3 0]),(31,lv (.t151 a0.Stores)),(30,.loc 2 3),(2,.loc 2 0),(3,.loc 3 0),(4,S (⟨#[]⟩:ByteArray)),(5,I 0)],[(2,(Ae a0)),(3,[S a1])],0⟩ (some 33) (fun st9=>(Bk (EV (Aba L) L 9 A19.w.u.l.r) (Bk (EV (Aba L) L 9 A19.w.u.r) (C0 Tryz.prog (RS Tryz.f203) kk))) .normal st9))
theorem Ce8(a0:Aa)(a1:ByteArray)(o6:Int):Bb8 a0.Stores a0 a1 (Boy L kk a0 a1) o6=ob (Zf L a0 a1 o6) (Bp0 kk):=eE (Wp L a0 a1 o6 (ho (B27 L (Bgy L kk a0 a1) a0.Belts a0 a1) fun o8=>B59 L kk a0 a1 o8))
def Zs [An A (ByteArray×Int)](L:Nat)(a0:Aa)(a1:ByteArray)(o4:Int)(nx9:A):A:=
 (cn (decide (o4≥0))
 (lf ((⟨#[114,101,115,111,117,114,99,101]⟩:ByteArray),o4))
 nx9)
def Zd [An A (ByteArray×Int)](a0:Aa)(a1:ByteArray)(o4:Int):A:=Zs L a0 a1 o4 (bd (Yq L a0.Stores a0 a1) fun o6=>Zf L a0 a1 o6)
def Bow(a0:Aa)(a1:ByteArray):Bx:=(Cm Tryz.prog (Aba L) (EI (Aba L) L 9) 1 (List.drop 4 A19.w.l.l.ops) ⟨[(25,.clo 220 0 [.loc 3 0]),(24,lv (.t145 a0.Resources)),(23,.loc 2 2),(2,.loc 2 0),(3,.loc 3 0),(4,S (⟨#[]⟩:ByteArray)),(5,I 0)],[(2,(Ae a0)),(3,[S a1])],0⟩ (some 26) (fun st9=>(Bk (EV (Aba L) L 9 A19.w.l.r) (Bk (EV (Aba L) L 9 A19.w.r) (C0 Tryz.prog (RS Tryz.f203) kk))) .normal st9))
theorem Ce6(a0:Aa)(a1:ByteArray)(o4:Int):Bb7 a0.Resources a0 a1 (Bow L kk a0 a1) o4=ob (Zd L a0 a1 o4) (Bp0 kk):=eE (Zs L a0 a1 o4 (ho (B26 L (Boy L kk a0 a1) a0.Stores a0 a1) fun o6=>Ce8 L kk a0 a1 o6))
def Zr [An A (ByteArray×Int)](L:Nat)(a0:Aa)(a1:ByteArray)(o2:Int)(nx6:A):A:=
 (cn (decide (o2≥0))
 (lf ((⟨#[118,97,114]⟩:ByteArray),o2))
 nx6)
def Zb [An A (ByteArray×Int)](a0:Aa)(a1:ByteArray)(o2:Int):A:=Zr L a0 a1 o2 (bd (Yp L a0.Resources a0 a1) fun o4=>Zd L a0 a1 o4)
def Bou(a0:Aa)(a1:ByteArray):Bx:=(Cm Tryz.prog (Aba L) (EI (Aba L) L 9) 1 (List.drop 4 A19.u.l.l.ops) ⟨[(18,.clo 218 0 [.loc 3 0]),(17,lv (.t77 a0.Vars)),(16,.loc 2 1),(2,.loc 2 0),(3,.loc 3 0),(4,S (⟨#[]⟩:ByteArray)),(5,I 0)],[(2,(Ae a0)),(3,[S a1])],0⟩ (some 19) (fun st9=>(Bk (EV (Aba L) L 9 A19.u.l.r) (Bk (EV (Aba L) L 9 A19.u.r) (C0 Tryz.prog (RS Tryz.f203) kk))) .normal st9))
theorem Ce4(a0:Aa)(a1:ByteArray)(o2:Int):Bb6 a0.Vars a0 a1 (Bou L kk a0 a1) o2=ob (Zb L a0 a1 o2) (Bp0 kk):=eE (Zr L a0 a1 o2 (ho (B25 L (Bow L kk a0 a1) a0.Resources a0 a1) fun o4=>Ce6 L kk a0 a1 o4))
def At9 [An A (ByteArray×Int)](a0:Aa)(a1:ByteArray):A:=(bd (Yn L a0.Vars a0 a1) fun o2=>Zb L a0 a1 o2)
def Afv(a0:Aa)(a1:ByteArray):Option (ByteArray×Int):=At9 L a0 a1
def Cii:Gh:=E2 (fun(x:ByteArray×Int)=> .tup [S x.1,I x.2]) 203 C3 cS (Afv L) fun a0 a1 r h=>hF Tryz.func203 (C:=Aba L) (oS _) L (fun kk=>eE ((ho (B24 L (Bou L kk a0 a1) a0.Vars a0 a1) fun o2=>Ce4 L kk a0 a1 o2))) h
def Apa [An A ByteArray](a0:Aa)(a1:ByteArray):A:=
 (bd (Afv L a0 a1) fun r1=>
 (lf r1.1))
def Aa4(a0:Aa)(a1:ByteArray):Option ByteArray:=Apa L a0 a1
def B0d:Gh:=E2 S 185 C3 cS (Aa4 L) fun a0 a1 r h=>hF Tryz.func185 (oS [Cii L]) L (fun kk=>eE (Apa L a0 a1)) h
def Ahp [An A Bool](L:Nat)(a0:Int)(a1:ByteArray):A:=
 (cn (a0 == 22)
 (lf (a1.toList == (⟨#[114,101,115,111,117,114,99,101]⟩:ByteArray).toList))
 (cn (a0 == 23)
 (lf (a1.toList == (⟨#[115,116,111,114,101]⟩:ByteArray).toList))
 (jp (.cn (a1.toList == (⟨#[114,101,115,111,117,114,99,101]⟩:ByteArray).toList)
 (.lf true)
 (.lf (a1.toList == (⟨#[113,117,101,117,101]⟩:ByteArray).toList))) (fun b1=>
 (lf b1)))))
def t6(a0:Int)(a1:ByteArray):Option Bool:=Ahp L a0 a1
def B96:Gh:=E2 B 225 (cI .i64) cS (t6 L) fun a0 a1 r h=>hF Tryz.func225 (oS []) L (fun kk=>eE (Ahp L a0 a1)) h
def Abf [An A Bool](L:Nat)(a0:Int):A:=
 (jp (.cn (a0 == 1)
 (.lf true)
 (.lf (a0 == 3))) (fun b1=>
 (lf b1)))
def H2(a0:Int):Option Bool:=Abf L a0
def Cad:Gh:=E1 B 233 (cI .i64) (H2 L) fun a0 r h=>hF Tryz.func233 (oS []) L (fun kk=>eE (Abf L a0)) h
def Aju [An A Int](a0:Int)(a1:Int):A:=
 (jb (.cn (a0 == 5)
 (.bd (H2 L a1) fun r2=>
 (.lf r2))
 (.lf false)) (fun b1=>
 (cn b1
 (cn b1
 (lf a1)
 (jp (.cn (a0 == 7)
 (.lf (a1 == 1))
 (.lf false)) (fun b3=>
 (cn b3
 (lf 3)
 (jp (.cn (a0 == 8)
 (.lf (a1 == 3))
 (.lf false)) (fun b4=>
 (cn b4
 (lf 1)
 (lf 0))))))))
 (jp (.cn (a0 == 6)
 (.lf (a1 == 2))
 (.lf false)) (fun b5=>
 (cn b5
 (lf a1)
 (jp (.cn (a0 == 7)
 (.lf (a1 == 1))
 (.lf false)) (fun b6=>
 (cn b6
 (lf 3)
 (jp (.cn (a0 == 8)
 (.lf (a1 == 3))
 (.lf false)) (fun b7=>
 (cn b7
 (lf 1)
 (lf 0)))))))))))))
def Aa7(a0:Int)(a1:Int):Option Int:=Aju L a0 a1
def B97:Gh:=E2 I 226 (cI .i64) (cI .i64) (Aa7 L) fun a0 a1 r h=>hF Tryz.func226 (oS [Cad L]) L (fun kk=>eE (Aju L a0 a1)) h
def Uq:=CC Tryz.f227
def Aip:Bi:=oL [Cad L]
def Bqk(a1:Int)(a2:Int)(p802_3:Bool):St:=⟨[(1,I a1),(2,I a2),(6,I 0),(47,B p802_3)],[],0⟩
def Bp5(e0:EC):Be:=(Ax 2 (Ax 0 (Bk (EV (Aip L) L 9 e0) (C0 Tryz.prog (RS Tryz.f227) kk))))
def U1 [An A Int](L:Nat)(a1:Int)(a2:Int)(p802_3:Bool):A:=
 (cn p802_3
 (lf 1)
 (jp (.cn (a1 == 3)
 (.lf (a2 == 1))
 (.lf false)) (fun b9=>
 (cn b9
 (lf 3)
 (lf 0)))))
theorem B09(a1:Int)(a2:Int)(p802_3:Bool):EV (Aip L) L 9 Uq.w.l.u.l.x.l.l.u (Bqk a1 a2 p802_3) (Bp5 L kk Uq.w.r)=ob (U1 L a1 a2 p802_3) (kQ I kk):=eE (U1 L a1 a2 p802_3)
def Bql(a1:Int)(a2:Int)(p805_3:Bool):St:=⟨[(1,I a1),(2,I a2),(6,I 0),(78,B p805_3)],[],0⟩
def Bp6(e0:EC):Be:=(Ax 0 (Bk (EV (Aip L) L 9 e0) (C0 Tryz.prog (RS Tryz.f227) kk)))
def U2 [An A Int](L:Nat)(a1:Int)(a2:Int)(p805_3:Bool):A:=
 (cn p805_3
 (jp (.cn (a1 == 2)
 (.lf (a2 == 2))
 (.lf false)) (fun b12=>
 (cn b12
 (lf 2)
 (lf 0))))
 (lf 0))
theorem B1c(a1:Int)(a2:Int)(p805_3:Bool):EV (Aip L) L 9 Uq.w.l.u.l.x.x.r (Bql a1 a2 p805_3) (Bp6 L kk Uq.w.r)=ob (U2 L a1 a2 p805_3) (kQ I kk):=eE (U2 L a1 a2 p805_3)
def A4u(a1:Int)(a2:Int)(a0:Int)(p804_4:Bool):St:=⟨[(1,I a1),(2,I a2),(6,I 0),(14,I a0),(68,B p804_4)],[],0⟩
def A4b(e0:EC):Be:=(Ax 0 (Bk (EV (Aip L) L 9 e0) (C0 Tryz.prog (RS Tryz.f227) kk)))
def sx_typing_binary_4 [An A Int](a1:Int)(a2:Int)(a0:Int)(p804_4:Bool)(nx5:Int→Int→Bool→A):A:=
 (cn p804_4
 (jb (.cn (a1 == a2)
 (.bd (H2 L a1) fun r11=>
 (.lf r11))
 (.lf false)) (fun b10=>
 (cn b10
 (lf 2)
 (lf 0))))
 (cn (a0 == 18)
 (nx5 a1 a2 (a0 == 18))
 (nx5 a1 a2 (a0 == 19))))
def Aak [An A Int](a1:Int)(a2:Int)(a0:Int)(p804_4:Bool):A:=sx_typing_binary_4 L a1 a2 a0 p804_4 (fun a1 a2 p805_3=>U2 L a1 a2 p805_3)
theorem B12(a1:Int)(a2:Int)(a0:Int)(p804_4:Bool)(z5:EC):EV (Aip L) L 9 (EC.put (rl [3]) z5 Uq.w.l.u.l.x.w.u) (A4u a1 a2 a0 p804_4) (A4b L kk Uq.w.r)= @sx_typing_binary_4 Prop L (anP (kQ I kk)) a1 a2 a0 p804_4 (fun a1 a2 p805_3=>EV (Aip L) L 9 z5 (Bql a1 a2 p805_3) (Bp6 L kk Uq.w.r)):=by kernel_rfl
theorem B1b(a1:Int)(a2:Int)(a0:Int)(p804_4:Bool):EV (Aip L) L 9 Uq.w.l.u.l.x.w.u (A4u a1 a2 a0 p804_4) (A4b L kk Uq.w.r)=ob (Aak L a1 a2 a0 p804_4) (kQ I kk):=Eq.trans (b:=EV (Aip L) L 9 (EC.put (rl [3]) Uq.w.l.u.l.x.x.r Uq.w.l.u.l.x.w.u) (A4u a1 a2 a0 p804_4) (A4b L kk Uq.w.r)) (by kernel_rfl) ((B12 L kk a1 a2 a0 p804_4 Uq.w.l.u.l.x.x.r).trans (eE (sx_typing_binary_4 L a1 a2 a0 p804_4 (fun a1 a2 p805_3=>re (B1c L kk a1 a2 p805_3)))))
def A4t(a1:Int)(a2:Int)(a0:Int)(p803_4:Bool):St:=⟨[(1,I a1),(2,I a2),(6,I 0),(14,I a0),(62,B p803_4)],[],0⟩
def A4a(e0:EC):Be:=(Ax 0 (Bk (EV (Aip L) L 9 e0) (C0 Tryz.prog (RS Tryz.f227) kk)))
def sx_typing_binary_3 [An A Int](L:Nat)(a1:Int)(a2:Int)(a0:Int)(p803_4:Bool)(nx4:Int→Int→Int→Bool→A):A:=
 (cn p803_4
 (cn (a1 == a2)
 (lf 2)
 (lf 0))
 (cn (a0 == 16)
 (nx4 a1 a2 a0 (a0 == 16))
 (nx4 a1 a2 a0 (a0 == 17))))
def Aaj [An A Int](a1:Int)(a2:Int)(a0:Int)(p803_4:Bool):A:=sx_typing_binary_3 L a1 a2 a0 p803_4 (fun a1 a2 a0 p804_4=>Aak L a1 a2 a0 p804_4)
theorem B11(a1:Int)(a2:Int)(a0:Int)(p803_4:Bool)(z4:EC):EV (Aip L) L 9 (EC.put (rl [3]) z4 Uq.w.l.u.l.x.u.r) (A4t a1 a2 a0 p803_4) (A4a L kk Uq.w.r)= @sx_typing_binary_3 Prop (anP (kQ I kk)) L a1 a2 a0 p803_4 (fun a1 a2 a0 p804_4=>EV (Aip L) L 9 z4 (A4u a1 a2 a0 p804_4) (A4b L kk Uq.w.r)):=by kernel_rfl
theorem B1a(a1:Int)(a2:Int)(a0:Int)(p803_4:Bool):EV (Aip L) L 9 Uq.w.l.u.l.x.u.r (A4t a1 a2 a0 p803_4) (A4a L kk Uq.w.r)=ob (Aaj L a1 a2 a0 p803_4) (kQ I kk):=Eq.trans (b:=EV (Aip L) L 9 (EC.put (rl [3]) Uq.w.l.u.l.x.w.u Uq.w.l.u.l.x.u.r) (A4t a1 a2 a0 p803_4) (A4a L kk Uq.w.r)) (by kernel_rfl) ((B11 L kk a1 a2 a0 p803_4 Uq.w.l.u.l.x.w.u).trans (eE (sx_typing_binary_3 L a1 a2 a0 p803_4 (fun a1 a2 a0 p804_4=>re (B1b L kk a1 a2 a0 p804_4)))))
def A4s(a1:Int)(a2:Int)(b1:Bool)(a0:Int)(p801_5:Bool):St:=⟨[(1,I a1),(2,I a2),(6,I 0),(7,B b1),(14,I a0),(15,B p801_5)],[],0⟩
def A39(e0:EC):Be:=(Ax 0 (Bk (EV (Aip L) L 9 e0) (C0 Tryz.prog (RS Tryz.f227) kk)))
def sx_typing_binary_1 [An A Int](a1:Int)(a2:Int)(b1:Bool)(a0:Int)(p801_5:Bool)(nx2:Int→Int→Bool→A)(nx3:Int→Int→Int→Bool→A):A:=
 (cn p801_5
 (jb (.cn (a1 == a2)
 (.bd (H2 L a1) fun r3=>
 (.lf r3))
 (.lf false)) (fun b2=>
 (cn b2
 (lf a1)
 (lf 0))))
 (cn (a0 == 11)
 (cn b1
 (lf 1)
 (bd (H2 L a1) fun r4=>
 (jb (.cn r4
 (.bd (H2 L a2) fun r6=>
 (.lf r6))
 (.lf false)) (fun b5=>
 (jp (.cn b5
 (.lf (a1 != a2))
 (.lf false)) (fun b7=>
 (cn b7
 (lf 3)
 (lf 0))))))))
 (cn (a0 == 12)
 (cn b1
 (nx2 a1 a2 b1)
 (jp (.cn (a1 == 3)
 (.lf (a2 == 3))
 (.lf false)) (fun b8=>
 (nx2 a1 a2 b8))))
 (cn (a0 == 14)
 (nx3 a1 a2 a0 (a0 == 14))
 (nx3 a1 a2 a0 (a0 == 15))))))
def Aai [An A Int](a1:Int)(a2:Int)(b1:Bool)(a0:Int)(p801_5:Bool):A:=sx_typing_binary_1 L a1 a2 b1 a0 p801_5 (fun a1 a2 p802_3=>U1 L a1 a2 p802_3) (fun a1 a2 a0 p803_4=>Aaj L a1 a2 a0 p803_4)
theorem B10(a1:Int)(a2:Int)(b1:Bool)(a0:Int)(p801_5:Bool)(z2 z3:EC):EV (Aip L) L 9 (EC.put (rl [9]) z3 (EC.put (rl [6,2,2]) z2 Uq.w.l.u.l.u)) (A4s a1 a2 b1 a0 p801_5) (A39 L kk Uq.w.r)= @sx_typing_binary_1 Prop L (anP (kQ I kk)) a1 a2 b1 a0 p801_5 (fun a1 a2 p802_3=>EV (Aip L) L 9 z2 (Bqk a1 a2 p802_3) (Bp5 L kk Uq.w.r)) (fun a1 a2 a0 p803_4=>EV (Aip L) L 9 z3 (A4t a1 a2 a0 p803_4) (A4a L kk Uq.w.r)):=by kernel_rfl
theorem B08(a1:Int)(a2:Int)(b1:Bool)(a0:Int)(p801_5:Bool):EV (Aip L) L 9 Uq.w.l.u.l.u (A4s a1 a2 b1 a0 p801_5) (A39 L kk Uq.w.r)=ob (Aai L a1 a2 b1 a0 p801_5) (kQ I kk):=Eq.trans (b:=EV (Aip L) L 9 (EC.put (rl [9]) Uq.w.l.u.l.x.u.r (EC.put (rl [6,2,2]) Uq.w.l.u.l.x.l.l.u Uq.w.l.u.l.u)) (A4s a1 a2 b1 a0 p801_5) (A39 L kk Uq.w.r)) (by kernel_rfl) ((B10 L kk a1 a2 b1 a0 p801_5 Uq.w.l.u.l.x.l.l.u Uq.w.l.u.l.x.u.r).trans (eE (sx_typing_binary_1 L a1 a2 b1 a0 p801_5 (fun a1 a2 p802_3=>re (B09 L kk a1 a2 p802_3)) (fun a1 a2 a0 p803_4=>re (B1a L kk a1 a2 a0 p803_4)))))
def sx_typing_binary_0 [An A Int](L:Nat)(a0:Int)(a1:Int)(a2:Int)(nx1:Int→Int→Bool→Int→Bool→A):A:=
 (jp (.cn (a1 == 1)
 (.lf (a2 == 1))
 (.lf false)) (fun b1=>
 (cn (a0 == 9)
 (nx1 a1 a2 b1 a0 (a0 == 9))
 (cn (a0 == 10)
 (nx1 a1 a2 b1 a0 (a0 == 10))
 (cn (a0 == 13)
 (nx1 a1 a2 b1 a0 (a0 == 13))
 (cn (a0 == 20)
 (nx1 a1 a2 b1 a0 (a0 == 20))
 (nx1 a1 a2 b1 a0 (a0 == 21))))))))
def Aqd [An A Int](a0:Int)(a1:Int)(a2:Int):A:=sx_typing_binary_0 L a0 a1 a2 (fun a1 a2 b1 a0 p801_5=>Aai L a1 a2 b1 a0 p801_5)
theorem B1z(a0:Int)(a1:Int)(a2:Int)(z1:EC):EW (Aip L) L 9 (RS Tryz.f227) (EC.put (rl [4,1,2,1,2]) z1 Uq) [I a0,I a1,I a2] kk= @sx_typing_binary_0 Prop (anP (kQ I kk)) L a0 a1 a2 (fun a1 a2 b1 a0 p801_5=>EV (Aip L) L 9 z1 (A4s a1 a2 b1 a0 p801_5) (A39 L kk Uq.w.r)):=by kernel_rfl
def t5(a0:Int)(a1:Int)(a2:Int):Option Int:=Aqd L a0 a1 a2
def B98:Gh:=E3 I 227 (cI .i64) (cI .i64) (cI .i64) (t5 L) fun a0 a1 a2 r h=>hF Tryz.func227 (C:=Aip L) (oS _) L (fun kk=>Eq.trans (b:=EW (Aip L) L 9 (RS Tryz.f227) (EC.put (rl [4,1,2,1,2]) Uq.w.l.u.l.u Uq) [I a0,I a1,I a2] kk) (by kernel_rfl) ((B1z L kk a0 a1 a2 Uq.w.l.u.l.u).trans (eE (sx_typing_binary_0 L a0 a1 a2 (fun a1 a2 b1 a0 p801_5=>re (B08 L kk a1 a2 b1 a0 p801_5)))))) h
def Bl0(F:Ar→Ab→Option Cp):Prop:=∀y0 y1 r,F y0 y1=some r→Ho Tryz.prog 204 [Gj.en y0,Bu.en y1] (fun(x:Cp)=> .tup [I x.1,I x.2]) r
def Ckx:=CC Tryz.f204
def B9b(Ga:Ar→Ab→Option Cp)(L:Nat):Bi:=(orc 204 (A2 (fun(x:Cp)=> .tup [I x.1,I x.2]) Gj Bu Ga) (oL [B0d L,B95 L,B96 L,B97 L,B98 L]))
theorem Cra(Ga:Ar→Ab→Option Cp)(Bv3:Bl0 Ga)(L:Nat):Er Tryz.prog (B9b Ga L):=(Hk (a2 _ Bv3) (oS [B0d L,B95 L,B96 L,B97 L,B98 L]))
def Cl0(kk:Dm):Cp→Prop:=fun x=>kk ((fun(x:Cp)=> .tup [I x.1,I x.2]) x)
def Brz(a1:Ab)(a0:Ar)(v:Int×Int×List Int×Int):St:=⟨[(0,.any),(1,.any),(2,.loc 2 0),(3,.loc 3 0),(4,I v.1),(5,I v.2.1),(6,.lst true (.t75 v.2.2.1)),(11,.any),(12,.any),(13,.any),(15,lv (.t94 a1.Kids)),(16,I (a1.Kids.length:Int)),(17,I v.2.2.2),(35,.any),(49,.any),(62,.any),(72,.any),(85,.any),(89,.any),(93,.any)],[(2,(Kq a0)),(3,(Dd a1))],0⟩
def Y2 [An A (Nat×Int×Int×List Int×Int)](Ga:Ar→Ab→Option Cp)(L:Nat)(a1:Ab)(a0:Ar)(rec:Int→Int→List Int→Int→A)(Ao:Int)(Ag:Int)(Aj:List Int)(Qk:Int):A:=
 (lw Qk a1.Kids
 (bd (Ga a0 (Ab.cp (a1.Kids.getD (Int.toNat Qk) default))) fun r1=>
 (cn (r1.2 != 0)
 (lf (0,0,r1.2,Aj,Qk))
 (gq ((Aj.length+ [r1.1].length)*8≤140737488355328)
 (gq (Aj.length+ [r1.1].length≤maxLen)
 (rec Ao Ag (Aj++ [r1.1]) (Cq (Qk+1)))))))
 (lf (1,Ao,Ag,Aj,Qk)))
def K4(Ga:Ar→Ab→Option Cp)(L:Nat)(a1:Ab)(a0:Ar):Nat→Int→Int→List Int→Int→Option (Nat×Int×Int×List Int×Int)
 |0,_,_,_,_=>none
 |n+1,Ao,Ag,Aj,Qk=>Y2 Ga L a1 a0 (K4 Ga L a1 a0 n) Ao Ag Aj Qk
theorem B5f(Ga:Ar→Ab→Option Cp)(L:Nat)(K:Be)(a1:Ab)(a0:Ar):LP (EV (B9b Ga L) L 9 Ckx.w.l.u.l.l) [0,1,2,3,4,5,6,11,12,13,15,16,17,35,49,62,72,85,89,93] [2,3] (Brz a1 a0) [.ret,.exit 0] (fun n v=>K4 Ga L a1 a0 n v.1 v.2.1 v.2.2.1 v.2.2.2) K:=lE (fun _=>rfl) fun n v ih=>eE (Y2 Ga L a1 a0 (fun Ao Ag Aj Qk=>re (ih (Ao,Ag,Aj,Qk))) v.1 v.2.1 v.2.2.1 v.2.2.2)
def Uc [An A Cp](Ga:Ar→Ab→Option Cp)(L:Nat)(a1:Ab)(a0:Ar)(o2:Nat×Int×Int×List Int×Int):A:=
 (sl o2.1 [(lf (o2.2.1,o2.2.2.1)),
 (cn (a1.Op == 3)
 (bd (Afx L a0 a1.Name) fun r3=>
 (cn (!r3.2)
 (lf (0,5))
 (lf (r3.1,0))))
 (cn (decide (a1.Op≥22))
 (bd (Aa4 L a0.Site a1.Name) fun r4=>
 (bd (t6 L a1.Op r4) fun r5=>
 (cn (!r5)
 (lf (0,5))
 (lf (1,0)))))
 (cn ((o2.2.2.2.1.length:Int) == 1)
 (gi 0 o2.2.2.2.1
 (bd (Aa7 L a1.Op (o2.2.2.2.1.getD 0 default)) fun r6=>
 (cn (r6 == 0)
 (lf (0,10))
 (lf (r6,0)))))
 (cn ((o2.2.2.2.1.length:Int) == 2)
 (gi 0 o2.2.2.2.1
 (gi 1 o2.2.2.2.1
 (bd (t5 L a1.Op (o2.2.2.2.1.getD 0 default) (o2.2.2.2.1.getD 1 default)) fun r7=>
 (cn (r7 == 0)
 (lf (0,10))
 (lf (r7,0))))))
 (cn (a1.Op == 1)
 (lf (1,0))
 (cn (a1.Op == 2)
 (lf (2,0))
 (cn (a1.Op == 4)
 (lf (3,0))
 (lf (0,10)))))))))])
def Boz(Ga:Ar→Ab→Option Cp)(L:Nat)(kk:Dm):Be:=(Ax 0 (Bk (EV (B9b Ga L) L 9 Ckx.w.r) (C0 Tryz.prog (RS Tryz.f204) kk)))
theorem Ce9(Ga:Ar→Ab→Option Cp)(L:Nat)(kk:Dm)(a1:Ab)(a0:Ar)(o2:Nat×Int×Int×List Int×Int):kX [.ret,.exit 0] (Brz a1 a0) (Boz Ga L kk) o2=ob (Uc Ga L a1 a0 o2) (Cl0 kk):=eE (Uc Ga L a1 a0 o2)
def Aud [An A Cp](Ga:Ar→Ab→Option Cp)(L:Nat)(a0:Ar)(a1:Ab):A:=(bd (K4 Ga L a1 a0 L 0 0 [] 0) fun o2=>Uc Ga L a1 a0 o2)
def Alt(Ga:Ar→Ab→Option Cp)(L:Nat)(a0:Ar)(a1:Ab):Option Cp:=Aud Ga L a0 a1
theorem Cpu(Ga:Ar→Ab→Option Cp)(Bv3:Bl0 Ga)(L:Nat):Bl0 (Alt Ga L):=fun a0 a1 r h=>hF Tryz.func204 (Cra Ga Bv3 L) L (fun kk=>eE ((ho (B5f Ga L (Boz Ga L kk) a1 a0 L (0,0,[],0)) fun o2=>Ce9 Ga L kk a1 a0 o2))) h
def Lj:Nat→Ar→Ab→Option Cp
 |0,_,_=>none
 |L+1,a0,a1=>Alt (Lj L) L a0 a1
theorem B2p(L:Nat):Bl0 (Lj L):=by
 induction L with
 |zero=>exact fun _ _ _ h=>(by cases h)
 |succ L ih=>
  have i204:=ih
  exact Cpu (Lj L) i204 L
def Cij(L:Nat):Gh:=E2 (fun(x:Cp)=> .tup [I x.1,I x.2]) 204 Gj Bu (Lj L) (B2p L)
def Al5 [An A Cp](a0:Ar)(a1:Ab):A:=
 (bd (Rj L (Ab.cp a1)) fun r1=>
 (cn (r1 != 0)
 (lf (0,r1))
 (bd (Lj L a0 (Ab.cp a1)) fun r2=>
 (lf (r2.1,r2.2)))))
def Afw(a0:Ar)(a1:Ab):Option Cp:=Al5 L a0 a1
def Ch9:Gh:=E2 (fun(x:Cp)=> .tup [I x.1,I x.2]) 186 Gj Bu (Afw L) fun a0 a1 r h=>hF Tryz.func186 (oS [B9y L,Cij L]) L (fun kk=>eE (Al5 L a0 a1)) h
def Ckd:=CC Tryz.f155
def B8v:Bi:=oL [Ch9 L]
def Bre(r1:Cp)(a2:List Int)(a1:Ab)(v:Cp):St:=⟨[(0,.any),(1,.any),(2,.any),(4,.any),(6,I v.1),(7,I r1.1),(8,.any),(23,lv (.t75 a2)),(24,I (a2.length:Int)),(25,I v.2)],[(4,(Dd a1))],0⟩
def Ki [An A B8](L:Nat)(r1:Cp)(a2:List Int)(a1:Ab)(rec:Int→Int→A)(Ao:Int)(Bg:Int):A:=
 (lw Bg a2
 (cn (r1.1 == (a2.getD (Int.toNat Bg) default))
 (lf (0,0,Bg))
 (rec Ao (Cq (Bg+1))))
 (lf (1,Ao,Bg)))
def Eh(L:Nat)(r1:Cp)(a2:List Int)(a1:Ab):Nat→Int→Int→Option B8
 |0,_,_=>none
 |n+1,Ao,Bg=>Ki L r1 a2 a1 (Eh L r1 a2 a1 n) Ao Bg
theorem B4u(r1:Cp)(a2:List Int)(a1:Ab):LP (EV (B8v L) L 9 Ckd.w.u.l.u.l.l) [0,1,2,4,6,7,8,23,24,25] [4] (Bre r1 a2 a1) [.ret,.exit 0] (fun n v=>Eh L r1 a2 a1 n v.1 v.2) K:=lE (fun _=>rfl) fun n v ih=>eE (Ki L r1 a2 a1 (fun Ao Bg=>re (ih (Ao,Bg))) v.1 v.2)
def Hz [An A Int](L:Nat)(o2:Nat×Cp):A:=
 (sl o2.1 [(lf o2.2.1),
 (lf 10)])
def Bn1:Be:=(Ax 0 (Bk (EV (B8v L) L 9 Ckd.w.u.r) (C0 Tryz.prog (RS Tryz.f155) kk)))
theorem Cec(r1:Cp)(a2:List Int)(a1:Ab)(o2:Nat×Cp):kX [.ret,.exit 0] (Bre r1 a2 a1) (Bn1 L kk) o2=ob (Hz L o2) (kQ I kk):=eE (Hz L o2)
def Km [An A Int](a0:Am)(a1:Ab)(a2:List Int)(nx1:Cp→A):A:=
 (bd (Afw L a0.u_env (Ab.cp a1)) fun r1=>
 (cn (r1.2 != 0)
 (lf r1.2)
 (nx1 r1)))
def Abh [An A Int](a0:Am)(a1:Ab)(a2:List Int):A:=Km L a0 a1 a2 (fun r1=>bd (Eh L r1 a2 a1 L 0 0) fun o2=>Hz L o2)
def B2(a0:Am)(a1:Ab)(a2:List Int):Option Int:=Abh L a0 a1 a2
def Buz:Gh:=E3 I 155 D6 Bu Ca1 (B2 L) fun a0 a1 a2 r h=>hF Tryz.func155 (C:=B8v L) (oS _) L (fun kk=>eE (Km L a0 a1 a2 (fun r1=>ho (B4u L (Bn1 L kk) r1 a2 a1 L (0,0)) fun o2=>Cec L kk r1 a2 a1 o2))) h
def Ca0:=CC Tryz.f152
def Bz0:Bi:=oL [Buz L,Bu1 L]
def Brd(a0:Am)(r1:V4)(a1:Ac)(v:Cp):St:=⟨[(0,.ref (Gw a0)),(1,.any),(3,.loc 3 0),(4,I v.1),(5,I r1.1),(6,.any),(27,lv (.t77 a0.u_env.Site.Vars)),(28,I (a0.u_env.Site.Vars.length:Int)),(29,I v.2)],[(3,(C5 a1))],0⟩
def Mj [An A B8](a0:Am)(r1:V4)(a1:Ac)(rec:Int→Int→A)(C8:Int)(Aut:Int):A:=
 (lw Aut a0.u_env.Site.Vars
 (cn (((a0.u_env.Site.Vars.getD (Int.toNat Aut) default).Name).toList == a1.Name.toList)
 (bd (B2 L a0 (Ab.cp a1.E) [(a0.u_env.Site.Vars.getD (Int.toNat Aut) default).Type_]) fun r2=>
 (lf (0,r2,Aut)))
 (rec C8 (Cq (Aut+1))))
 (lf (1,C8,Aut)))
def F7(L:Nat)(a0:Am)(r1:V4)(a1:Ac):Nat→Int→Int→Option B8
 |0,_,_=>none
 |n+1,C8,Aut=>Mj L a0 r1 a1 (F7 L a0 r1 a1 n) C8 Aut
theorem B4t(a0:Am)(r1:V4)(a1:Ac):LP (EV (Bz0 L) L 9 Ca0.w.l.u.l.l.u.l.l) [0,1,3,4,5,6,27,28,29] [3] (Brd a0 r1 a1) [.ret,.exit 0] (fun n v=>F7 L a0 r1 a1 n v.1 v.2) K:=lE (fun _=>rfl) fun n v ih=>eE (Mj L a0 r1 a1 (fun C8 Aut=>re (ih (C8,Aut))) v.1 v.2)
def I9 [An A Int](L:Nat)(o4:Nat×Cp):A:=
 (sl o4.1 [(lf o4.2.1),
 (lf 5)])
def Bn0:Be:=(Ax 0 (Bk (EV (Bz0 L) L 9 Ca0.w.l.u.l.r) (Bk (EV (Bz0 L) L 9 Ca0.w.r) (C0 Tryz.prog (RS Tryz.f152) kk))))
theorem Ceb(a0:Am)(r1:V4)(a1:Ac)(o4:Nat×Cp):kX [.ret,.exit 0] (Brd a0 r1 a1) (Bn0 L kk) o4=ob (I9 L o4) (kQ I kk):=eE (I9 L o4)
def Mm [An A Int](a0:Am)(a1:Ac)(nx1:V4→A):A:=
 (bd (Ou L a0.u_env.Locals a1.Name) fun r1=>
 (cn (!r1.2)
 (nx1 r1)
 (bd (B2 L a0 (Ab.cp a1.E) [r1.1]) fun r3=>
 (lf r3))))
def Ag2 [An A Int](a0:Am)(a1:Ac):A:=Mm L a0 a1 (fun r1=>bd (F7 L a0 r1 a1 L 0 0) fun o4=>I9 L o4)
def Rl(a0:Am)(a1:Ac):Option Int:=Ag2 L a0 a1
def Cht:Gh:=E2 I 152 D6 H3 (Rl L) fun a0 a1 r h=>hF Tryz.func152 (C:=Bz0 L) (oS _) L (fun kk=>eE (Mm L a0 a1 (fun r1=>ho (B4t L (Bn0 L kk) a0 r1 a1 L (0,0)) fun o4=>Ceb L kk a0 r1 a1 o4))) h
def Z9 [An A Bool](a0:Am)(a1:ByteArray)(a2:ByteArray):A:=
 (bd (Aa4 L a0.u_env.Site a1) fun r1=>
 (lf (r1.toList == a2.toList)))
def Gy(a0:Am)(a1:ByteArray)(a2:ByteArray):Option Bool:=Z9 L a0 a1 a2
def B9t:Gh:=E3 B 154 D6 cS cS (Gy L) fun a0 a1 a2 r h=>hF Tryz.func154 (oS [B0d L]) L (fun kk=>eE (Z9 L a0 a1 a2)) h
def Ckp:=CC Tryz.f184
def B85:Bi:=oL [Bu1 L]
def Brp(r1:V4)(a2:List Int)(v:Cp):St:=⟨[(0,.any),(1,.any),(2,.any),(6,I v.1),(7,I r1.1),(8,.any),(21,lv (.t75 a2)),(22,I (a2.length:Int)),(23,I v.2)],[],0⟩
def Jl [An A B8](L:Nat)(r1:V4)(a2:List Int)(rec:Int→Int→A)(Ao:Int)(Bg:Int):A:=
 (lw Bg a2
 (cn (r1.1 == (a2.getD (Int.toNat Bg) default))
 (lf (0,0,Bg))
 (rec Ao (Cq (Bg+1))))
 (lf (1,Ao,Bg)))
def D7(L:Nat)(r1:V4)(a2:List Int):Nat→Int→Int→Option B8
 |0,_,_=>none
 |n+1,Ao,Bg=>Jl L r1 a2 (D7 L r1 a2 n) Ao Bg
theorem B45(r1:V4)(a2:List Int):LP (EV (B85 L) L 9 Ckp.w.l.u.l.l) [0,1,2,6,7,8,21,22,23] [] (Brp r1 a2) [.ret,.exit 0] (fun n v=>D7 L r1 a2 n v.1 v.2) K:=lE (fun _=>rfl) fun n v ih=>eE (Jl L r1 a2 (fun Ao Bg=>re (ih (Ao,Bg))) v.1 v.2)
def Hs [An A Int](L:Nat)(o2:Nat×Cp):A:=
 (sl o2.1 [(lf o2.2.1),
 (lf 10)])
def Bod:Be:=(Ax 0 (Bk (EV (B85 L) L 9 Ckp.w.r) (C0 Tryz.prog (RS Tryz.f184) kk)))
theorem Ceo(r1:V4)(a2:List Int)(o2:Nat×Cp):kX [.ret,.exit 0] (Brp r1 a2) (Bod L kk) o2=ob (Hs L o2) (kQ I kk):=eE (Hs L o2)
def J0 [An A Int](a0:Am)(a1:ByteArray)(a2:List Int)(nx1:V4→A):A:=
 (bd (Ou L a0.u_env.Locals a1) fun r1=>
 (nx1 r1))
def Aar [An A Int](a0:Am)(a1:ByteArray)(a2:List Int):A:=J0 L a0 a1 a2 (fun r1=>bd (D7 L r1 a2 L 0 0) fun o2=>Hs L o2)
def Td(a0:Am)(a1:ByteArray)(a2:List Int):Option Int:=Aar L a0 a1 a2
def Ch8:Gh:=E3 I 184 D6 cS Ca1 (Td L) fun a0 a1 a2 r h=>hF Tryz.func184 (C:=B85 L) (oS _) L (fun kk=>eE (J0 L a0 a1 a2 (fun r1=>ho (B45 L (Bod L kk) r1 a2 L (0,0)) fun o2=>Ceo L kk r1 a2 o2))) h
def V0 [An A Int](a0:Am)(a1:ByteArray)(a2:Bool)(a3:List Int):A:=
 (bd (Ou L a0.u_env.Locals a1) fun r1=>
 (jp (.cn (!r1.2)
 (.lf true)
 (.lf (!a2))) (fun b2=>
 (cn b2
 (lf 5)
 (bd (Td L a0 a1 a3) fun r3=>
 (lf r3))))))
def H9(a0:Am)(a1:ByteArray)(a2:Bool)(a3:List Int):Option Int:=V0 L a0 a1 a2 a3
def Chu:Gh:=E4 I 153 D6 cS cB Ca1 (H9 L) fun a0 a1 a2 a3 r h=>hF Tryz.func153 (oS [Bu1 L,Ch8 L]) L (fun kk=>eE (V0 L a0 a1 a2 a3)) h
def Cke:=CC Tryz.f156
def B8w:Bi:=oL [B9t L,Buz L]
def Brf(a0:Am)(a3:List Ab)(a1:Ac)(v:Cp):St:=⟨[(0,.ref (Gw a0)),(1,.any),(2,.any),(3,.any),(5,.any),(8,I v.1),(18,lv (.t94 a3)),(19,I (a3.length:Int)),(20,I v.2)],[(5,(C5 a1))],0⟩
def Kh [An A B8](a0:Am)(a3:List Ab)(a1:Ac)(rec:Int→Int→A)(C8:Int)(Md:Int):A:=
 (lw Md a3
 (bd (B2 L a0 (Ab.cp (a3.getD (Int.toNat Md) default)) [1]) fun r2=>
 (cn (r2 != 0)
 (lf (0,r2,Md))
 (rec C8 (Cq (Md+1)))))
 (lf (1,C8,Md)))
def Eg(L:Nat)(a0:Am)(a3:List Ab)(a1:Ac):Nat→Int→Int→Option B8
 |0,_,_=>none
 |n+1,C8,Md=>Kh L a0 a3 a1 (Eg L a0 a3 a1 n) C8 Md
theorem B4v(a0:Am)(a3:List Ab)(a1:Ac):LP (EV (B8w L) L 9 Cke.w.l.u.l.l) [0,1,2,3,5,8,18,19,20] [5] (Brf a0 a3 a1) [.ret,.exit 0] (fun n v=>Eg L a0 a3 a1 n v.1 v.2) K:=lE (fun _=>rfl) fun n v ih=>eE (Kh L a0 a3 a1 (fun C8 Md=>re (ih (C8,Md))) v.1 v.2)
def Hy [An A Int](L:Nat)(o3:Nat×Cp):A:=
 (sl o3.1 [(lf o3.2.1),
 (lf 0)])
def Bn2:Be:=(Ax 0 (Bk (EV (B8w L) L 9 Cke.w.r) (C0 Tryz.prog (RS Tryz.f156) kk)))
theorem Ced(a0:Am)(a3:List Ab)(a1:Ac)(o3:Nat×Cp):kX [.ret,.exit 0] (Brf a0 a3 a1) (Bn2 L kk) o3=ob (Hy L o3) (kQ I kk):=eE (Hy L o3)
def Kl [An A Int](a0:Am)(a1:Ac)(a2:ByteArray)(a3:List Ab)(nx1:A):A:=
 (bd (Gy L a0 a1.Name a2) fun r1=>
 (cn (!r1)
 (lf 5)
 nx1))
def Abg [An A Int](a0:Am)(a1:Ac)(a2:ByteArray)(a3:List Ab):A:=Kl L a0 a1 a2 a3 (bd (Eg L a0 a3 a1 L 0 0) fun o3=>Hy L o3)
def B9(a0:Am)(a1:Ac)(a2:ByteArray)(a3:List Ab):Option Int:=Abg L a0 a1 a2 a3
def Chv:Gh:=E4 I 156 D6 H3 cS Cp7 (B9 L) fun a0 a1 a2 a3 r h=>hF Tryz.func156 (C:=B8w L) (oS _) L (fun kk=>eE (Kl L a0 a1 a2 a3 (ho (B4v L (Bn2 L kk) a0 a3 a1 L (0,0)) fun o3=>Ced L kk a0 a3 a1 o3))) h
def Cky:=CC Tryz.f205
def Ckq:=CC Tryz.f187
def Bje(L:Nat):Bi:=oL []
def Clx:V4→Prop:=fun x=>kk ((fun(x:V4)=> .tup [I x.1,B x.2]) x)
def Brq(p1_0:List Bl)(p1_1:Ad)(p1_2:ByteArray)(p1_3:ByteArray)(v:Cp):St:=⟨[(0,lv (.t167 p1_0)),(1,.clo 206 0 [.loc 4 0,.loc 5 0]),(4,I v.1),(7,I (p1_0.length:Int)),(8,I v.2)],[(3,(Aw p1_1)),(4,[S p1_2]),(5,[S p1_3])],6⟩
def u9 [An A B8](L:Nat)(p1_0:List Bl)(p1_1:Ad)(p1_2:ByteArray)(p1_3:ByteArray)(rec:Int→Int→A)(Ag:Int)(Ai:Int):A:=
 (lw Ai p1_0
 (jp (.cn (((p1_0.getD (Int.toNat Ai) default).From).toList == p1_2.toList)
 (.lf (((p1_0.getD (Int.toNat Ai) default).To).toList == p1_3.toList))
 (.lf false)) (fun b1=>
 (cn b1
 (lf (0,Ai,Ai))
 (rec Ag (Cq (Ai+1))))))
 (lf (1,Ag,Ai)))
def Mr(L:Nat)(p1_0:List Bl)(p1_1:Ad)(p1_2:ByteArray)(p1_3:ByteArray):Nat→Int→Int→Option B8
 |0,_,_=>none
 |n+1,Ag,Ai=>u9 L p1_0 p1_1 p1_2 p1_3 (Mr L p1_0 p1_1 p1_2 p1_3 n) Ag Ai
theorem B46(p1_0:List Bl)(p1_1:Ad)(p1_2:ByteArray)(p1_3:ByteArray):LP (EV (Bje L) L 8 Cky.u.l.u.l.l) [0,1,4,7,8] [3,4,5] (Brq p1_0 p1_1 p1_2 p1_3) [.ret,.exit 0] (fun n v=>Mr L p1_0 p1_1 p1_2 p1_3 n v.1 v.2) K:=lE (fun _=>rfl) fun n v ih=>eE (u9 L p1_0 p1_1 p1_2 p1_3 (fun Ag Ai=>re (ih (Ag,Ai))) v.1 v.2)
def Bb5(p1_0:List Bl)(p1_1:Ad)(p1_2:ByteArray)(p1_3:ByteArray)(k:Bx):Int→Prop:=fun o=>k (I o) [(3,(Aw p1_1)),(4,[S p1_2]),(5,[S p1_3])]
def w7 [An A Int](L:Nat)(o2:Nat×Cp):A:=
 (sl o2.1 [(lf o2.2.1),
 (lf (-1))])
def Boe:Be:=(Ax 0 (Bk (EV (Bje L) L 8 Cky.u.r) (E8 Tryz.prog (RS Tryz.f205) k)))
theorem Cep(p1_0:List Bl)(p1_1:Ad)(p1_2:ByteArray)(p1_3:ByteArray)(o2:Nat×Cp):kX [.ret,.exit 0] (Brq p1_0 p1_1 p1_2 p1_3) (Boe L k) o2=ob (w7 L o2) (Bb5 p1_0 p1_1 p1_2 p1_3 k):=eE (w7 L o2)
def Aqf [An A Int](p1_0:List Bl)(p1_1:Ad)(p1_2:ByteArray)(p1_3:ByteArray):A:=(bd (Mr L p1_0 p1_1 p1_2 p1_3 L 0 0) fun o2=>w7 L o2)
def Ahs(p1_0:List Bl)(p1_1:Ad)(p1_2:ByteArray)(p1_3:ByteArray):Option Int:=Aqf L p1_0 p1_1 p1_2 p1_3
theorem B23(p1_0:List Bl)(p1_1:Ad)(p1_2:ByteArray)(p1_3:ByteArray):YO (Bje L) L 9 205 [lv (.t167 p1_0),.clo 206 0 [.loc 4 0,.loc 5 0]] [(3,(Aw p1_1)),(4,[S p1_2]),(5,[S p1_3])] k=ob (Ahs L p1_0 p1_1 p1_2 p1_3) (Bb5 p1_0 p1_1 p1_2 p1_3 k):=(Dg _ _ _ jn4 _ _ _ _ _ _ _).trans (eE ((ho (B46 L (Boe L k) p1_0 p1_1 p1_2 p1_3 L (0,0)) fun o2=>Cep L k p1_0 p1_1 p1_2 p1_3 o2)))
def Ve [An A V4](L:Nat)(a0:Ad)(o3:Int):A:=
 (cn (decide (o3 < 0))
 (lf (0,false))
 (gi o3 a0.Links
 (lf ((a0.Links.getD (Int.toNat o3) default).Delay,true))))
def Bof(a0:Ad)(a1:ByteArray)(a2:ByteArray):Bx:=(Cm Tryz.prog (Bje L) (EI (Bje L) L 9) 1 (List.drop 4 Ckq.u.l.ops) ⟨[(11,.clo 206 0 [.loc 4 0,.loc 5 0]),(10,lv (.t167 a0.Links)),(9,.loc 3 3),(3,.loc 3 0),(4,.loc 4 0),(5,.loc 5 0),(6,I 0),(7,B false)],[(3,(Aw a0)),(4,[S a1]),(5,[S a2])],0⟩ (some 12) (fun st9=>(Bk (EV (Bje L) L 9 Ckq.u.r) (C0 Tryz.prog (RS Tryz.f187) kk)) .normal st9))
theorem Ceq(a0:Ad)(a1:ByteArray)(a2:ByteArray)(o3:Int):Bb5 a0.Links a0 a1 a2 (Bof L kk a0 a1 a2) o3=ob (Ve L a0 o3) (Clx kk):=eE (Ve L a0 o3)
def Awm [An A V4](a0:Ad)(a1:ByteArray)(a2:ByteArray):A:=(bd (Ahs L a0.Links a0 a1 a2) fun o3=>Ve L a0 o3)
def Aim(a0:Ad)(a1:ByteArray)(a2:ByteArray):Option V4:=Awm L a0 a1 a2
def Cia:Gh:=E3 (fun(x:V4)=> .tup [I x.1,B x.2]) 187 C6 cS cS (Aim L) fun a0 a1 a2 r h=>hF Tryz.func187 (C:=Bje L) (oS _) L (fun kk=>eE ((ho (B23 L (Bof L kk a0 a1 a2) a0.Links a0 a1 a2) fun o3=>Ceq L kk a0 a1 a2 o3))) h
def Ckf:=CC Tryz.f158
def B8x:Bi:=oL [Buz L]
def Brg(a0:Am)(a2:Ac)(a1:Ak)(v:Cp):St:=⟨[(0,.ref (Gw a0)),(1,.any),(2,.any),(4,.loc 4 0),(5,.loc 5 0),(6,I v.1),(18,lv (.t94 a2.Args)),(19,I (a2.Args.length:Int)),(20,I v.2)],[(4,(B5 a1)),(5,(C5 a2))],0⟩
def Lm [An A B8](a0:Am)(a2:Ac)(a1:Ak)(rec:Int→Int→A)(C8:Int)(Md:Int):A:=
 (lw Md a2.Args
 (gi Md a1.Params
 (bd (B2 L a0 (Ab.cp (a2.Args.getD (Int.toNat Md) default)) [(a1.Params.getD (Int.toNat Md) default).Type_]) fun r1=>
 (cn (r1 != 0)
 (lf (0,r1,Md))
 (rec C8 (Cq (Md+1))))))
 (lf (1,C8,Md)))
def Et(L:Nat)(a0:Am)(a2:Ac)(a1:Ak):Nat→Int→Int→Option B8
 |0,_,_=>none
 |n+1,C8,Md=>Lm L a0 a2 a1 (Et L a0 a2 a1 n) C8 Md
theorem B4w(a0:Am)(a2:Ac)(a1:Ak):LP (EV (B8x L) L 9 Ckf.w.l.u.l.l) [0,1,2,4,5,6,18,19,20] [4,5] (Brg a0 a2 a1) [.ret,.exit 0] (fun n v=>Et L a0 a2 a1 n v.1 v.2) K:=lE (fun _=>rfl) fun n v ih=>eE (Lm L a0 a2 a1 (fun C8 Md=>re (ih (C8,Md))) v.1 v.2)
def Ic [An A Int](a0:Am)(a2:Ac)(o2:Nat×Cp):A:=
 (sl o2.1 [(lf o2.2.1),
 (bd (B2 L a0 (Ab.cp a2.E) [3]) fun r3=>
 (lf r3))])
def Bn3:Be:=(Ax 0 (Bk (EV (B8x L) L 9 Ckf.w.r) (C0 Tryz.prog (RS Tryz.f158) kk)))
theorem Cee(a0:Am)(a2:Ac)(a1:Ak)(o2:Nat×Cp):kX [.ret,.exit 0] (Brg a0 a2 a1) (Bn3 L kk) o2=ob (Ic L a0 a2 o2) (kQ I kk):=eE (Ic L a0 a2 o2)
def Ls [An A Int](L:Nat)(a0:Am)(a1:Ak)(a2:Ac)(nx1:A):A:=
 (cn ((a2.Args.length:Int) != (a1.Params.length:Int))
 (lf 8)
 nx1)
def Ad0 [An A Int](a0:Am)(a1:Ak)(a2:Ac):A:=Ls L a0 a1 a2 (bd (Et L a0 a2 a1 L 0 0) fun o2=>Ic L a0 a2 o2)
def H8(a0:Am)(a1:Ak)(a2:Ac):Option Int:=Ad0 L a0 a1 a2
def B9u:Gh:=E3 I 158 D6 Abk H3 (H8 L) fun a0 a1 a2 r h=>hF Tryz.func158 (C:=B8x L) (oS _) L (fun kk=>eE (Ls L a0 a1 a2 (ho (B4w L (Bn3 L kk) a0 a2 a1 L (0,0)) fun o2=>Cee L kk a0 a2 a1 o2))) h
def V1 [An A Int](a0:Am)(a1:Ac):A:=
 (bd (Yf L a0.u_m a1.Of) fun r1=>
 (cn (decide (r1 < 0))
 (lf 5)
 (gi r1 a0.u_m.Sites
 (bd (Gm L (a0.u_m.Sites.getD (Int.toNat r1) default) a1.Name) fun r2=>
 (cn (decide (r2 < 0))
 (lf 5)
 (bd (Aim L a0.u_m a0.u_env.Site.Name a1.Of) fun r3=>
 (cn (!r3.2)
 (lf 16)
 (gi r1 a0.u_m.Sites
 (gi r2 ((a0.u_m.Sites.getD (Int.toNat r1) default).Routines)
 (bd (H8 L a0 (((a0.u_m.Sites.getD (Int.toNat r1) default).Routines).getD (Int.toNat r2) default) (Ac.cp a1)) fun r4=>
 (lf r4)))))))))))
def Qf(a0:Am)(a1:Ac):Option Int:=V1 L a0 a1
def Chw:Gh:=E2 I 157 D6 H3 (Qf L) fun a0 a1 r h=>hF Tryz.func157 (oS [B9j L,Bsn L,B9u L,Cia L]) L (fun kk=>eE (V1 L a0 a1)) h
def Bjl:=CC Tryz.f121
def Bsk:Bi:=oL [Bsn L,Cht L,Chu L,B9t L,Buz L,Chv L,Chw L,B9u L]
def Bqg(a0:Am)(a1:Ac)(p801_22:Bool):St:=⟨[(0,.ref (Gw a0)),(3,.loc 3 0),(4,I 0),(7,I a1.Op),(24,B p801_22)],[(3,(C5 a1))],0⟩
def Bp1(e0:EC):Be:=(Ax 0 (Bk (EV (Bsk L) L 9 e0) (C0 Tryz.prog (RS Tryz.f121) kk)))
def Ml [An A Int](a0:Am)(a1:Ac)(p801_22:Bool):A:=
 (cn p801_22
 (bd (B2 L a0 (Ab.cp a1.E) [2]) fun r4=>
 (lf r4))
 (cn (a1.Op == 5)
 (bd (B2 L a0 (Ab.cp a1.E) [3]) fun r5=>
 (lf r5))
 (cn (a1.Op == 6)
 (bd (B9 L a0 (Ac.cp a1) (⟨#[114,101,115,111,117,114,99,101]⟩:ByteArray) [(Ab.cp a1.E),(Ab.cp a1.F)]) fun r6=>
 (lf r6))
 (cn (a1.Op == 7)
 (bd (B9 L a0 (Ac.cp a1) (⟨#[114,101,115,111,117,114,99,101]⟩:ByteArray) [(Ab.cp a1.E)]) fun r7=>
 (lf r7))
 (cn (a1.Op == 8)
 (bd (B9 L a0 (Ac.cp a1) (⟨#[115,116,111,114,101]⟩:ByteArray) [(Ab.cp a1.E)]) fun r8=>
 (lf r8))
 (cn (a1.Op == 9)
 (bd (Gy L a0 a1.Name (⟨#[115,116,111,114,101]⟩:ByteArray)) fun r9=>
 (bd (H9 L a0 a1.Of r9 [1]) fun r10=>
 (lf r10)))
 (cn (a1.Op == 10)
 (bd (B9 L a0 (Ac.cp a1) (⟨#[98,101,108,116]⟩:ByteArray) []) fun r11=>
 (lf r11))
 (cn (a1.Op == 11)
 (bd (B9 L a0 (Ac.cp a1) (⟨#[113,117,101,117,101]⟩:ByteArray) []) fun r12=>
 (lf r12))
 (cn (a1.Op == 12)
 (bd (B9 L a0 (Ac.cp a1) (⟨#[113,117,101,117,101]⟩:ByteArray) [(Ab.cp a1.E)]) fun r13=>
 (lf r13))
 (cn (a1.Op == 13)
 (bd (Qf L a0 (Ac.cp a1)) fun r14=>
 (lf r14))
 (cn (a1.Op == 14)
 (bd (Gm L a0.u_env.Site a1.Name) fun r15=>
 (cn (decide (r15 < 0))
 (lf 5)
 (gi r15 a0.u_env.Site.Routines
 (bd (H8 L a0 (a0.u_env.Site.Routines.getD (Int.toNat r15) default) (Ac.cp a1)) fun r16=>
 (lf r16)))))
 (cn (a1.Op == 15)
 (bd (Gy L a0 a1.Name (⟨#[116,97,108,108,121]⟩:ByteArray)) fun r17=>
 (cn (!r17)
 (lf 5)
 (bd (B2 L a0 (Ab.cp a1.E) [1,3]) fun r18=>
 (lf r18))))
 (cn (a1.Op == 16)
 (bd (B9 L a0 (Ac.cp a1) (⟨#[108,101,118,101,108]⟩:ByteArray) [(Ab.cp a1.E)]) fun r19=>
 (lf r19))
 (cn (a1.Op == 17)
 (bd (B9 L a0 (Ac.cp a1) (⟨#[99,111,117,110,116]⟩:ByteArray) [(Ab.cp a1.E)]) fun r20=>
 (lf r20))
 (lf 0)))))))))))))))
theorem B0v(a0:Am)(a1:Ac)(p801_22:Bool):EV (Bsk L) L 9 Bjl.u.l.u.l.x (Bqg a0 a1 p801_22) (Bp1 L kk Bjl.u.r)=ob (Ml L a0 a1 p801_22) (kQ I kk):=eE (Ml L a0 a1 p801_22)
def sx_typing_routine_own_0 [An A Int](a0:Am)(a1:Ac)(nx1:Am→Ac→Bool→A):A:=
 (cn (a1.Op == 1)
 (bd (Rl L a0 (Ac.cp a1)) fun r1=>
 (lf r1))
 (cn (a1.Op == 2)
 (bd (Gy L a0 a1.Of (⟨#[115,116,114,101,97,109]⟩:ByteArray)) fun r2=>
 (bd (H9 L a0 a1.Name r2 [1,3]) fun r3=>
 (lf r3)))
 (cn (a1.Op == 3)
 (nx1 a0 a1 (a1.Op == 3))
 (nx1 a0 a1 (a1.Op == 4)))))
def Ag1 [An A Int](a0:Am)(a1:Ac):A:=sx_typing_routine_own_0 L a0 a1 (fun a0 a1 p801_22=>Ml L a0 a1 p801_22)
theorem B1l(a0:Am)(a1:Ac)(z1:EC):EW (Bsk L) L 9 (RS Tryz.f121) (EC.put (rl [2,1,2,1,8]) z1 Bjl) [.ref (Gw a0),.agg (C5 a1)] kk= @sx_typing_routine_own_0 Prop L (anP (kQ I kk)) a0 a1 (fun a0 a1 p801_22=>EV (Bsk L) L 9 z1 (Bqg a0 a1 p801_22) (Bp1 L kk Bjl.u.r)):=by kernel_rfl
def Lt(a0:Am)(a1:Ac):Option Int:=Ag1 L a0 a1
def B9k:Gh:=E2 I 121 D6 H3 (Lt L) fun a0 a1 r h=>hF Tryz.func121 (C:=Bsk L) (oS _) L (fun kk=>Eq.trans (b:=EW (Bsk L) L 9 (RS Tryz.f121) (EC.put (rl [2,1,2,1,8]) Bjl.u.l.u.l.x Bjl) [.ref (Gw a0),.agg (C5 a1)] kk) (by kernel_rfl) ((B1l L kk a0 a1 Bjl.u.l.u.l.x).trans (eE (sx_typing_routine_own_0 L a0 a1 (fun a0 a1 p801_22=>re (B0v L kk a0 a1 p801_22)))))) h
end
end Go.Proofs.YtfencmicmnhglaaGreat.Ev
