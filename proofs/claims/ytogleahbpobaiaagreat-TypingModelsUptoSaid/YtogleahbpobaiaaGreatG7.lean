import Derived.Test.YtogleahbpobaiaaGreatG3
import Derived.Test.YtogleahbpobaiaaGreatG6
namespace Go.Proofs.YtogleahbpobaiaaGreat.Ev
open Go An
set_option maxRecDepth 100000
set_option maxHeartbeats 4000000
set_option linter.unusedVariables false
set_option linter.unusedSimpArgs false
set_option linter.unnecessarySimpa false
variable {A:Type} (L n:Nat) (kk:Ct) (K:Be) (k:Bx)
noncomputable def Cdb:EC:=CC Tryz.f158
noncomputable def Ccv:EC:=CC Tryz.f106
def Bf4(L:Nat):Bk:=oL []
def Ceb:Int→Prop:=fun x=>kk (I x)
def Blx(p1_0:List Aa)(p1_1:Ad)(p1_2:ByteArray)(v:Cw):St:=⟨[(0,.lst false (.t32 p1_0)),(1,.clo 159 0 [.loc 3 0]),(4,I v.1),(7,I (p1_0.length:Int)),(8,I v.2)],[(2,Az p1_1),(3,[S p1_2])],4⟩
def Zf [An A Cx](L:Nat)(p1_0:List Aa)(p1_1:Ad)(p1_2:ByteArray)(rec:Int→Int→A)(Ag:Int)(Ah:Int):A:=
 (cn (decide (Ah < (p1_0.length:Int)))
 (gq (0≤Ah)
 (gq (Ah < (p1_0.length:Int))
 (cn (((p1_0.getD (Int.toNat Ah) default).Name).toList == p1_2.toList)
 (lf (0,Ah,Ah))
 (rec Ag (Da (Ah+1))))))
 (lf (1,Ag,Ah)))
def L9(L:Nat)(p1_0:List Aa)(p1_1:Ad)(p1_2:ByteArray):Nat→Int→Int→Option Cx
 |0,_,_=>none
 |n+1,Ag,Ah=>Zf L p1_0 p1_1 p1_2 (L9 L p1_0 p1_1 p1_2 n) Ag Ah
theorem Byh(p1_0:List Aa)(p1_1:Ad)(p1_2:ByteArray):LP (EV (Bf4 L) L 8 Cdb.u.l.u.l.l) [0,1,4,7,8] [2,3] (Blx p1_0 p1_1 p1_2) [.ret,.exit 0] (fun n v=>L9 L p1_0 p1_1 p1_2 n v.1 v.2) K:=lE (fun _=>rfl) fun n v ih=>eE (Zf L p1_0 p1_1 p1_2 (fun Ag Ah=>re (ih (Ag,Ah))) v.1 v.2)
def A8t(p1_0:List Aa)(p1_1:Ad)(p1_2:ByteArray)(k:Bx):Int→Prop:=fun o=>k (I o) [(2,Az p1_1),(3,[S p1_2])]
def Zo [An A Int](L:Nat)(o1:Nat×Cw):A:=
 (sl o1.1 [(lf o1.2.1),
 (lf (-1))])
def Bja:Be:=(Ay 0 (Bl (EV (Bf4 L) L 8 Cdb.u.r) (E5 Tryz.prog (RS Tryz.f158) k)))
theorem B7r(p1_0:List Aa)(p1_1:Ad)(p1_2:ByteArray)(o1:Nat×Cw):kX [.ret,.exit 0] (Blx p1_0 p1_1 p1_2) (Bja L k) o1=ob (Zo L o1) (A8t p1_0 p1_1 p1_2 k):=eE (Zo L o1)
def Agz [An A Int](L:Nat)(p1_0:List Aa)(p1_1:Ad)(p1_2:ByteArray)(nx2:A):A:=
 nx2
def Aoo [An A Int](p1_0:List Aa)(p1_1:Ad)(p1_2:ByteArray):A:=Agz L p1_0 p1_1 p1_2 (bd (L9 L p1_0 p1_1 p1_2 L 0 0) fun o1=>Zo L o1)
def Y9(p1_0:List Aa)(p1_1:Ad)(p1_2:ByteArray):Option Int:=Aoo L p1_0 p1_1 p1_2
theorem Bxe(p1_0:List Aa)(p1_1:Ad)(p1_2:ByteArray):YO (Bf4 L) L 9 158 [.lst false (.t32 p1_0),.clo 159 0 [.loc 3 0]] [(2,Az p1_1),(3,[S p1_2])] k=ob (Y9 L p1_0 p1_1 p1_2) (A8t p1_0 p1_1 p1_2 k):=(Dc _ _ _ jn4 _ _ _ _ _ _ _).trans (eE (Agz L p1_0 p1_1 p1_2 (ho (Byh L (Bja L k) p1_0 p1_1 p1_2 L (0,0)) fun o1=>B7r L k p1_0 p1_1 p1_2 o1)))
def Tz [An A Int](L:Nat)(o2:Int):A:=
 (lf o2)
def Bjb(a0:Ad)(a1:ByteArray):Bx:=(Cm Tryz.prog (Bf4 L) (EI (Bf4 L) L 9) 1 (List.drop 4 Ccv.u.l.ops) ⟨[(7,.clo 159 0 [.loc 3 0]),(6,.lst false (.t32 a0.Sites)),(5,.loc 2 2),(2,.loc 2 0),(3,.loc 3 0),(4,I 0)],[(2,Az a0),(3,[S a1])],0⟩ (some 8) (fun st9=>(Bl (EV (Bf4 L) L 9 Ccv.u.r) (C8 Tryz.prog (RS Tryz.f106) kk)) .normal st9))
theorem B7s(a0:Ad)(a1:ByteArray)(o2:Int):A8t a0.Sites a0 a1 (Bjb L kk a0 a1) o2=ob (Tz L o2) (Ceb kk):=eE (Tz L o2)
def Zx [An A Int](L:Nat)(a0:Ad)(a1:ByteArray)(nx3:A):A:=
 nx3
def Auo [An A Int](a0:Ad)(a1:ByteArray):A:=Zx L a0 a1 (bd (Y9 L a0.Sites a0 a1) fun o2=>Tz L o2)
def Wl(a0:Ad)(a1:ByteArray):Option Int:=Auo L a0 a1
def B2g:Gk:=E2 I 106 D1 cS (Wl L) fun a0 a1 r h=>hF Tryz.func106 (C:=Bf4 L) (oS _) L (fun kk=>eE (Zx L a0 a1 (ho (Bxe L (Bjb L kk a0 a1) a0.Sites a0 a1) fun o2=>B7s L kk a0 a1 o2))) h
noncomputable def Bnh:EC:=CC Tryz.f104
noncomputable def c45:EC:=CC Tryz.f45
def O45:Bk:=oL [X80 L,B2g L]
def Cj3:Int→Prop:=fun x=>kk (I x)
def Bpc(p3_0:Bg)(p3_1:Ad)(p3_2:List Bq)(p3_3:List Bool)(p3_4:Bg)(k:Bx):Tu8→Prop:=fun o=>k (I o.1) [(1,Az p3_1),(3,[.mp 4]),(4,[.mapO true false (.t140 o.2.1) (.t4 o.2.2)]),(13,I5 p3_4),(17,I5 p3_0),(19,[S p3_0.From,S p3_0.To])]
def Acv [An A Tu8](p3_0:Bg)(p3_1:Ad)(p3_2:List Bq)(p3_3:List Bool)(p3_4:Bg):A:=
 (bd (Wl L p3_1 p3_0.From) fun r1=>
 (jb (.cn (decide (r1 < 0))
 (.lf true)
 (.bd (Wl L p3_1 p3_0.To) fun r3=>
 (.lf (decide (r3 < 0))))) (fun b2=>
 (cn b2
 (lf (5,p3_2,p3_3))
 (cn (p3_0.From.toList == p3_0.To.toList)
 (lf (1,p3_2,p3_3))
 (bd (Bi L p3_0.Delay 1 1000000000) fun r4=>
 (cn (!r4)
 (lf (2,p3_2,p3_3))
 (fq (p3_2.findIdx? fun b=>(p3_0.From == b.a0 && (p3_0.To == b.a1))) (fun i5=>
 (cn (p3_3.getD i5 default)
 (lf (4,p3_2,p3_3))
 (fq (p3_2.findIdx? fun b=>(p3_0.From == b.a0 && (p3_0.To == b.a1))) (fun i6=>
 (lf (0,p3_2,(p3_3.set i6 true))))
 (lf (0,(p3_2++ [(⟨p3_0.From,p3_0.To⟩:Bq)]),(p3_3++ [true]))))))
 (fq (p3_2.findIdx? fun b=>(p3_0.From == b.a0 && (p3_0.To == b.a1))) (fun i7=>
 (lf (0,p3_2,(p3_3.set i7 true))))
 (lf (0,(p3_2++ [(⟨p3_0.From,p3_0.To⟩:Bq)]),(p3_3++ [true]))))))))))))
def R5(p3_0:Bg)(p3_1:Ad)(p3_2:List Bq)(p3_3:List Bool)(p3_4:Bg):Option Tu8:=Acv L p3_0 p3_1 p3_2 p3_3 p3_4
theorem B5k(p3_0:Bg)(p3_1:Ad)(p3_2:List Bq)(p3_3:List Bool)(p3_4:Bg):YO (O45 L) L 8 105 [.agg (I5 p3_0),.loc 1 0,.loc 3 0] [(1,Az p3_1),(3,[.mp 4]),(4,[.mapO true false (.t140 p3_2) (.t4 p3_3)]),(13,I5 p3_4)] k=ob (R5 L p3_0 p3_1 p3_2 p3_3 p3_4) (Bpc p3_0 p3_1 p3_2 p3_3 p3_4 k):=(Dc _ _ _ jn4 _ _ _ _ _ _ _).trans (eE (Acv L p3_0 p3_1 p3_2 p3_3 p3_4))
def Bhq(p1_0:List Bg)(p1_1:Ad)(v:Bf9):St:=⟨[(0,.any),(1,.any),(2,.clo 105 0 [.loc 1 0,.loc 3 0]),(6,I v.1),(14,.lst false (.t139 p1_0)),(15,I (p1_0.length:Int)),(16,I v.2.1)],[(1,Az p1_1),(3,[.mp 4]),(4,[.mapO true false (.t140 v.2.2.1) (.t4 v.2.2.2)])],5⟩
def Sj [An A (Nat×Bf9)](L:Nat)(Ah:Int)(Ak:Int)(rec:Int→Int→List Bq→List Bool→A)(o8:Tu8):A:=
 (cn (o8.1 != 0)
 (lf (0,o8.1,Ah,o8.2.1,o8.2.2))
 (rec Ak (Da (Ah+1)) o8.2.1 o8.2.2))
def Xu [An A (Nat×Bf9)](L:Nat)(p1_0:List Bg)(p1_1:Ad)(rec:Int→Int→List Bq→List Bool→A)(Ak:Int)(Ah:Int)(Dp:List Bq)(Dq:List Bool)(nx3:Int→(List Bq)→(List Bool)→Int→A):A:=
 (cn (decide (Ah < (p1_0.length:Int)))
 (gq (0≤Ah)
 (gq (Ah < (p1_0.length:Int))
 (nx3 Ah Dp Dq Ak)))
 (lf (1,Ak,Ah,Dp,Dq)))
def Adh [An A (Nat×Bf9)](p1_0:List Bg)(p1_1:Ad)(rec:Int→Int→List Bq→List Bool→A)(Ak:Int)(Ah:Int)(Dp:List Bq)(Dq:List Bool):A:=Xu L p1_0 p1_1 rec Ak Ah Dp Dq (fun Ah Dp Dq Ak=>bd (R5 L (p1_0.getD (Int.toNat Ah) default) p1_1 Dp Dq (p1_0.getD (Int.toNat Ah) default)) fun o8=>Sj L Ah Ak rec o8)
def Iq(L:Nat)(p1_0:List Bg)(p1_1:Ad):Nat→Int→Int→List Bq→List Bool→Option (Nat×Bf9)
 |0,_,_,_,_=>none
 |n+1,Ak,Ah,Dp,Dq=>Adh L p1_0 p1_1 (Iq L p1_0 p1_1 n) Ak Ah Dp Dq
def Bo7(p1_0:List Bg)(p1_1:Ad):Prop:=LI (EV (O45 L) L 8 Bnh.w.l.u.l.l) [0,1,2,6,14,15,16] [1,3,4] (Bhq p1_0 p1_1) [.ret,.exit 0] (fun n v=>Iq L p1_0 p1_1 n v.1 v.2.1 v.2.2.1 v.2.2.2) K n
def Bri(p1_0:List Bg)(Ah:Int)(Ak:Int)(p1_1:Ad)(Dp:List Bq)(Dq:List Bool):Bx:=(Cm Tryz.prog (O45 L) (EI (O45 L) L 8) 1 (List.drop 3 Bnh.w.l.u.l.l.w.l.l.u.l.ops) ⟨[(21,.agg (I5 (p1_0.getD (Int.toNat Ah) default))),(20,.clo 105 0 [.loc 1 0,.loc 3 0]),(2,.clo 105 0 [.loc 1 0,.loc 3 0]),(6,I Ak),(8,.loc 13 0),(14,.lst false (.t139 p1_0)),(15,I (p1_0.length:Int)),(16,I Ah),(17,B (decide (Ah < (p1_0.length:Int)))),(18,.ref (I5 (p1_0.getD (Int.toNat Ah) default))),(19,.agg (I5 (p1_0.getD (Int.toNat Ah) default)))],[(1,Az p1_1),(3,[.mp 4]),(4,[.mapO true false (.t140 Dp) (.t4 Dq)]),(13,(I5 (p1_0.getD (Int.toNat Ah) default)))],5⟩ (some 22) (fun st9=>(Bl (EV (O45 L) L 8 Bnh.w.l.u.l.l.w.l.l.u.r) (Ay 1 (Bl (EV (O45 L) L 8 Bnh.w.l.u.l.l.w.r) (I7 (Ly (EV (O45 L) L 8 Bnh.w.l.u.l.l) [0,1,2,6,14,15,16] [1,3,4] n) [0,1,2,6,14,15,16] [1,3,4] K)))) .normal st9))
theorem Cgw(p1_0:List Bg)(Ah:Int)(p1_1:Ad)(Dp:List Bq)(Dq:List Bool)(Ak:Int)(ih:Bo7 L n K p1_0 p1_1)(o8:Tu8):Bpc (p1_0.getD (Int.toNat Ah) default) p1_1 Dp Dq (p1_0.getD (Int.toNat Ah) default) (Bri L n K p1_0 Ah Ak p1_1 Dp Dq) o8=ob (Sj L Ah Ak (Iq L p1_0 p1_1 n) o8) (kX [.ret,.exit 0] (Bhq p1_0 p1_1) K):=eE (Sj L Ah Ak (fun Ak Ah Dp Dq=>re (ih (Ak,Ah,Dp,Dq))) o8)
theorem B6s(p1_0:List Bg)(p1_1:Ad):∀n,Bo7 L n K p1_0 p1_1:=lE (fun _=>rfl) fun n v ih=>eE (Xu L p1_0 p1_1 (fun Ak Ah Dp Dq=>re (ih (Ak,Ah,Dp,Dq))) v.1 v.2.1 v.2.2.1 v.2.2.2 (fun Ah Dp Dq Ak=>ho (B5k L (Bri L n K p1_0 Ah Ak p1_1 Dp Dq) (p1_0.getD (Int.toNat Ah) default) p1_1 Dp Dq (p1_0.getD (Int.toNat Ah) default)) fun o8=>Cgw L n K p1_0 Ah p1_1 Dp Dq Ak ih o8))
def Bfz(p1_0:List Bg)(p1_1:Ad)(k:Bx):Tu8→Prop:=fun o=>k (I o.1) [(1,Az p1_1),(3,[.mp 4]),(4,[.mapO true false (.t140 o.2.1) (.t4 o.2.2)])]
def Xc [An A Tu8](L:Nat)(o9:Nat×Bf9):A:=
 (sl o9.1 [(lf (o9.2.1,o9.2.2.2.1,o9.2.2.2.2)),
 (lf (0,o9.2.2.2.1,o9.2.2.2.2))])
def Brj:Be:=(Ay 0 (Bl (EV (O45 L) L 8 Bnh.w.r) (E5 Tryz.prog (RS Tryz.f104) k)))
theorem Cgx(p1_0:List Bg)(p1_1:Ad)(o9:Nat×Bf9):kX [.ret,.exit 0] (Bhq p1_0 p1_1) (Brj L k) o9=ob (Xc L o9) (Bfz p1_0 p1_1 k):=eE (Xc L o9)
def Ad4 [An A Tu8](L:Nat)(p1_0:List Bg)(p1_1:Ad)(nx4:A):A:=
 (cn (decide ((p1_0.length:Int) > 32))
 (lf (6,[],[]))
 nx4)
def Alv [An A Tu8](p1_0:List Bg)(p1_1:Ad):A:=Ad4 L p1_0 p1_1 (bd (Iq L p1_0 p1_1 L 0 0 [] []) fun o9=>Xc L o9)
def Ac2(p1_0:List Bg)(p1_1:Ad):Option Tu8:=Alv L p1_0 p1_1
theorem B5j(p1_0:List Bg)(p1_1:Ad):YO (O45 L) L 9 104 [.lst false (.t139 p1_0),I 32,.clo 105 0 [.loc 1 0,.loc 3 0]] [(1,Az p1_1),(3,[.mp 4]),(4,[.mapO true false (.t140 []) (.t4 [])])] k=ob (Ac2 L p1_0 p1_1) (Bfz p1_0 p1_1 k):=(Dc _ _ _ jn4 _ _ _ _ _ _ _).trans (eE (Ad4 L p1_0 p1_1 (ho (B6s L (Brj L k) p1_0 p1_1 L (0,0,[],[])) fun o9=>Cgx L k p1_0 p1_1 o9)))
def Sk [An A Int](L:Nat)(o10:Tu8):A:=
 (lf o10.1)
def Brk(a0:Ad):Bx:=(Cm Tryz.prog (O45 L) (EI (O45 L) L 9) 1 (List.drop 4 c45.w.l.ops) ⟨[(7,.clo 105 0 [.loc 1 0,.loc 3 0]),(6,.lst false (.t139 a0.Links)),(5,.loc 1 3),(1,.loc 1 0),(2,I 0),(3,.loc 3 0)],[(1,Az a0),(3,[.mp 4]),(4,[.mapO true false (.t140 []) (.t4 [])])],0⟩ (some 8) (fun st9=>(Bl (EV (O45 L) L 9 c45.w.r) (C8 Tryz.prog (RS Tryz.f45) kk)) .normal st9))
theorem Cgy(a0:Ad)(o10:Tu8):Bfz a0.Links a0 (Brk L kk a0) o10=ob (Sk L o10) (Cj3 kk):=eE (Sk L o10)
def Xv [An A Int](L:Nat)(a0:Ad)(nx5:A):A:=
 nx5
def Asf [An A Int](a0:Ad):A:=Xv L a0 (bd (Ac2 L a0.Links a0) fun o10=>Sk L o10)
def Aem(a0:Ad):Option Int:=Asf L a0
def X45:Gk:=E1 I 45 D1 (Aem L) fun a0 r h=>hF Tryz.func45 (C:=O45 L) (oS _) L (fun kk=>eE (Xv L a0 (ho (B5j L (Brk L kk a0) a0.Links a0) fun o10=>Cgy L kk a0 o10))) h
noncomputable def c41:EC:=CC Tryz.f41
noncomputable def c42:EC:=CC Tryz.f42
noncomputable def c24:EC:=CC Tryz.f24
def O24:Bk:=oL [X39 L,X44 L,X45 L,Bvt L,Bvu L]
def Cez:Int→Prop:=fun x=>kk (I x)
def Bpb(p7_0:ByteArray)(p7_1:Ad)(p7_2:List ByteArray)(p7_3:List Bool)(p7_4:Al)(p7_5:Al)(k:Bx):Cs→Prop:=fun o=>k (I o.1) [(1,Az p7_1),(13,[.mapO false false (.t9 o.2.1) (.t4 o.2.2)]),(22,Bz p7_4),(26,Bz p7_5)]
def Alt [An A Cs](p7_0:ByteArray)(p7_1:Ad)(p7_2:List ByteArray)(p7_3:List Bool)(p7_4:Al)(p7_5:Al):A:=
 (bd (De L p7_0) fun r2=>
 (cn (r2 != 0)
 (lf (r2,p7_2,p7_3))
 (fq (p7_2.findIdx? fun b=>p7_0 == b) (fun i3=>
 (cn (p7_3.getD i3 default)
 (lf (4,p7_2,p7_3))
 (fq (p7_2.findIdx? fun b=>p7_0 == b) (fun i4=>
 (lf (0,p7_2,(p7_3.set i4 true))))
 (lf (0,(p7_2++ [p7_0]),(p7_3++ [true]))))))
 (fq (p7_2.findIdx? fun b=>p7_0 == b) (fun i5=>
 (lf (0,p7_2,(p7_3.set i5 true))))
 (lf (0,(p7_2++ [p7_0]),(p7_3++ [true])))))))
def Acy(p7_0:ByteArray)(p7_1:Ad)(p7_2:List ByteArray)(p7_3:List Bool)(p7_4:Al)(p7_5:Al):Option Cs:=Alt L p7_0 p7_1 p7_2 p7_3 p7_4 p7_5
theorem B5g(p7_0:ByteArray)(p7_1:Ad)(p7_2:List ByteArray)(p7_3:List Bool)(p7_4:Al)(p7_5:Al):YO (O24 L) L 6 43 [.mp 13,S p7_0] [(1,Az p7_1),(13,[.mapO false false (.t9 p7_2) (.t4 p7_3)]),(22,Bz p7_4),(26,Bz p7_5)] k=ob (Acy L p7_0 p7_1 p7_2 p7_3 p7_4 p7_5) (Bpb p7_0 p7_1 p7_2 p7_3 p7_4 p7_5 k):=(Dc _ _ _ jn4 _ _ _ _ _ _ _).trans (eE (Alt L p7_0 p7_1 p7_2 p7_3 p7_4 p7_5))
def Bfx(p5_0:Al)(p5_1:Ad)(p5_2:List ByteArray)(p5_3:List Bool)(p5_4:Al)(k:Bx):Cs→Prop:=fun o=>k (I o.1) [(1,Az p5_1),(13,[.mapO false false (.t9 o.2.1) (.t4 o.2.2)]),(22,Bz p5_4),(26,Bz p5_0)]
def W9 [An A Cs](p5_0:Al)(o6:Cs):A:=
 (cn (o6.1 != 0)
 (lf (o6.1,o6.2.1,o6.2.2))
 (bd (Ks L p5_0.Type_) fun r7=>
 (cn (!r7)
 (lf (1,o6.2.1,o6.2.2))
 (bd (S8 L p5_0.Type_ p5_0.N) fun r8=>
 (cn (!r8)
 (lf (2,o6.2.1,o6.2.2))
 (lf (0,o6.2.1,o6.2.2)))))))
def Bra(p5_0:Al)(p5_1:Ad)(p5_2:List ByteArray)(p5_3:List Bool)(p5_4:Al):Bx:=(Cm Tryz.prog (O24 L) (EI (O24 L) L 6) 1 (List.drop 4 c72.u.l.l.ops) ⟨[(8,S p5_0.Name),(7,.loc 26 0),(6,.mp 13),(0,.mp 13),(3,.loc 26 0),(4,I 0)],[(1,Az p5_1),(13,[.mapO false false (.t9 p5_2) (.t4 p5_3)]),(22,Bz p5_4),(26,Bz p5_0)],23⟩ (some 9) (fun st9=>(Bl (EV (O24 L) L 6 c72.u.l.r) (Bl (EV (O24 L) L 6 c72.u.r) (E5 Tryz.prog (RS Tryz.f72) k))) .normal st9))
theorem Cgo(p5_0:Al)(p5_1:Ad)(p5_2:List ByteArray)(p5_3:List Bool)(p5_4:Al)(o6:Cs):Bpb p5_0.Name p5_1 p5_2 p5_3 p5_4 p5_0 (Bra L k p5_0 p5_1 p5_2 p5_3 p5_4) o6=ob (W9 L p5_0 o6) (Bfx p5_0 p5_1 p5_2 p5_3 p5_4 k):=eE (W9 L p5_0 o6)
def Ad1 [An A Cs](L:Nat)(p5_0:Al)(p5_1:Ad)(p5_2:List ByteArray)(p5_3:List Bool)(p5_4:Al)(nx6:A):A:=
 nx6
def Als [An A Cs](p5_0:Al)(p5_1:Ad)(p5_2:List ByteArray)(p5_3:List Bool)(p5_4:Al):A:=Ad1 L p5_0 p5_1 p5_2 p5_3 p5_4 (bd (Acy L p5_0.Name p5_1 p5_2 p5_3 p5_4 p5_0) fun o6=>W9 L p5_0 o6)
def Nt(p5_0:Al)(p5_1:Ad)(p5_2:List ByteArray)(p5_3:List Bool)(p5_4:Al):Option Cs:=Als L p5_0 p5_1 p5_2 p5_3 p5_4
theorem B5f(p5_0:Al)(p5_1:Ad)(p5_2:List ByteArray)(p5_3:List Bool)(p5_4:Al):YO (O24 L) L 7 72 [.mp 13,.agg (Bz p5_0)] [(1,Az p5_1),(13,[.mapO false false (.t9 p5_2) (.t4 p5_3)]),(22,Bz p5_4)] k=ob (Nt L p5_0 p5_1 p5_2 p5_3 p5_4) (Bfx p5_0 p5_1 p5_2 p5_3 p5_4 k):=(Dc _ _ _ jn4 _ _ _ _ _ _ _).trans (eE (Ad1 L p5_0 p5_1 p5_2 p5_3 p5_4 (ho (B5g L (Bra L k p5_0 p5_1 p5_2 p5_3 p5_4) p5_0.Name p5_1 p5_2 p5_3 p5_4 p5_0) fun o6=>Cgo L k p5_0 p5_1 p5_2 p5_3 p5_4 o6)))
def Bhi(p1_0:List Al)(p1_1:Ad)(v:Tu4):St:=⟨[(0,.any),(1,.any),(2,.clo 72 1 [.mp 13]),(6,I v.1),(14,.lst false (.t57 p1_0)),(15,I (p1_0.length:Int)),(16,I v.2.1)],[(1,Az p1_1),(13,[.mapO false false (.t9 v.2.2.1) (.t4 v.2.2.2)])],14⟩
def Sg [An A Sz](L:Nat)(Ah:Int)(Ak:Int)(rec:Int→Int→List ByteArray→List Bool→A)(o9:Cs):A:=
 (cn (o9.1 != 0)
 (lf (0,o9.1,Ah,o9.2.1,o9.2.2))
 (rec Ak (Da (Ah+1)) o9.2.1 o9.2.2))
def Xq [An A Sz](L:Nat)(p1_0:List Al)(p1_1:Ad)(rec:Int→Int→List ByteArray→List Bool→A)(Ak:Int)(Ah:Int)(Dp:List ByteArray)(Dq:List Bool)(nx7:Int→(List ByteArray)→(List Bool)→Int→A):A:=
 (cn (decide (Ah < (p1_0.length:Int)))
 (gq (0≤Ah)
 (gq (Ah < (p1_0.length:Int))
 (nx7 Ah Dp Dq Ak)))
 (lf (1,Ak,Ah,Dp,Dq)))
def Adf [An A Sz](p1_0:List Al)(p1_1:Ad)(rec:Int→Int→List ByteArray→List Bool→A)(Ak:Int)(Ah:Int)(Dp:List ByteArray)(Dq:List Bool):A:=Xq L p1_0 p1_1 rec Ak Ah Dp Dq (fun Ah Dp Dq Ak=>bd (Nt L (p1_0.getD (Int.toNat Ah) default) p1_1 Dp Dq (p1_0.getD (Int.toNat Ah) default)) fun o9=>Sg L Ah Ak rec o9)
def Io(L:Nat)(p1_0:List Al)(p1_1:Ad):Nat→Int→Int→List ByteArray→List Bool→Option Sz
 |0,_,_,_,_=>none
 |n+1,Ak,Ah,Dp,Dq=>Adf L p1_0 p1_1 (Io L p1_0 p1_1 n) Ak Ah Dp Dq
def Boz(p1_0:List Al)(p1_1:Ad):Prop:=LI (EV (O24 L) L 7 c71.w.l.u.l.l) [0,1,2,6,14,15,16] [1,13] (Bhi p1_0 p1_1) [.ret,.exit 0] (fun n v=>Io L p1_0 p1_1 n v.1 v.2.1 v.2.2.1 v.2.2.2) K n
def Brb(p1_0:List Al)(Ah:Int)(Ak:Int)(p1_1:Ad)(Dp:List ByteArray)(Dq:List Bool):Bx:=(Cm Tryz.prog (O24 L) (EI (O24 L) L 7) 1 (List.drop 3 c71.w.l.u.l.l.w.l.l.u.l.ops) ⟨[(21,.agg (Bz (p1_0.getD (Int.toNat Ah) default))),(20,.clo 72 1 [.mp 13]),(2,.clo 72 1 [.mp 13]),(6,I Ak),(8,.loc 22 0),(14,.lst false (.t57 p1_0)),(15,I (p1_0.length:Int)),(16,I Ah),(17,B (decide (Ah < (p1_0.length:Int)))),(18,.ref (Bz (p1_0.getD (Int.toNat Ah) default))),(19,.agg (Bz (p1_0.getD (Int.toNat Ah) default)))],[(1,Az p1_1),(13,[.mapO false false (.t9 Dp) (.t4 Dq)]),(22,(Bz (p1_0.getD (Int.toNat Ah) default)))],14⟩ (some 22) (fun st9=>(Bl (EV (O24 L) L 7 c71.w.l.u.l.l.w.l.l.u.r) (Ay 1 (Bl (EV (O24 L) L 7 c71.w.l.u.l.l.w.r) (I7 (Ly (EV (O24 L) L 7 c71.w.l.u.l.l) [0,1,2,6,14,15,16] [1,13] n) [0,1,2,6,14,15,16] [1,13] K)))) .normal st9))
theorem Cgp(p1_0:List Al)(Ah:Int)(p1_1:Ad)(Dp:List ByteArray)(Dq:List Bool)(Ak:Int)(ih:Boz L n K p1_0 p1_1)(o9:Cs):Bfx (p1_0.getD (Int.toNat Ah) default) p1_1 Dp Dq (p1_0.getD (Int.toNat Ah) default) (Brb L n K p1_0 Ah Ak p1_1 Dp Dq) o9=ob (Sg L Ah Ak (Io L p1_0 p1_1 n) o9) (kX [.ret,.exit 0] (Bhi p1_0 p1_1) K):=eE (Sg L Ah Ak (fun Ak Ah Dp Dq=>re (ih (Ak,Ah,Dp,Dq))) o9)
theorem B6f(p1_0:List Al)(p1_1:Ad):∀n,Boz L n K p1_0 p1_1:=lE (fun _=>rfl) fun n v ih=>eE (Xq L p1_0 p1_1 (fun Ak Ah Dp Dq=>re (ih (Ak,Ah,Dp,Dq))) v.1 v.2.1 v.2.2.1 v.2.2.2 (fun Ah Dp Dq Ak=>ho (B5f L (Brb L n K p1_0 Ah Ak p1_1 Dp Dq) (p1_0.getD (Int.toNat Ah) default) p1_1 Dp Dq (p1_0.getD (Int.toNat Ah) default)) fun o9=>Cgp L n K p1_0 Ah p1_1 Dp Dq Ak ih o9))
def Bfw(p1_0:List Al)(p1_1:Ad)(k:Bx):Cs→Prop:=fun o=>k (I o.1) [(1,Az p1_1),(13,[.mapO false false (.t9 o.2.1) (.t4 o.2.2)])]
def Adj [An A Cs](L:Nat)(o10:Nat×Tu4):A:=
 (sl o10.1 [(lf (o10.2.1,o10.2.2.2.1,o10.2.2.2.2)),
 (lf (0,o10.2.2.2.1,o10.2.2.2.2))])
def Brc:Be:=(Ay 0 (Bl (EV (O24 L) L 7 c71.w.r) (E5 Tryz.prog (RS Tryz.f71) k)))
theorem Cgq(p1_0:List Al)(p1_1:Ad)(o10:Nat×Tu4):kX [.ret,.exit 0] (Bhi p1_0 p1_1) (Brc L k) o10=ob (Adj L o10) (Bfw p1_0 p1_1 k):=eE (Adj L o10)
def Aml [An A Cs](L:Nat)(p1_0:List Al)(p1_1:Ad)(nx8:A):A:=
 (cn (decide ((p1_0.length:Int) > 32))
 (lf (6,[],[]))
 nx8)
def Aw0 [An A Cs](p1_0:List Al)(p1_1:Ad):A:=Aml L p1_0 p1_1 (bd (Io L p1_0 p1_1 L 0 0 [] []) fun o10=>Adj L o10)
def Acx(p1_0:List Al)(p1_1:Ad):Option Cs:=Aw0 L p1_0 p1_1
theorem B5e(p1_0:List Al)(p1_1:Ad):YO (O24 L) L 8 71 [.lst false (.t57 p1_0),I 32,.clo 72 1 [.mp 13]] [(1,Az p1_1),(13,[.mapO false false (.t9 []) (.t4 [])])] k=ob (Acx L p1_0 p1_1) (Bfw p1_0 p1_1 k):=(Dc _ _ _ jn4 _ _ _ _ _ _ _).trans (eE (Aml L p1_0 p1_1 (ho (B6f L (Brc L k) p1_0 p1_1 L (0,0,[],[])) fun o10=>Cgq L k p1_0 p1_1 o10)))
def Bh7(p14_0:ByteArray)(p14_1:Ad)(p14_2:List ByteArray)(p14_3:List Bool)(p14_4:List ByteArray)(p14_5:List Bool)(p14_6:Aa)(p14_7:Aa)(k:Bx):Cs→Prop:=fun o=>k (I o.1) [(1,Az p14_1),(5,[.mp 24]),(13,[.mapO false false (.t9 p14_2) (.t4 p14_3)]),(24,[.mapO false false (.t9 o.2.1) (.t4 o.2.2)]),(33,Ae p14_6),(36,Ae p14_7)]
def Ajx [An A Cs](p14_0:ByteArray)(p14_1:Ad)(p14_2:List ByteArray)(p14_3:List Bool)(p14_4:List ByteArray)(p14_5:List Bool)(p14_6:Aa)(p14_7:Aa):A:=
 (bd (De L p14_0) fun r12=>
 (cn (r12 != 0)
 (lf (r12,p14_4,p14_5))
 (fq (p14_4.findIdx? fun b=>p14_0 == b) (fun i13=>
 (cn (p14_5.getD i13 default)
 (lf (4,p14_4,p14_5))
 (fq (p14_4.findIdx? fun b=>p14_0 == b) (fun i14=>
 (lf (0,p14_4,(p14_5.set i14 true))))
 (lf (0,(p14_4++ [p14_0]),(p14_5++ [true]))))))
 (fq (p14_4.findIdx? fun b=>p14_0 == b) (fun i15=>
 (lf (0,p14_4,(p14_5.set i15 true))))
 (lf (0,(p14_4++ [p14_0]),(p14_5++ [true])))))))
def x0(p14_0:ByteArray)(p14_1:Ad)(p14_2:List ByteArray)(p14_3:List Bool)(p14_4:List ByteArray)(p14_5:List Bool)(p14_6:Aa)(p14_7:Aa):Option Cs:=Ajx L p14_0 p14_1 p14_2 p14_3 p14_4 p14_5 p14_6 p14_7
theorem Bxj(p14_0:ByteArray)(p14_1:Ad)(p14_2:List ByteArray)(p14_3:List Bool)(p14_4:List ByteArray)(p14_5:List Bool)(p14_6:Aa)(p14_7:Aa):YO (O24 L) L 7 43 [.mp 24,S p14_0] [(1,Az p14_1),(5,[.mp 24]),(13,[.mapO false false (.t9 p14_2) (.t4 p14_3)]),(24,[.mapO false false (.t9 p14_4) (.t4 p14_5)]),(33,Ae p14_6),(36,Ae p14_7)] k=ob (x0 L p14_0 p14_1 p14_2 p14_3 p14_4 p14_5 p14_6 p14_7) (Bh7 p14_0 p14_1 p14_2 p14_3 p14_4 p14_5 p14_6 p14_7 k):=(Dc _ _ _ jn4 _ _ _ _ _ _ _).trans (eE (Ajx L p14_0 p14_1 p14_2 p14_3 p14_4 p14_5 p14_6 p14_7))
def A8x(p12_0:Aa)(p12_1:Ad)(p12_2:List ByteArray)(p12_3:List Bool)(p12_4:List ByteArray)(p12_5:List Bool)(p12_6:Aa)(k:Bx):Cs→Prop:=fun o=>k (I o.1) [(1,Az p12_1),(5,[.mp 24]),(13,[.mapO false false (.t9 p12_2) (.t4 p12_3)]),(24,[.mapO false false (.t9 o.2.1) (.t4 o.2.2)]),(33,Ae p12_6),(36,Ae p12_0)]
def Uu [An A Cs](p12_0:Aa)(o16:Cs):A:=
 (cn (o16.1 != 0)
 (lf (o16.1,o16.2.1,o16.2.2))
 (bd (Aha L p12_0) fun r17=>
 (lf (r17,o16.2.1,o16.2.2))))
def Bks(p12_0:Aa)(p12_1:Ad)(p12_2:List ByteArray)(p12_3:List Bool)(p12_4:List ByteArray)(p12_5:List Bool)(p12_6:Aa):Bx:=(Cm Tryz.prog (O24 L) (EI (O24 L) L 7) 1 (List.drop 4 c42.u.l.l.ops) ⟨[(7,S p12_0.Name),(6,.loc 36 0),(5,.mp 24),(1,.loc 5 0),(2,.loc 36 0),(3,I 0)],[(1,Az p12_1),(5,[.mp 24]),(13,[.mapO false false (.t9 p12_2) (.t4 p12_3)]),(24,[.mapO false false (.t9 p12_4) (.t4 p12_5)]),(33,Ae p12_6),(36,Ae p12_0)],34⟩ (some 8) (fun st9=>(Bl (EV (O24 L) L 7 c42.u.l.r) (Bl (EV (O24 L) L 7 c42.u.r) (E5 Tryz.prog (RS Tryz.f42) k))) .normal st9))
theorem B89(p12_0:Aa)(p12_1:Ad)(p12_2:List ByteArray)(p12_3:List Bool)(p12_4:List ByteArray)(p12_5:List Bool)(p12_6:Aa)(o16:Cs):Bh7 p12_0.Name p12_1 p12_2 p12_3 p12_4 p12_5 p12_6 p12_0 (Bks L k p12_0 p12_1 p12_2 p12_3 p12_4 p12_5 p12_6) o16=ob (Uu L p12_0 o16) (A8x p12_0 p12_1 p12_2 p12_3 p12_4 p12_5 p12_6 k):=eE (Uu L p12_0 o16)
def Ab3 [An A Cs](L:Nat)(p12_0:Aa)(p12_1:Ad)(p12_2:List ByteArray)(p12_3:List Bool)(p12_4:List ByteArray)(p12_5:List Bool)(p12_6:Aa)(nx15:A):A:=
 nx15
def Ajw [An A Cs](p12_0:Aa)(p12_1:Ad)(p12_2:List ByteArray)(p12_3:List Bool)(p12_4:List ByteArray)(p12_5:List Bool)(p12_6:Aa):A:=Ab3 L p12_0 p12_1 p12_2 p12_3 p12_4 p12_5 p12_6 (bd (x0 L p12_0.Name p12_1 p12_2 p12_3 p12_4 p12_5 p12_6 p12_0) fun o16=>Uu L p12_0 o16)
def Lv(p12_0:Aa)(p12_1:Ad)(p12_2:List ByteArray)(p12_3:List Bool)(p12_4:List ByteArray)(p12_5:List Bool)(p12_6:Aa):Option Cs:=Ajw L p12_0 p12_1 p12_2 p12_3 p12_4 p12_5 p12_6
theorem Bxi(p12_0:Aa)(p12_1:Ad)(p12_2:List ByteArray)(p12_3:List Bool)(p12_4:List ByteArray)(p12_5:List Bool)(p12_6:Aa):YO (O24 L) L 8 42 [.agg (Ae p12_0),.loc 5 0] [(1,Az p12_1),(5,[.mp 24]),(13,[.mapO false false (.t9 p12_2) (.t4 p12_3)]),(24,[.mapO false false (.t9 p12_4) (.t4 p12_5)]),(33,Ae p12_6)] k=ob (Lv L p12_0 p12_1 p12_2 p12_3 p12_4 p12_5 p12_6) (A8x p12_0 p12_1 p12_2 p12_3 p12_4 p12_5 p12_6 k):=(Dc _ _ _ jn4 _ _ _ _ _ _ _).trans (eE (Ab3 L p12_0 p12_1 p12_2 p12_3 p12_4 p12_5 p12_6 (ho (Bxj L (Bks L k p12_0 p12_1 p12_2 p12_3 p12_4 p12_5 p12_6) p12_0.Name p12_1 p12_2 p12_3 p12_4 p12_5 p12_6 p12_0) fun o16=>B89 L k p12_0 p12_1 p12_2 p12_3 p12_4 p12_5 p12_6 o16)))
def Bhj(p8_0:List Aa)(p8_1:Ad)(p8_2:List ByteArray)(p8_3:List Bool)(v:Tu4):St:=⟨[(0,.any),(1,.any),(2,.clo 42 0 [.loc 5 0]),(6,I v.1),(14,.lst false (.t32 p8_0)),(15,I (p8_0.length:Int)),(16,I v.2.1)],[(1,Az p8_1),(5,[.mp 24]),(13,[.mapO false false (.t9 p8_2) (.t4 p8_3)]),(24,[.mapO false false (.t9 v.2.2.1) (.t4 v.2.2.2)])],25⟩
def Qj [An A Sz](L:Nat)(B2:Int)(B5:Int)(rec:Int→Int→List ByteArray→List Bool→A)(o18:Cs):A:=
 (cn (o18.1 != 0)
 (lf (0,o18.1,B2,o18.2.1,o18.2.2))
 (rec B5 (Da (B2+1)) o18.2.1 o18.2.2))
def U0 [An A Sz](L:Nat)(p8_0:List Aa)(p8_1:Ad)(p8_2:List ByteArray)(p8_3:List Bool)(rec:Int→Int→List ByteArray→List Bool→A)(B5:Int)(B2:Int)(Mv:List ByteArray)(Mw:List Bool)(nx16:Int→(List ByteArray)→(List Bool)→Int→A):A:=
 (cn (decide (B2 < (p8_0.length:Int)))
 (gq (0≤B2)
 (gq (B2 < (p8_0.length:Int))
 (nx16 B2 Mv Mw B5)))
 (lf (1,B5,B2,Mv,Mw)))
def Adg [An A Sz](p8_0:List Aa)(p8_1:Ad)(p8_2:List ByteArray)(p8_3:List Bool)(rec:Int→Int→List ByteArray→List Bool→A)(B5:Int)(B2:Int)(Mv:List ByteArray)(Mw:List Bool):A:=U0 L p8_0 p8_1 p8_2 p8_3 rec B5 B2 Mv Mw (fun B2 Mv Mw B5=>bd (Lv L (p8_0.getD (Int.toNat B2) default) p8_1 p8_2 p8_3 Mv Mw (p8_0.getD (Int.toNat B2) default)) fun o18=>Qj L B2 B5 rec o18)
def Ip(L:Nat)(p8_0:List Aa)(p8_1:Ad)(p8_2:List ByteArray)(p8_3:List Bool):Nat→Int→Int→List ByteArray→List Bool→Option Sz
 |0,_,_,_,_=>none
 |n+1,B5,B2,Mv,Mw=>Adg L p8_0 p8_1 p8_2 p8_3 (Ip L p8_0 p8_1 p8_2 p8_3 n) B5 B2 Mv Mw
def Bo0(p8_0:List Aa)(p8_1:Ad)(p8_2:List ByteArray)(p8_3:List Bool):Prop:=LI (EV (O24 L) L 8 c41.w.l.u.l.l) [0,1,2,6,14,15,16] [1,5,13,24] (Bhj p8_0 p8_1 p8_2 p8_3) [.ret,.exit 0] (fun n v=>Ip L p8_0 p8_1 p8_2 p8_3 n v.1 v.2.1 v.2.2.1 v.2.2.2) K n
def Bkt(p8_0:List Aa)(B2:Int)(B5:Int)(p8_1:Ad)(p8_2:List ByteArray)(p8_3:List Bool)(Mv:List ByteArray)(Mw:List Bool):Bx:=(Cm Tryz.prog (O24 L) (EI (O24 L) L 8) 1 (List.drop 3 c41.w.l.u.l.l.w.l.l.u.l.ops) ⟨[(21,.agg (Ae (p8_0.getD (Int.toNat B2) default))),(20,.clo 42 0 [.loc 5 0]),(2,.clo 42 0 [.loc 5 0]),(6,I B5),(8,.loc 33 0),(14,.lst false (.t32 p8_0)),(15,I (p8_0.length:Int)),(16,I B2),(17,B (decide (B2 < (p8_0.length:Int)))),(18,.ref (Ae (p8_0.getD (Int.toNat B2) default))),(19,.agg (Ae (p8_0.getD (Int.toNat B2) default)))],[(1,Az p8_1),(5,[.mp 24]),(13,[.mapO false false (.t9 p8_2) (.t4 p8_3)]),(24,[.mapO false false (.t9 Mv) (.t4 Mw)]),(33,(Ae (p8_0.getD (Int.toNat B2) default)))],25⟩ (some 22) (fun st9=>(Bl (EV (O24 L) L 8 c41.w.l.u.l.l.w.l.l.u.r) (Ay 1 (Bl (EV (O24 L) L 8 c41.w.l.u.l.l.w.r) (I7 (Ly (EV (O24 L) L 8 c41.w.l.u.l.l) [0,1,2,6,14,15,16] [1,5,13,24] n) [0,1,2,6,14,15,16] [1,5,13,24] K)))) .normal st9))
theorem B9a(p8_0:List Aa)(B2:Int)(p8_1:Ad)(p8_2:List ByteArray)(p8_3:List Bool)(Mv:List ByteArray)(Mw:List Bool)(B5:Int)(ih:Bo0 L n K p8_0 p8_1 p8_2 p8_3)(o18:Cs):A8x (p8_0.getD (Int.toNat B2) default) p8_1 p8_2 p8_3 Mv Mw (p8_0.getD (Int.toNat B2) default) (Bkt L n K p8_0 B2 B5 p8_1 p8_2 p8_3 Mv Mw) o18=ob (Qj L B2 B5 (Ip L p8_0 p8_1 p8_2 p8_3 n) o18) (kX [.ret,.exit 0] (Bhj p8_0 p8_1 p8_2 p8_3) K):=eE (Qj L B2 B5 (fun B5 B2 Mv Mw=>re (ih (B5,B2,Mv,Mw))) o18)
theorem B6g(p8_0:List Aa)(p8_1:Ad)(p8_2:List ByteArray)(p8_3:List Bool):∀n,Bo0 L n K p8_0 p8_1 p8_2 p8_3:=lE (fun _=>rfl) fun n v ih=>eE (U0 L p8_0 p8_1 p8_2 p8_3 (fun B5 B2 Mv Mw=>re (ih (B5,B2,Mv,Mw))) v.1 v.2.1 v.2.2.1 v.2.2.2 (fun B2 Mv Mw B5=>ho (Bxi L (Bkt L n K p8_0 B2 B5 p8_1 p8_2 p8_3 Mv Mw) (p8_0.getD (Int.toNat B2) default) p8_1 p8_2 p8_3 Mv Mw (p8_0.getD (Int.toNat B2) default)) fun o18=>B9a L n K p8_0 B2 p8_1 p8_2 p8_3 Mv Mw B5 ih o18))
def Bfy(p8_0:List Aa)(p8_1:Ad)(p8_2:List ByteArray)(p8_3:List Bool)(k:Bx):Cs→Prop:=fun o=>k (I o.1) [(1,Az p8_1),(5,[.mp 24]),(13,[.mapO false false (.t9 p8_2) (.t4 p8_3)]),(24,[.mapO false false (.t9 o.2.1) (.t4 o.2.2)])]
def Aa5 [An A Cs](L:Nat)(o19:Nat×Tu4):A:=
 (sl o19.1 [(lf (o19.2.1,o19.2.2.2.1,o19.2.2.2.2)),
 (lf (0,o19.2.2.2.1,o19.2.2.2.2))])
def Bku:Be:=(Ay 0 (Bl (EV (O24 L) L 8 c41.w.r) (E5 Tryz.prog (RS Tryz.f41) k)))
theorem B9b(p8_0:List Aa)(p8_1:Ad)(p8_2:List ByteArray)(p8_3:List Bool)(o19:Nat×Tu4):kX [.ret,.exit 0] (Bhj p8_0 p8_1 p8_2 p8_3) (Bku L k) o19=ob (Aa5 L o19) (Bfy p8_0 p8_1 p8_2 p8_3 k):=eE (Aa5 L o19)
def Aj8 [An A Cs](L:Nat)(p8_0:List Aa)(p8_1:Ad)(p8_2:List ByteArray)(p8_3:List Bool)(nx17:A):A:=
 (cn (decide ((p8_0.length:Int) > 16))
 (lf (6,[],[]))
 nx17)
def Aw1 [An A Cs](p8_0:List Aa)(p8_1:Ad)(p8_2:List ByteArray)(p8_3:List Bool):A:=Aj8 L p8_0 p8_1 p8_2 p8_3 (bd (Ip L p8_0 p8_1 p8_2 p8_3 L 0 0 [] []) fun o19=>Aa5 L o19)
def Acz(p8_0:List Aa)(p8_1:Ad)(p8_2:List ByteArray)(p8_3:List Bool):Option Cs:=Aw1 L p8_0 p8_1 p8_2 p8_3
theorem B5h(p8_0:List Aa)(p8_1:Ad)(p8_2:List ByteArray)(p8_3:List Bool):YO (O24 L) L 9 41 [.lst false (.t32 p8_0),I 16,.clo 42 0 [.loc 5 0]] [(1,Az p8_1),(5,[.mp 24]),(13,[.mapO false false (.t9 p8_2) (.t4 p8_3)]),(24,[.mapO false false (.t9 []) (.t4 [])])] k=ob (Acz L p8_0 p8_1 p8_2 p8_3) (Bfy p8_0 p8_1 p8_2 p8_3 k):=(Dc _ _ _ jn4 _ _ _ _ _ _ _).trans (eE (Aj8 L p8_0 p8_1 p8_2 p8_3 (ho (B6g L (Bku L k) p8_0 p8_1 p8_2 p8_3 L (0,0,[],[])) fun o19=>B9b L k p8_0 p8_1 p8_2 p8_3 o19)))
def Qk [An A Int](a0:Ad)(o20:Cs):A:=
 (cn (o20.1 != 0)
 (lf o20.1)
 (bd (Aem L a0) fun r21=>
 (lf r21)))
def Bkv(a0:Ad)(o11:Cs):Bx:=(Cm Tryz.prog (O24 L) (EI (O24 L) L 9) 1 (List.drop 4 c24.x.u.l.ops) ⟨[(27,.clo 42 0 [.loc 5 0]),(26,.lst false (.t32 a0.Sites)),(25,.loc 1 2),(1,.loc 1 0),(2,I 0),(5,.loc 5 0)],[(1,Az a0),(5,[.mp 24]),(13,[.mapO false false (.t9 o11.2.1) (.t4 o11.2.2)]),(24,[.mapO false false (.t9 []) (.t4 [])])],0⟩ (some 28) (fun st9=>(Bl (EV (O24 L) L 9 c24.x.u.r) (C8 Tryz.prog (RS Tryz.f24) kk)) .normal st9))
theorem B9c(a0:Ad)(o11:Cs)(o20:Cs):Bfy a0.Sites a0 o11.2.1 o11.2.2 (Bkv L kk a0 o11) o20=ob (Qk L a0 o20) (Cez kk):=eE (Qk L a0 o20)
def U1 [An A Int](L:Nat)(a0:Ad)(o11:Cs)(nx18:Cs→A):A:=
 (cn (o11.1 != 0)
 (lf o11.1)
 (cn ((a0.Sites.length:Int) == 0)
 (lf 7)
 (nx18 o11)))
def Xa [An A Int](a0:Ad)(o11:Cs):A:=U1 L a0 o11 (fun o11=>bd (Acz L a0.Sites a0 o11.2.1 o11.2.2) fun o20=>Qk L a0 o20)
def Brd(a0:Ad):Bx:=(Cm Tryz.prog (O24 L) (EI (O24 L) L 8) 1 (List.drop 4 c40.u.l.ops) ⟨[(7,.clo 72 1 [.mp 13]),(6,.mp 13),(5,.lst false (.t57 a0.Params)),(0,.mp 13),(1,.lst false (.t57 a0.Params)),(4,I 0)],[(1,Az a0),(13,[.mapO false false (.t9 []) (.t4 [])])],14⟩ (some 8) (fun st9=>(Bl (EV (O24 L) L 8 c40.u.r) (E5 Tryz.prog (RS Tryz.f40) (Cm Tryz.prog (O24 L) (EI (O24 L) L 9) 1 (List.drop 4 c24.w.l.l.ops) ⟨[(15,.lst false (.t57 a0.Params)),(14,.loc 1 1),(13,.mp 13),(1,.loc 1 0),(2,I 0)],[(13,[.mapO false false (.t9 []) (.t4 [])]),(1,Az a0)],0⟩ (some 16) (fun st9=>(Bl (EV (O24 L) L 9 c24.w.l.r) (Bl (EV (O24 L) L 9 c24.w.r) (C8 Tryz.prog (RS Tryz.f24) kk))) .normal st9)))) .normal st9))
theorem Cgr(a0:Ad)(o11:Cs):Bfw a0.Params a0 (Brd L kk a0) o11=ob (Xa L a0 o11) (Cez kk):=eE (U1 L a0 o11 (fun o11=>ho (B5h L (Bkv L kk a0 o11) a0.Sites a0 o11.2.1 o11.2.2) fun o20=>B9c L kk a0 o11 o20))
def Xr [An A Int](a0:Ad)(nx9:A):A:=
 (bd (De L a0.Name) fun r1=>
 (cn (r1 != 0)
 (lf r1)
 nx9))
def Ase [An A Int](a0:Ad):A:=Xr L a0 (bd (Acx L a0.Params a0) fun o11=>Xa L a0 o11)
def Ael(a0:Ad):Option Int:=Ase L a0
def X24:Gk:=E1 I 24 D1 (Ael L) fun a0 r h=>hF Tryz.func24 (C:=O24 L) (oS _) L (fun kk=>eE (Xr L a0 (ho (B5e L (Brd L kk a0) a0.Params a0) fun o11=>Cgr L kk a0 o11))) h
noncomputable def c20:EC:=CC Tryz.f20
def O20(L:Nat):Bk:=oL []
def Cjw:v6→Prop:=fun x=>kk ((fun(x:v6)=> .tup [I x.1,B x.2]) x)
def Btf(a0:List Ao)(a1:ByteArray)(v:Tu6):St:=⟨[(0,.lst false (.t55 a0)),(1,S a1),(4,I v.1),(5,B v.2.1),(6,I v.2.2)],[],0⟩
def Qd [An A (Nat×Tu6)](L:Nat)(a0:List Ao)(a1:ByteArray)(rec:Int→Bool→Int→A)(Am:Int)(Ah:Bool)(Br:Int):A:=
 (cn (decide (Br≥0))
 (gq (0≤Br)
 (gq (Br < (a0.length:Int))
 (cn (((a0.getD (Int.toNat Br) default).Name).toList == a1.toList)
 (gq (0≤Br)
 (gq (Br < (a0.length:Int))
 (lf (0,(((a0.getD (Int.toNat Br) default).Type_),true,Br)))))
 (rec Am Ah (Da (Br - 1))))))
 (lf (1,Am,Ah,Br)))
def Jc(L:Nat)(a0:List Ao)(a1:ByteArray):Nat→Int→Bool→Int→Option (Nat×Tu6)
 |0,_,_,_=>none
 |n+1,Am,Ah,Br=>Qd L a0 a1 (Jc L a0 a1 n) Am Ah Br
theorem B6b(a0:List Ao)(a1:ByteArray):LP (EV (O20 L) L 9 c20.u.l.u.l.l) [0,1,4,5,6] [] (Btf a0 a1) [.ret,.exit 0] (fun n v=>Jc L a0 a1 n v.1 v.2.1 v.2.2) K:=lE (fun _=>rfl) fun n v ih=>eE (Qd L a0 a1 (fun Am Ah Br=>re (ih (Am,Ah,Br))) v.1 v.2.1 v.2.2)
def Qq [An A v6](L:Nat)(o1:Nat×Tu6):A:=
 (sl o1.1 [(lf (o1.2.1,o1.2.2.1)),
 (lf (0,false))])
def Bq6:Be:=(Ay 0 (Bl (EV (O20 L) L 9 c20.u.r) (C8 Tryz.prog (RS Tryz.f20) kk)))
theorem Cgk(a0:List Ao)(a1:ByteArray)(o1:Nat×Tu6):kX [.ret,.exit 0] (Btf a0 a1) (Bq6 L kk) o1=ob (Qq L o1) (Cjw kk):=eE (Qq L o1)
def U7 [An A v6](L:Nat)(a0:List Ao)(a1:ByteArray)(nx1:A):A:=
 nx1
def Ap2 [An A v6](a0:List Ao)(a1:ByteArray):A:=U7 L a0 a1 (bd (Jc L a0 a1 L 0 false (Da ((a0.length:Int) - 1))) fun o1=>Qq L o1)
def N3(a0:List Ao)(a1:ByteArray):Option v6:=Ap2 L a0 a1
def X20:Gk:=E2 (fun(x:v6)=> .tup [I x.1,B x.2]) 20 Bpx cS (N3 L) fun a0 a1 r h=>hF Tryz.func20 (C:=O20 L) (oS _) L (fun kk=>eE (U7 L a0 a1 (ho (B6b L (Bq6 L kk) a0 a1 L (0,false,(Da ((a0.length:Int) - 1)))) fun o1=>Cgk L kk a0 a1 o1))) h
noncomputable def c9:EC:=CC Tryz.f9
def O9:Bk:=oL [X20 L]
def kq9:v6→Prop:=fun x=>kk ((fun(x:v6)=> .tup [I x.1,B x.2]) x)
def B1l(a1:ByteArray)(a0:Aq)(v:Tu6):St:=⟨[(0,.any),(1,S a1),(2,.loc 2 0),(4,I v.1),(5,B v.2.1),(6,.any),(7,.any),(11,.any),(23,.lst false (.t57 a0.Site.Vars)),(24,I (a0.Site.Vars.length:Int)),(25,I v.2.2),(39,.any)],[(2,J4 a0)],0⟩
def W2 [An A (Nat×Tu6)](L:Nat)(a1:ByteArray)(a0:Aq)(rec:Int→Bool→Int→A)(Ag:Int)(Am:Bool)(Va:Int):A:=
 (cn (decide (Va < (a0.Site.Vars.length:Int)))
 (gq (0≤Va)
 (gq (Va < (a0.Site.Vars.length:Int))
 (cn (((a0.Site.Vars.getD (Int.toNat Va) default).Name).toList == a1.toList)
 (lf (0,(((a0.Site.Vars.getD (Int.toNat Va) default).Type_),true,Va)))
 (rec Ag Am (Da (Va+1))))))
 (lf (1,Ag,Am,Va)))
def Kf(L:Nat)(a1:ByteArray)(a0:Aq):Nat→Int→Bool→Int→Option (Nat×Tu6)
 |0,_,_,_=>none
 |n+1,Ag,Am,Va=>W2 L a1 a0 (Kf L a1 a0 n) Ag Am Va
theorem Ce3(a1:ByteArray)(a0:Aq):LP (EV (O9 L) L 9 c9.w.l.u.l.l) [0,1,2,4,5,6,7,11,23,24,25,39] [2] (B1l a1 a0) [.ret,.exit 0] (fun n v=>Kf L a1 a0 n v.1 v.2.1 v.2.2) K:=lE (fun _=>rfl) fun n v ih=>eE (W2 L a1 a0 (fun Ag Am Va=>re (ih (Ag,Am,Va))) v.1 v.2.1 v.2.2)
def B1m(a1:ByteArray)(a0:Aq)(v:Tu6):St:=⟨[(0,.any),(1,S a1),(2,.any),(4,I v.1),(5,B v.2.1),(6,.any),(7,.any),(9,.any),(25,.any),(37,.lst false (.t57 a0.Params)),(38,I (a0.Params.length:Int)),(39,I v.2.2)],[(2,J4 a0)],0⟩
def W3 [An A (Nat×Tu6)](L:Nat)(a1:ByteArray)(a0:Aq)(rec:Int→Bool→Int→A)(C1:Int)(Iz:Bool)(A1e:Int):A:=
 (cn (decide (A1e < (a0.Params.length:Int)))
 (gq (0≤A1e)
 (gq (A1e < (a0.Params.length:Int))
 (cn (((a0.Params.getD (Int.toNat A1e) default).Name).toList == a1.toList)
 (lf (0,(((a0.Params.getD (Int.toNat A1e) default).Type_),true,A1e)))
 (rec C1 Iz (Da (A1e+1))))))
 (lf (1,C1,Iz,A1e)))
def Kg(L:Nat)(a1:ByteArray)(a0:Aq):Nat→Int→Bool→Int→Option (Nat×Tu6)
 |0,_,_,_=>none
 |n+1,C1,Iz,A1e=>W3 L a1 a0 (Kg L a1 a0 n) C1 Iz A1e
theorem Ce4(a1:ByteArray)(a0:Aq):LP (EV (O9 L) L 9 c9.w.u.l.u.l.l) [0,1,2,4,5,6,7,9,25,37,38,39] [2] (B1m a1 a0) [.ret,.exit 2] (fun n v=>Kg L a1 a0 n v.1 v.2.1 v.2.2) K:=lE (fun _=>rfl) fun n v ih=>eE (W3 L a1 a0 (fun C1 Iz A1e=>re (ih (C1,Iz,A1e))) v.1 v.2.1 v.2.2)
def Sv [An A v6](L:Nat)(o3:Nat×Tu6):A:=
 (sl o3.1 [(lf (o3.2.1,o3.2.2.1)),
 (lf (0,false))])
def B08:Be:=(Ay 2 (Bl (EV (O9 L) L 9 c9.w.u.r) (C8 Tryz.prog (RS Tryz.f9) kk)))
theorem Ck1(a1:ByteArray)(a0:Aq)(o3:Nat×Tu6):kX [.ret,.exit 2] (B1m a1 a0) (B08 L kk) o3=ob (Sv L o3) (kq9 kk):=eE (Sv L o3)
def Yc [An A v6](L:Nat)(a1:ByteArray)(a0:Aq)(o2:Nat×Tu6)(nx2:(Nat×Tu6)→A):A:=
 (sl o2.1 [(lf (o2.2.1,o2.2.2.1)),
 (nx2 o2)])
def Xn [An A v6](a1:ByteArray)(a0:Aq)(o2:Nat×Tu6):A:=Yc L a1 a0 o2 (fun o2=>bd (Kg L a1 a0 L o2.2.1 o2.2.2.1 0) fun o3=>Sv L o3)
def B07:Be:=(Ay 0 (Bl (EV (O9 L) L 9 c9.w.r) (C8 Tryz.prog (RS Tryz.f9) kk)))
theorem Ck0(a1:ByteArray)(a0:Aq)(o2:Nat×Tu6):kX [.ret,.exit 0] (B1l a1 a0) (B07 L kk) o2=ob (Xn L a1 a0 o2) (kq9 kk):=eE (Yc L a1 a0 o2 (fun o2=>ho (Ce4 L (B08 L kk) a1 a0 L (o2.2.1,o2.2.2.1,0)) fun o3=>Ck1 L kk a1 a0 o3))
def Yb [An A v6](a0:Aq)(a1:ByteArray)(nx1:A):A:=
 (bd (N3 L a0.Locals a1) fun r1=>
 (cn r1.2
 (lf (r1.1,true))
 nx1))
def Asj [An A v6](a0:Aq)(a1:ByteArray):A:=Yb L a0 a1 (bd (Kf L a1 a0 L 0 false 0) fun o2=>Xn L a1 a0 o2)
def Aep(a0:Aq)(a1:ByteArray):Option v6:=Asj L a0 a1
def X9:Gk:=E2 (fun(x:v6)=> .tup [I x.1,B x.2]) 9 Ew cS (Aep L) fun a0 a1 r h=>hF Tryz.func9 (C:=O9 L) (oS _) L (fun kk=>eE (Yb L a0 a1 (ho (Ce3 L (B07 L kk) a1 a0 L (0,false,0)) fun o2=>Ck0 L kk a1 a0 o2))) h
end Go.Proofs.YtogleahbpobaiaaGreat.Ev
