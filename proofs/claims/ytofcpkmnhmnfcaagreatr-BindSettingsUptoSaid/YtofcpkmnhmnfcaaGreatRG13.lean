import Derived.Test.YtofcpkmnhmnfcaaGreatRG10
import Derived.Test.YtofcpkmnhmnfcaaGreatRG12
namespace Go.Proofs.YtofcpkmnhmnfcaaGreatR.Ev
open Go An
set_option maxRecDepth 100000
set_option maxHeartbeats 4000000
set_option linter.unusedVariables false
set_option linter.unusedSimpArgs false
set_option linter.unnecessarySimpa false
noncomputable section
variable {A:Type} (L n:Nat) (kk:Cz) (K:Ax) (k:Bk)
def c30:=CC Tryz.f30
def O30:Ba:=oL [X47 L,X48 L,X49 L]
def Bsc(Ak:Int)(a0:Ac)(v:Co):St:=⟨[(0,.any),(1,.loc 1 0),(2,I 0),(3,I v.1),(4,I Ak),(5,I v.2)],[(1,(Aq a0))],0⟩
def Ant [An A B7](Ak:Int)(a0:Ac)(rec:Int→Int→A)(Bv:Int)(Bu:Int):A:=
 (gi Ak a0.Sites
 (cn (decide (Bu < (((a0.Sites.getD (Int.toNat Ak) default).Routines).length:Int)))
 (cn (Bv == 0)
 (gi Ak a0.Sites
 (gi Bu ((a0.Sites.getD (Int.toNat Ak) default).Routines)
 (bd (As5 L (((a0.Sites.getD (Int.toNat Ak) default).Routines).getD (Int.toNat Bu) default)) fun r2=>
 (gi Ak a0.Sites
 (gi Bu ((a0.Sites.getD (Int.toNat Ak) default).Routines)
 (bd (Axv L a0 Ak r2 ((((a0.Sites.getD (Int.toNat Ak) default).Routines).getD (Int.toNat Bu) default).Body)) fun r3=>
 (rec r3 (B6 (Bu+1)))))))))
 (rec Bv (B6 (Bu+1))))
 (lf (0,Bv,Bu))))
def Afd(L:Nat)(Ak:Int)(a0:Ac):Nat→Int→Int→Option B7
 |0,_,_=>none
 |n+1,Bv,Bu=>Ant L Ak a0 (Afd L Ak a0 n) Bv Bu
theorem B6d(Ak:Int)(a0:Ac):LP (EV (O30 L) L 9 c30.w.l.u.l.l.u.l.l.u.l.l) [0,1,2,3,4,5] [1] (Bsc Ak a0) [.exit 2] (fun n v=>Afd L Ak a0 n v.1 v.2) K:=lE (fun _=>rfl) fun n v ih=>eE (Ant L Ak a0 (fun Bv Bu=>re (ih (Bv,Bu))) v.1 v.2)
def Bea(a0:Ac)(v:Co):St:=⟨[(0,.any),(1,.loc 1 0),(2,I 0),(3,I v.1),(4,I v.2)],[(1,(Aq a0))],0⟩
def Af8 [An A B7](L:Nat)(Ak:Int)(rec:Int→Int→A)(o4:Nat×Co):A:=
 (sl o4.1 [(rec o4.2.1 (B6 (Ak+1)))])
def Ao1 [An A B7](L:Nat)(a0:Ac)(rec:Int→Int→A)(Aj:Int)(Ak:Int)(nx1:Int→Int→A):A:=
 (cn (decide (Ak < (a0.Sites.length:Int)))
 (nx1 Ak Aj)
 (lf (0,Aj,Ak)))
def A20 [An A B7](a0:Ac)(rec:Int→Int→A)(Aj:Int)(Ak:Int):A:=Ao1 L a0 rec Aj Ak (fun Ak Aj=>bd (Afd L Ak a0 L Aj 0) fun o4=>Af8 L Ak rec o4)
def i8(L:Nat)(a0:Ac):Nat→Int→Int→Option B7
 |0,_,_=>none
 |n+1,Aj,Ak=>A20 L a0 (i8 L a0 n) Aj Ak
def Bne(a0:Ac):Prop:=LI (EV (O30 L) L 9 c30.w.l.u.l.l) [0,1,2,3,4] [1] (Bea a0) [.exit 0] (fun n v=>i8 L a0 n v.1 v.2) K n
def Bpw:Ax:=(Av 2 (Av 1 (Bb (EV (O30 L) L 9 c30.w.l.u.l.l.u.r) (Gj (Ix (EV (O30 L) L 9 c30.w.l.u.l.l) [0,1,2,3,4] [1] n) [0,1,2,3,4] [1] K))))
theorem Cgd(Ak:Int)(a0:Ac)(ih:Bne L n K a0)(o4:Nat×Co):kX [.exit 2] (Bsc Ak a0) (Bpw L n K) o4=ob (Af8 L Ak (i8 L a0 n) o4) (kX [.exit 0] (Bea a0) K):=eE (Af8 L Ak (fun Aj Ak=>re (ih (Aj,Ak))) o4)
theorem B6c(a0:Ac):∀n,Bne L n K a0:=lE (fun _=>rfl) fun n v ih=>eE (Ao1 L a0 (fun Aj Ak=>re (ih (Aj,Ak))) v.1 v.2 (fun Ak Aj=>ho (B6d L (Bpw L n K) Ak a0 L (Aj,0)) fun o4=>Cgd L n K Ak a0 ih o4))
def Af9 [An A Int](L:Nat)(o5:Nat×Co):A:=
 (sl o5.1 [(lf o5.2.1)])
def Bpx:Ax:=(Av 0 (Bb (EV (O30 L) L 9 c30.w.r) (Cm Tryz.prog (RS Tryz.f30) kk)))
theorem Cge(a0:Ac)(o5:Nat×Co):kX [.exit 0] (Bea a0) (Bpx L kk) o5=ob (Af9 L o5) (kQ I kk):=eE (Af9 L o5)
def Ao2 [An A Int](a0:Ac)(nx2:Int→A):A:=
 (bd (Axq L a0) fun r1=>
 (nx2 r1))
def A9k [An A Int](a0:Ac):A:=Ao2 L a0 (fun r1=>bd (i8 L a0 L r1 0) fun o5=>Af9 L o5)
def Axu(a0:Ac):Option Int:=A9k L a0
def X30:Ew:=E1 I 30 Cq (Axu L) fun a0 r h=>hF Tryz.func30 (C:=O30 L) (oS _) L (fun kk=>eE (Ao2 L a0 (fun r1=>ho (B6c L (Bpx L kk) a0 L (r1,0)) fun o5=>Cge L kk a0 o5))) h
def c31:=CC Tryz.f31
def O31(L:Nat):Ba:=oL []
def Bsd(a1:ByteArray)(a0:Ac)(v:Co):St:=⟨[(0,.any),(1,S a1),(2,.loc 2 0),(4,I v.1),(5,I v.2)],[(2,(Aq a0))],0⟩
def Any [An A B7](L:Nat)(a1:ByteArray)(a0:Ac)(rec:Int→Int→A)(Aj:Int)(Ak:Int):A:=
 (lw Ak a0.Params
 (cn (((a0.Params.getD (Int.toNat Ak) default).Name).toList == a1.toList)
 (lf (0,Ak,Ak))
 (rec Aj (B6 (Ak+1))))
 (lf (1,Aj,Ak)))
def Afi(L:Nat)(a1:ByteArray)(a0:Ac):Nat→Int→Int→Option B7
 |0,_,_=>none
 |n+1,Aj,Ak=>Any L a1 a0 (Afi L a1 a0 n) Aj Ak
theorem B6e(a1:ByteArray)(a0:Ac):LP (EV (O31 L) L 9 c31.u.l.u.l.l) [0,1,2,4,5] [2] (Bsd a1 a0) [.ret,.exit 0] (fun n v=>Afi L a1 a0 n v.1 v.2) K:=lE (fun _=>rfl) fun n v ih=>eE (Any L a1 a0 (fun Aj Ak=>re (ih (Aj,Ak))) v.1 v.2)
def Agg [An A Int](L:Nat)(o1:Nat×Co):A:=
 (sl o1.1 [(lf o1.2.1),
 (lf (-1))])
def Bpy:Ax:=(Av 0 (Bb (EV (O31 L) L 9 c31.u.r) (Cm Tryz.prog (RS Tryz.f31) kk)))
theorem Cgf(a1:ByteArray)(a0:Ac)(o1:Nat×Co):kX [.ret,.exit 0] (Bsd a1 a0) (Bpy L kk) o1=ob (Agg L o1) (kQ I kk):=eE (Agg L o1)
def A9o [An A Int](a0:Ac)(a1:ByteArray):A:=(bd (Afi L a1 a0 L 0 0) fun o1=>Agg L o1)
def Amh(a0:Ac)(a1:ByteArray):Option Int:=A9o L a0 a1
def X31:Ew:=E2 I 31 Cq cS (Amh L) fun a0 a1 r h=>hF Tryz.func31 (C:=O31 L) (oS _) L (fun kk=>eE ((ho (B6e L (Bpy L kk) a1 a0 L (0,0)) fun o1=>Cgf L kk a1 a0 o1))) h
def c9:=CC Tryz.f9
def O9:Ba:=oL [X30 L,X31 L,X32 L]
def kq9:Tu8→Prop:=fun x=>kk ((fun(x:Tu8)=> .tup [.agg (Aq x.1),I x.2]) x)
def B2u(a1:List Ae)(r2:Int)(a0:Ac)(v:Int×Int×ByteArray):St:=⟨[(0,.any),(1,lv (.t41 a1)),(2,.loc 2 0),(4,.loc 4 0),(5,I v.1),(6,.any),(7,.lst true (.t39 [])),(8,I 0),(9,I r2),(10,I v.2.1)],[(2,(Aq a0)),(4,[S v.2.2,.lst true (.t39 []),.lst true (.t53 []),.lst true (.t81 [])])],0⟩
def Anw [An A (Nat×Int×Int×ByteArray)](L:Nat)(a1:List Ae)(r2:Int)(a0:Ac)(rec:Int→Int→ByteArray→A)(Bv:Int)(Xo:Int)(Iz:ByteArray):A:=
 (cn (decide (Xo < 0))
 (gi Xo a1
 (gi 0 a1
 (cn (((a1.getD (Int.toNat Xo) default).Name).toList == ((a1.getD 0 default).Name).toList)
 (lf (0,(4,Xo,(⟨#[]⟩:ByteArray))))
 (rec Bv (B6 (Xo+1)) Iz))))
 (lf (1,Bv,Xo,Iz)))
def Afg(L:Nat)(a1:List Ae)(r2:Int)(a0:Ac):Nat→Int→Int→ByteArray→Option (Nat×Int×Int×ByteArray)
 |0,_,_,_=>none
 |n+1,Bv,Xo,Iz=>Anw L a1 r2 a0 (Afg L a1 r2 a0 n) Bv Xo Iz
theorem Cfs(a1:List Ae)(r2:Int)(a0:Ac):LP (EV (O9 L) L 9 c9.x.u.l.u.l.l.u.l.l.w.l.u.l.l) [0,1,2,4,5,6,7,8,9,10] [2,4] (B2u a1 r2 a0) [.ret,.exit 2] (fun n v=>Afg L a1 r2 a0 n v.1 v.2.1 v.2.2) K:=lE (fun _=>rfl) fun n v ih=>eE (Anw L a1 r2 a0 (fun Bv Xo Iz=>re (ih (Bv,Xo,Iz))) v.1 v.2.1 v.2.2)
def Btd(a1:List Ae)(a0:Ac)(v:Int×ByteArray):St:=⟨[(0,.any),(1,lv (.t41 a1)),(2,.loc 2 0),(4,.loc 4 0),(5,I v.1),(6,.any),(7,.lst true (.t39 [])),(8,I 0)],[(2,(Aq a0)),(4,[S v.2,.lst true (.t39 []),.lst true (.t53 []),.lst true (.t81 [])])],0⟩
def Agc [An A (Nat×Int×ByteArray)](r2:Int)(a1:List Ae)(rec:Int→ByteArray→A)(o3:Nat×Int×Int×ByteArray):A:=
 (sl o3.1 [(lf (0,o3.2.1,o3.2.2.2)),
 (gq (0≤r2)
 (gq (r2 < ((0:Nat):Int))
 (gi 0 a1
 (bd (u6 L ((([]:List Ag).getD (Int.toNat r2) default).Type_) ((a1.getD 0 default).N)) fun r4=>
 (cn (!r4)
 (lf (0,(2,(⟨#[]⟩:ByteArray))))
 (gi 0 a1
 (gq (0≤r2)
 (gq (r2 < ((0:Nat):Int))
 fl))))))))])
def Ao3 [An A (Nat×Int×ByteArray)](a1:List Ae)(a0:Ac)(rec:Int→ByteArray→A)(Aj:Int)(C2:ByteArray)(nx1:Int→Int→ByteArray→A):A:=
 (lw 0 a1
 (bd (Amh L a0 ((a1.getD 0 default).Name)) fun r2=>
 (cn (decide (r2 < 0))
 (lf (0,(5,(⟨#[]⟩:ByteArray))))
 (nx1 r2 Aj C2)))
 (lf (1,Aj,C2)))
def A21 [An A (Nat×Int×ByteArray)](a1:List Ae)(a0:Ac)(rec:Int→ByteArray→A)(Aj:Int)(C2:ByteArray):A:=Ao3 L a1 a0 rec Aj C2 (fun r2 Aj C2=>bd (Afg L a1 r2 a0 L Aj 0 C2) fun o3=>Agc L r2 a1 rec o3)
def i9(L:Nat)(a1:List Ae)(a0:Ac):Nat→Int→ByteArray→Option (Nat×Int×ByteArray)
 |0,_,_=>none
 |n+1,Aj,C2=>A21 L a1 a0 (i9 L a1 a0 n) Aj C2
def B1b(a1:List Ae)(a0:Ac):Prop:=LI (EV (O9 L) L 9 c9.x.u.l.u.l.l) [0,1,2,4,5,6,7,8] [2,4] (Btd a1 a0) [.ret,.exit 0] (fun n v=>i9 L a1 a0 n v.1 v.2) K n
def B1v:Ax:=(Av 2 (Bb (EV (O9 L) L 9 c9.x.u.l.u.l.l.u.l.l.w.r) (Av 1 (Bb (EV (O9 L) L 9 c9.x.u.l.u.l.l.u.r) (Gj (Ix (EV (O9 L) L 9 c9.x.u.l.u.l.l) [0,1,2,4,5,6,7,8] [2,4] n) [0,1,2,4,5,6,7,8] [2,4] K)))))
theorem Ck0(a1:List Ae)(r2:Int)(a0:Ac)(ih:B1b L n K a1 a0)(o3:Nat×Int×Int×ByteArray):kX [.ret,.exit 2] (B2u a1 r2 a0) (B1v L n K) o3=ob (Agc L r2 a1 (i9 L a1 a0 n) o3) (kX [.ret,.exit 0] (Btd a1 a0) K):=eE (Agc L r2 a1 (fun Aj C2=>re (ih (Aj,C2))) o3)
theorem Cfr(a1:List Ae)(a0:Ac):∀n,B1b L n K a1 a0:=lE (fun _=>rfl) fun n v ih=>eE (Ao3 L a1 a0 (fun Aj C2=>re (ih (Aj,C2))) v.1 v.2 (fun r2 Aj C2=>ho (Cfs L (B1v L n K) a1 r2 a0 L (Aj,0,C2)) fun o3=>Ck0 L n K a1 r2 a0 ih o3))
def B2v(a1:List Ae)(a0:Ac)(C5:Int)(r5:Int)(J4:List Ag)(v:Int×Int×ByteArray):St:=⟨[(0,.any),(1,lv (.t41 a1)),(2,.loc 2 0),(4,.loc 4 0),(5,I v.1),(6,.any),(7,.vw false 20 39 3 a0.Params.length),(8,I C5),(9,I r5),(10,I v.2.1)],[(2,(Aq a0)),(4,[S v.2.2,.lst true (.t39 []),.lst true (.t53 []),.lst true (.t81 [])]),(20,[.arrO (.t39 J4)])],0⟩
def Anx [An A (Nat×Int×Int×ByteArray)](L:Nat)(a1:List Ae)(a0:Ac)(C5:Int)(r5:Int)(J4:List Ag)(rec:Int→Int→ByteArray→A)(Cx:Int)(Ei:Int)(Dc:ByteArray):A:=
 (cn (decide (Ei < C5))
 (gi Ei a1
 (gi C5 a1
 (cn (((a1.getD (Int.toNat Ei) default).Name).toList == ((a1.getD (Int.toNat C5) default).Name).toList)
 (lf (0,(4,Ei,(⟨#[]⟩:ByteArray))))
 (rec Cx (B6 (Ei+1)) Dc))))
 (lf (1,Cx,Ei,Dc)))
def Afh(L:Nat)(a1:List Ae)(a0:Ac)(C5:Int)(r5:Int)(J4:List Ag):Nat→Int→Int→ByteArray→Option (Nat×Int×Int×ByteArray)
 |0,_,_,_=>none
 |n+1,Cx,Ei,Dc=>Anx L a1 a0 C5 r5 J4 (Afh L a1 a0 C5 r5 J4 n) Cx Ei Dc
theorem Cfu(a1:List Ae)(a0:Ac)(C5:Int)(r5:Int)(J4:List Ag):LP (EV (O9 L) L 9 c9.x.u.l.u.l.l.u.l.l.w.l.u.l.l) [0,1,2,4,5,6,7,8,9,10] [2,4,20] (B2v a1 a0 C5 r5 J4) [.ret,.exit 2] (fun n v=>Afh L a1 a0 C5 r5 J4 n v.1 v.2.1 v.2.2) K:=lE (fun _=>rfl) fun n v ih=>eE (Anx L a1 a0 C5 r5 J4 (fun Cx Ei Dc=>re (ih (Cx,Ei,Dc))) v.1 v.2.1 v.2.2)
def Bte(a1:List Ae)(a0:Ac)(v:Apg):St:=⟨[(0,.any),(1,lv (.t41 a1)),(2,.loc 2 0),(4,.loc 4 0),(5,I v.1),(6,.any),(7,.vw false 20 39 3 a0.Params.length),(8,I v.2.1)],[(2,(Aq a0)),(4,[S v.2.2.1,.lst true (.t39 []),.lst true (.t53 []),.lst true (.t81 [])]),(20,[.arrO (.t39 v.2.2.2)])],0⟩
def Age [An A (Nat×Apg)](C5:Int)(J4:List Ag)(r5:Int)(a0:Ac)(a1:List Ae)(rec:Int→Int→ByteArray→List Ag→A)(o6:Nat×Int×Int×ByteArray):A:=
 (sl o6.1 [(lf (0,o6.2.1,C5,o6.2.2.2,J4)),
 (gi r5 a0.Params
 (gi C5 a1
 (bd (u6 L ((J4.getD (Int.toNat r5) default).Type_) ((a1.getD (Int.toNat C5) default).N)) fun r7=>
 (cn (!r7)
 (lf (0,(2,C5,(⟨#[]⟩:ByteArray),J4)))
 (gi C5 a1
 (gi r5 a0.Params
 (rec o6.2.1 (B6 (C5+1)) o6.2.2.2 (J4.set (Int.toNat r5) (⟨(J4.getD (Int.toNat r5) default).Name,(J4.getD (Int.toNat r5) default).Type_,(a1.getD (Int.toNat C5) default).N⟩:Ag)))))))))])
def Ao5 [An A (Nat×Apg)](a1:List Ae)(a0:Ac)(rec:Int→Int→ByteArray→List Ag→A)(Fs:Int)(C5:Int)(Avb:ByteArray)(J4:List Ag)(nx3:Int→Int→(List Ag)→Int→ByteArray→A):A:=
 (lw C5 a1
 (bd (Amh L a0 ((a1.getD (Int.toNat C5) default).Name)) fun r5=>
 (cn (decide (r5 < 0))
 (lf (0,(5,C5,(⟨#[]⟩:ByteArray),J4)))
 (nx3 C5 r5 J4 Fs Avb)))
 (lf (1,Fs,C5,Avb,J4)))
def A22 [An A (Nat×Apg)](a1:List Ae)(a0:Ac)(rec:Int→Int→ByteArray→List Ag→A)(Fs:Int)(C5:Int)(Avb:ByteArray)(J4:List Ag):A:=Ao5 L a1 a0 rec Fs C5 Avb J4 (fun C5 r5 J4 Fs Avb=>bd (Afh L a1 a0 C5 r5 J4 L Fs 0 Avb) fun o6=>Age L C5 J4 r5 a0 a1 rec o6)
def j7(L:Nat)(a1:List Ae)(a0:Ac):Nat→Int→Int→ByteArray→List Ag→Option (Nat×Apg)
 |0,_,_,_,_=>none
 |n+1,Fs,C5,Avb,J4=>A22 L a1 a0 (j7 L a1 a0 n) Fs C5 Avb J4
def B1c(a1:List Ae)(a0:Ac):Prop:=LI (EV (O9 L) L 9 c9.x.u.l.u.l.l) [0,1,2,4,5,6,7,8] [2,4,20] (Bte a1 a0) [.ret,.exit 0] (fun n v=>j7 L a1 a0 n v.1 v.2.1 v.2.2.1 v.2.2.2) K n
def B1x:Ax:=(Av 2 (Bb (EV (O9 L) L 9 c9.x.u.l.u.l.l.u.l.l.w.r) (Av 1 (Bb (EV (O9 L) L 9 c9.x.u.l.u.l.l.u.r) (Gj (Ix (EV (O9 L) L 9 c9.x.u.l.u.l.l) [0,1,2,4,5,6,7,8] [2,4,20] n) [0,1,2,4,5,6,7,8] [2,4,20] K)))))
theorem Ck2(a1:List Ae)(a0:Ac)(C5:Int)(r5:Int)(J4:List Ag)(ih:B1c L n K a1 a0)(o6:Nat×Int×Int×ByteArray):kX [.ret,.exit 2] (B2v a1 a0 C5 r5 J4) (B1x L n K) o6=ob (Age L C5 J4 r5 a0 a1 (j7 L a1 a0 n) o6) (kX [.ret,.exit 0] (Bte a1 a0) K):=eE (Age L C5 J4 r5 a0 a1 (fun Fs C5 Avb J4=>re (ih (Fs,C5,Avb,J4))) o6)
theorem Cft(a1:List Ae)(a0:Ac):∀n,B1c L n K a1 a0:=lE (fun _=>rfl) fun n v ih=>eE (Ao5 L a1 a0 (fun Fs C5 Avb J4=>re (ih (Fs,C5,Avb,J4))) v.1 v.2.1 v.2.2.1 v.2.2.2 (fun C5 r5 J4 Fs Avb=>ho (Cfu L (B1x L n K) a1 a0 C5 r5 J4 L (Fs,0,Avb)) fun o6=>Ck2 L n K a1 a0 C5 r5 J4 ih o6))
def Agd [An A Tu8](L:Nat)(a0:Ac)(o8:Nat×Int×ByteArray):A:=
 (sl o8.1 [(lf ((⟨o8.2.2,[],[],[]⟩:Ac),o8.2.1)),
 (lf ((⟨a0.Name,[],a0.Sites,a0.Links⟩:Ac),0))])
def B1w:Ax:=(Av 0 (Bb (EV (O9 L) L 9 c9.x.u.r) (Cm Tryz.prog (RS Tryz.f9) kk)))
theorem Ck1(a1:List Ae)(a0:Ac)(o8:Nat×Int×ByteArray):kX [.ret,.exit 0] (Btd a1 a0) (B1w L kk) o8=ob (Agd L a0 o8) (kq9 kk):=eE (Agd L a0 o8)
def Agf [An A Tu8](L:Nat)(a0:Ac)(o9:Nat×Apg):A:=
 (sl o9.1 [(lf ((⟨o9.2.2.2.1,[],[],[]⟩:Ac),o9.2.1)),
 (lf ((⟨a0.Name,o9.2.2.2.2,a0.Sites,a0.Links⟩:Ac),0))])
def B1y:Ax:=(Av 0 (Bb (EV (O9 L) L 9 c9.x.u.r) (Cm Tryz.prog (RS Tryz.f9) kk)))
theorem Ck3(a1:List Ae)(a0:Ac)(o9:Nat×Apg):kX [.ret,.exit 0] (Bte a1 a0) (B1y L kk) o9=ob (Agf L a0 o9) (kq9 kk):=eE (Agf L a0 o9)
def Ao4 [An A Tu8](a0:Ac)(a1:List Ae)(nx2:A)(nx4:A):A:=
 (bd (Axu L a0) fun r1=>
 (cn (r1 != 0)
 (lf ((⟨(⟨#[]⟩:ByteArray),[],[],[]⟩:Ac),r1))
 (cn (Nat.beq a0.Params.length 0)
 nx2
 (gq (a0.Params.length*32≤140737488355328)
 (gq (a0.Params.length≤maxLen)
 nx4)))))
def A9n [An A Tu8](a0:Ac)(a1:List Ae):A:=Ao4 L a0 a1 (bd (i9 L a1 a0 L 0 (⟨#[]⟩:ByteArray)) fun o8=>Agd L a0 o8) (bd (j7 L a1 a0 L 0 0 (⟨#[]⟩:ByteArray) a0.Params) fun o9=>Agf L a0 o9)
def Axz(a0:Ac)(a1:List Ae):Option Tu8:=A9n L a0 a1
def X9:Ew:=E2 (fun(x:Tu8)=> .tup [.agg (Aq x.1),I x.2]) 9 Cq Bu0 (Axz L) fun a0 a1 r h=>hF Tryz.func9 (C:=O9 L) (oS _) L (fun kk=>eE (Ao4 L a0 a1 (ho (Cfr L (B1w L kk) a1 a0 L (0,(⟨#[]⟩:ByteArray))) fun o8=>Ck1 L kk a1 a0 o8) (ho (Cft L (B1y L kk) a1 a0 L (0,0,(⟨#[]⟩:ByteArray),a0.Params)) fun o9=>Ck3 L kk a1 a0 o9))) h
def c33:=CC Tryz.f33
def O33(L:Nat):Ba:=oL []
def Bse(a0:List Ag)(a1:List Ag)(v:U4):St:=⟨[(0,lv (.t39 a0)),(1,lv (.t39 a1)),(4,B v.1),(5,I v.2)],[],0⟩
def Qy [An A Ln](L:Nat)(a0:List Ag)(a1:List Ag)(rec:Bool→Int→A)(Ak:Bool)(Ai:Int):A:=
 (lw Ai a0
 (gi Ai a1
 (cn (!(((a0.getD (Int.toNat Ai) default).Name == (a1.getD (Int.toNat Ai) default).Name) && (((a0.getD (Int.toNat Ai) default).Type_ == (a1.getD (Int.toNat Ai) default).Type_) && (((a0.getD (Int.toNat Ai) default).N == (a1.getD (Int.toNat Ai) default).N) && true))))
 (lf (0,false,Ai))
 (rec Ak (B6 (Ai+1)))))
 (lf (1,Ak,Ai)))
def Hb(L:Nat)(a0:List Ag)(a1:List Ag):Nat→Bool→Int→Option Ln
 |0,_,_=>none
 |n+1,Ak,Ai=>Qy L a0 a1 (Hb L a0 a1 n) Ak Ai
theorem B6f(a0:List Ag)(a1:List Ag):LP (EV (O33 L) L 9 c33.w.l.u.l.l) [0,1,4,5] [] (Bse a0 a1) [.ret,.exit 0] (fun n v=>Hb L a0 a1 n v.1 v.2) K:=lE (fun _=>rfl) fun n v ih=>eE (Qy L a0 a1 (fun Ak Ai=>re (ih (Ak,Ai))) v.1 v.2)
def Mq [An A Bool](L:Nat)(o1:Nat×U4):A:=
 (sl o1.1 [(lf o1.2.1),
 (lf true)])
def Bpz:Ax:=(Av 0 (Bb (EV (O33 L) L 9 c33.w.r) (Cm Tryz.prog (RS Tryz.f33) kk)))
theorem Cgg(a0:List Ag)(a1:List Ag)(o1:Nat×U4):kX [.ret,.exit 0] (Bse a0 a1) (Bpz L kk) o1=ob (Mq L o1) (kQ B kk):=eE (Mq L o1)
def Ra [An A Bool](L:Nat)(a0:List Ag)(a1:List Ag)(nx1:A):A:=
 (cn ((a0.length:Int) != (a1.length:Int))
 (lf false)
 nx1)
def Ais [An A Bool](a0:List Ag)(a1:List Ag):A:=Ra L a0 a1 (bd (Hb L a0 a1 L false 0) fun o1=>Mq L o1)
def Rc(a0:List Ag)(a1:List Ag):Option Bool:=Ais L a0 a1
def X33:Ew:=E2 B 33 B45 B45 (Rc L) fun a0 a1 r h=>hF Tryz.func33 (C:=O33 L) (oS _) L (fun kk=>eE (Ra L a0 a1 (ho (B6f L (Bpz L kk) a0 a1 L (false,0)) fun o1=>Cgg L kk a0 a1 o1))) h
def c52:=CC Tryz.f52
def O52(L:Nat):Ba:=oL []
def Bsq(a0:List ByteArray)(a1:List ByteArray)(v:U4):St:=⟨[(0,lv (.t9 a0)),(1,lv (.t9 a1)),(4,B v.1),(5,I v.2)],[],0⟩
def Sn [An A Ln](L:Nat)(a0:List ByteArray)(a1:List ByteArray)(rec:Bool→Int→A)(Ak:Bool)(Ai:Int):A:=
 (lw Ai a0
 (gi Ai a1
 (cn (!((a0.getD (Int.toNat Ai) default).toList == (a1.getD (Int.toNat Ai) default).toList))
 (lf (0,false,Ai))
 (rec Ak (B6 (Ai+1)))))
 (lf (1,Ak,Ai)))
def Ib(L:Nat)(a0:List ByteArray)(a1:List ByteArray):Nat→Bool→Int→Option Ln
 |0,_,_=>none
 |n+1,Ak,Ai=>Sn L a0 a1 (Ib L a0 a1 n) Ak Ai
theorem B6s(a0:List ByteArray)(a1:List ByteArray):LP (EV (O52 L) L 9 c52.w.l.u.l.l) [0,1,4,5] [] (Bsq a0 a1) [.ret,.exit 0] (fun n v=>Ib L a0 a1 n v.1 v.2) K:=lE (fun _=>rfl) fun n v ih=>eE (Sn L a0 a1 (fun Ak Ai=>re (ih (Ak,Ai))) v.1 v.2)
def N6 [An A Bool](L:Nat)(o1:Nat×U4):A:=
 (sl o1.1 [(lf o1.2.1),
 (lf true)])
def Bqe:Ax:=(Av 0 (Bb (EV (O52 L) L 9 c52.w.r) (Cm Tryz.prog (RS Tryz.f52) kk)))
theorem Cgv(a0:List ByteArray)(a1:List ByteArray)(o1:Nat×U4):kX [.ret,.exit 0] (Bsq a0 a1) (Bqe L kk) o1=ob (N6 L o1) (kQ B kk):=eE (N6 L o1)
def Sx [An A Bool](L:Nat)(a0:List ByteArray)(a1:List ByteArray)(nx1:A):A:=
 (cn ((a0.length:Int) != (a1.length:Int))
 (lf false)
 nx1)
def Alh [An A Bool](a0:List ByteArray)(a1:List ByteArray):A:=Sx L a0 a1 (bd (Ib L a0 a1 L false 0) fun o1=>N6 L o1)
def Js(a0:List ByteArray)(a1:List ByteArray):Option Bool:=Alh L a0 a1
def X52:Ew:=E2 B 52 cl9 cl9 (Js L) fun a0 a1 r h=>hF Tryz.func52 (C:=O52 L) (oS _) L (fun kk=>eE (Sx L a0 a1 (ho (B6s L (Bqe L kk) a0 a1 L (false,0)) fun o1=>Cgv L kk a0 a1 o1))) h
def c53:=CC Tryz.f53
def O53:Ba:=oL [X89 L]
def Bsr(a0:Ah)(a1:Ah)(v:U4):St:=⟨[(0,.any),(1,.any),(2,.loc 2 0),(3,.loc 3 0),(4,B v.1),(5,I v.2)],[(2,(Br a0)),(3,(Br a1))],0⟩
def Oh [An A Ln](L:Nat)(a0:Ah)(a1:Ah)(rec:Bool→Int→A)(Al:Bool)(Aj:Int):A:=
 (lw Aj a0.Shift
 (gi Aj a1.Shift
 (cn (!(((a0.Shift.getD (Int.toNat Aj) default).At == (a1.Shift.getD (Int.toNat Aj) default).At) && (((a0.Shift.getD (Int.toNat Aj) default).Units == (a1.Shift.getD (Int.toNat Aj) default).Units) && true)))
 (lf (0,false,Aj))
 (rec Al (B6 (Aj+1)))))
 (lf (1,Al,Aj)))
def F8(L:Nat)(a0:Ah)(a1:Ah):Nat→Bool→Int→Option Ln
 |0,_,_=>none
 |n+1,Al,Aj=>Oh L a0 a1 (F8 L a0 a1 n) Al Aj
theorem B6t(a0:Ah)(a1:Ah):LP (EV (O53 L) L 9 c53.w.l.u.l.l) [0,1,2,3,4,5] [2,3] (Bsr a0 a1) [.ret,.exit 0] (fun n v=>F8 L a0 a1 n v.1 v.2) K:=lE (fun _=>rfl) fun n v ih=>eE (Oh L a0 a1 (fun Al Aj=>re (ih (Al,Aj))) v.1 v.2)
def Kd [An A Bool](a0:Ah)(a1:Ah)(o5:Nat×U4):A:=
 (sl o5.1 [(lf o5.2.1),
 (bd (Qg L a0.Fault.Up a1.Fault.Up) fun r6=>
 (jb (.cn r6
 (.bd (Qg L a0.Fault.Down a1.Fault.Down) fun r8=>
 (.lf r8))
 (.lf false)) (fun b7=>
 (lf b7))))])
def Bqf:Ax:=(Av 0 (Bb (EV (O53 L) L 9 c53.w.r) (Cm Tryz.prog (RS Tryz.f53) kk)))
theorem Cgw(a0:Ah)(a1:Ah)(o5:Nat×U4):kX [.ret,.exit 0] (Bsr a0 a1) (Bqf L kk) o5=ob (Kd L a0 a1 o5) (kQ B kk):=eE (Kd L a0 a1 o5)
def Ol [An A Bool](L:Nat)(a0:Ah)(a1:Ah)(nx1:A):A:=
 (jp (.cn (!(a0.Name.toList == a1.Name.toList))
 (.lf true)
 (.lf (a0.Units != a1.Units))) (fun b1=>
 (jp (.cn b1
 (.lf true)
 (.lf ((a0.Shift.length:Int) != (a1.Shift.length:Int)))) (fun b2=>
 (jp (.cn b2
 (.lf true)
 (.lf (a0.Cycle != a1.Cycle))) (fun b3=>
 (jp (.cn b3
 (.lf true)
 (.lf (!(a0.Fault.Stream.toList == a1.Fault.Stream.toList)))) (fun b4=>
 (cn b4
 (lf false)
 nx1)))))))))
def Aek [An A Bool](a0:Ah)(a1:Ah):A:=Ol L a0 a1 (bd (F8 L a0 a1 L false 0) fun o5=>Kd L a0 a1 o5)
def Kg(a0:Ah)(a1:Ah):Option Bool:=Aek L a0 a1
def X53:Ew:=E2 B 53 Mn Mn (Kg L) fun a0 a1 r h=>hF Tryz.func53 (C:=O53 L) (oS _) L (fun kk=>eE (Ol L a0 a1 (ho (B6t L (Bqf L kk) a0 a1 L (false,0)) fun o5=>Cgw L kk a0 a1 o5))) h
def c54:=CC Tryz.f54
def O54(L:Nat):Ba:=oL []
def Bss(a0:List Ao)(a1:List Ao)(v:U4):St:=⟨[(0,lv (.t127 a0)),(1,lv (.t127 a1)),(4,B v.1),(5,I v.2)],[],0⟩
def Qx [An A Ln](L:Nat)(a0:List Ao)(a1:List Ao)(rec:Bool→Int→A)(Ak:Bool)(Ai:Int):A:=
 (lw Ai a0
 (gi Ai a1
 (cn (!(((a0.getD (Int.toNat Ai) default).Name == (a1.getD (Int.toNat Ai) default).Name) && (((a0.getD (Int.toNat Ai) default).Type_ == (a1.getD (Int.toNat Ai) default).Type_) && true)))
 (lf (0,false,Ai))
 (rec Ak (B6 (Ai+1)))))
 (lf (1,Ak,Ai)))
def Ha(L:Nat)(a0:List Ao)(a1:List Ao):Nat→Bool→Int→Option Ln
 |0,_,_=>none
 |n+1,Ak,Ai=>Qx L a0 a1 (Ha L a0 a1 n) Ak Ai
theorem B6u(a0:List Ao)(a1:List Ao):LP (EV (O54 L) L 9 c54.w.l.u.l.l) [0,1,4,5] [] (Bss a0 a1) [.ret,.exit 0] (fun n v=>Ha L a0 a1 n v.1 v.2) K:=lE (fun _=>rfl) fun n v ih=>eE (Qx L a0 a1 (fun Ak Ai=>re (ih (Ak,Ai))) v.1 v.2)
def Mp [An A Bool](L:Nat)(o1:Nat×U4):A:=
 (sl o1.1 [(lf o1.2.1),
 (lf true)])
def Bqg:Ax:=(Av 0 (Bb (EV (O54 L) L 9 c54.w.r) (Cm Tryz.prog (RS Tryz.f54) kk)))
theorem Cgx(a0:List Ao)(a1:List Ao)(o1:Nat×U4):kX [.ret,.exit 0] (Bss a0 a1) (Bqg L kk) o1=ob (Mp L o1) (kQ B kk):=eE (Mp L o1)
def Q0 [An A Bool](L:Nat)(a0:List Ao)(a1:List Ao)(nx1:A):A:=
 (cn ((a0.length:Int) != (a1.length:Int))
 (lf false)
 nx1)
def Air [An A Bool](a0:List Ao)(a1:List Ao):A:=Q0 L a0 a1 (bd (Ha L a0 a1 L false 0) fun o1=>Mp L o1)
def Kf(a0:List Ao)(a1:List Ao):Option Bool:=Air L a0 a1
def X54:Ew:=E2 B 54 A2e A2e (Kf L) fun a0 a1 r h=>hF Tryz.func54 (C:=O54 L) (oS _) L (fun kk=>eE (Q0 L a0 a1 (ho (B6u L (Bqg L kk) a0 a1 L (false,0)) fun o1=>Cgx L kk a0 a1 o1))) h
def Blh(F:Ab→Ab→Option Bool):Prop:=∀y0 y1 r,F y0 y1=some r→Ho Tryz.prog 23 [Bh.en y0,Bh.en y1] B r
def Bli(F:(List Ab)→(List Ab)→Option Bool):Prop:=∀y0 y1 r,F y0 y1=some r→Ho Tryz.prog 44 [A2f.en y0,A2f.en y1] B r
def O23(Em:Ab→Ab→Option Bool)(Eu:(List Ab)→(List Ab)→Option Bool)(L:Nat):Ba:=(orc 23 (A2 B Bh Bh Em) (orc 44 (A2 B A2f A2f Eu) (oL [])))
theorem s23(Em:Ab→Ab→Option Bool)(Eu:(List Ab)→(List Ab)→Option Bool)(Bdm:Blh Em)(Bdn:Bli Eu)(L:Nat):Dm Tryz.prog (O23 Em Eu L):=(Dt (a2 _ Bdm) (Dt (a2 _ Bdn) (oS [])))
def Ars [An A Bool](Em:Ab→Ab→Option Bool)(Eu:(List Ab)→(List Ab)→Option Bool)(L:Nat)(a0:Ab)(a1:Ab):A:=
 (jp (.cn (a0.Op != a1.Op)
 (.lf true)
 (.lf (!(a0.Name.toList == a1.Name.toList)))) (fun b1=>
 (jp (.cn b1
 (.lf true)
 (.lf (a0.N != a1.N))) (fun b2=>
 (cn b2
 (lf false)
 (bd (Eu a0.Kids a1.Kids) fun r3=>
 (lf r3)))))))
def Aj6(Em:Ab→Ab→Option Bool)(Eu:(List Ab)→(List Ab)→Option Bool)(L:Nat)(a0:Ab)(a1:Ab):Option Bool:=Ars Em Eu L a0 a1
theorem b23(Em:Ab→Ab→Option Bool)(Eu:(List Ab)→(List Ab)→Option Bool)(Bdm:Blh Em)(Bdn:Bli Eu)(L:Nat):Blh (Aj6 Em Eu L):=fun a0 a1 r h=>hF Tryz.func23 (s23 Em Eu Bdm Bdn L) L (fun kk=>eE (Ars Em Eu L a0 a1)) h
def c44:=CC Tryz.f44
def O44(Em:Ab→Ab→Option Bool)(Eu:(List Ab)→(List Ab)→Option Bool)(L:Nat):Ba:=(orc 23 (A2 B Bh Bh Em) (orc 44 (A2 B A2f A2f Eu) (oL [])))
theorem s44(Em:Ab→Ab→Option Bool)(Eu:(List Ab)→(List Ab)→Option Bool)(Bdm:Blh Em)(Bdn:Bli Eu)(L:Nat):Dm Tryz.prog (O44 Em Eu L):=(Dt (a2 _ Bdm) (Dt (a2 _ Bdn) (oS [])))
def Bsm(a0:List Ab)(a1:List Ab)(v:U4):St:=⟨[(0,lv (.t63 a0)),(1,lv (.t63 a1)),(4,B v.1),(5,I v.2)],[],0⟩
def V1 [An A Ln](Em:Ab→Ab→Option Bool)(Eu:(List Ab)→(List Ab)→Option Bool)(L:Nat)(a0:List Ab)(a1:List Ab)(rec:Bool→Int→A)(Ak:Bool)(Ai:Int):A:=
 (lw Ai a0
 (gi Ai a1
 (bd (Em (Ab.cp (a0.getD (Int.toNat Ai) default)) (Ab.cp (a1.getD (Int.toNat Ai) default))) fun r1=>
 (cn (!r1)
 (lf (0,false,Ai))
 (rec Ak (B6 (Ai+1))))))
 (lf (1,Ak,Ai)))
def Kk(Em:Ab→Ab→Option Bool)(Eu:(List Ab)→(List Ab)→Option Bool)(L:Nat)(a0:List Ab)(a1:List Ab):Nat→Bool→Int→Option Ln
 |0,_,_=>none
 |n+1,Ak,Ai=>V1 Em Eu L a0 a1 (Kk Em Eu L a0 a1 n) Ak Ai
theorem B6p(Em:Ab→Ab→Option Bool)(Eu:(List Ab)→(List Ab)→Option Bool)(L:Nat)(K:Ax)(a0:List Ab)(a1:List Ab):LP (EV (O44 Em Eu L) L 9 c44.w.l.u.l.l) [0,1,4,5] [] (Bsm a0 a1) [.ret,.exit 0] (fun n v=>Kk Em Eu L a0 a1 n v.1 v.2) K:=lE (fun _=>rfl) fun n v ih=>eE (V1 Em Eu L a0 a1 (fun Ak Ai=>re (ih (Ak,Ai))) v.1 v.2)
def We [An A Bool](Em:Ab→Ab→Option Bool)(Eu:(List Ab)→(List Ab)→Option Bool)(L:Nat)(o2:Nat×U4):A:=
 (sl o2.1 [(lf o2.2.1),
 (lf true)])
def Bqb(Em:Ab→Ab→Option Bool)(Eu:(List Ab)→(List Ab)→Option Bool)(L:Nat)(kk:Cz):Ax:=(Av 0 (Bb (EV (O44 Em Eu L) L 9 c44.w.r) (Cm Tryz.prog (RS Tryz.f44) kk)))
theorem Cgs(Em:Ab→Ab→Option Bool)(Eu:(List Ab)→(List Ab)→Option Bool)(L:Nat)(kk:Cz)(a0:List Ab)(a1:List Ab)(o2:Nat×U4):kX [.ret,.exit 0] (Bsm a0 a1) (Bqb Em Eu L kk) o2=ob (We Em Eu L o2) (kQ B kk):=eE (We Em Eu L o2)
def Aa1 [An A Bool](Em:Ab→Ab→Option Bool)(Eu:(List Ab)→(List Ab)→Option Bool)(L:Nat)(a0:List Ab)(a1:List Ab)(nx1:A):A:=
 (cn ((a0.length:Int) != (a1.length:Int))
 (lf false)
 nx1)
def Ap2 [An A Bool](Em:Ab→Ab→Option Bool)(Eu:(List Ab)→(List Ab)→Option Bool)(L:Nat)(a0:List Ab)(a1:List Ab):A:=Aa1 Em Eu L a0 a1 (bd (Kk Em Eu L a0 a1 L false 0) fun o2=>We Em Eu L o2)
def Aba(Em:Ab→Ab→Option Bool)(Eu:(List Ab)→(List Ab)→Option Bool)(L:Nat)(a0:List Ab)(a1:List Ab):Option Bool:=Ap2 Em Eu L a0 a1
theorem b44(Em:Ab→Ab→Option Bool)(Eu:(List Ab)→(List Ab)→Option Bool)(Bdm:Blh Em)(Bdn:Bli Eu)(L:Nat):Bli (Aba Em Eu L):=fun a0 a1 r h=>hF Tryz.func44 (s44 Em Eu Bdm Bdn L) L (fun kk=>eE (Aa1 Em Eu L a0 a1 (ho (B6p Em Eu L (Bqb Em Eu L kk) a0 a1 L (false,0)) fun o2=>Cgs Em Eu L kk a0 a1 o2))) h
mutual
def D4:Nat→Ab→Ab→Option Bool
 |0,_,_=>none
 |L+1,a0,a1=>Aj6 (D4 L) (Hn L) L a0 a1
def Hn:Nat→(List Ab)→(List Ab)→Option Bool
 |0,_,_=>none
 |L+1,a0,a1=>Aba (D4 L) (Hn L) L a0 a1
end
theorem Bo4(L:Nat):Blh (D4 L)∧Bli (Hn L):=by
 induction L with
 |zero=>exact ⟨fun _ _ _ h=>(by cases h),fun _ _ _ h=>(by cases h)⟩
 |succ L ih=>
  obtain ⟨i23,i44⟩:=ih
  exact ⟨b23 (D4 L) (Hn L) i23 i44 L,b44 (D4 L) (Hn L) i23 i44 L⟩
def X23(L:Nat):Ew:=E2 B 23 Bh Bh (D4 L) ((Bo4 L).1)
def X44(L:Nat):Ew:=E2 B 44 A2f A2f (Hn L) ((Bo4 L).2)
def c90:=CC Tryz.f90
def O90:Ba:=oL [X23 L]
def Bs8(a0:List Ab)(a1:List Ab)(v:U4):St:=⟨[(0,lv (.t63 a0)),(1,lv (.t63 a1)),(4,B v.1),(5,I v.2)],[],0⟩
def Sm [An A Ln](a0:List Ab)(a1:List Ab)(rec:Bool→Int→A)(Ak:Bool)(Ai:Int):A:=
 (lw Ai a0
 (gi Ai a1
 (bd (D4 L (Ab.cp (a0.getD (Int.toNat Ai) default)) (Ab.cp (a1.getD (Int.toNat Ai) default))) fun r1=>
 (cn (!r1)
 (lf (0,false,Ai))
 (rec Ak (B6 (Ai+1))))))
 (lf (1,Ak,Ai)))
def Ia(L:Nat)(a0:List Ab)(a1:List Ab):Nat→Bool→Int→Option Ln
 |0,_,_=>none
 |n+1,Ak,Ai=>Sm L a0 a1 (Ia L a0 a1 n) Ak Ai
theorem B7i(a0:List Ab)(a1:List Ab):LP (EV (O90 L) L 9 c90.w.l.u.l.l) [0,1,4,5] [] (Bs8 a0 a1) [.ret,.exit 0] (fun n v=>Ia L a0 a1 n v.1 v.2) K:=lE (fun _=>rfl) fun n v ih=>eE (Sm L a0 a1 (fun Ak Ai=>re (ih (Ak,Ai))) v.1 v.2)
def N5 [An A Bool](L:Nat)(o2:Nat×U4):A:=
 (sl o2.1 [(lf o2.2.1),
 (lf true)])
def Bq4:Ax:=(Av 0 (Bb (EV (O90 L) L 9 c90.w.r) (Cm Tryz.prog (RS Tryz.f90) kk)))
theorem Chl(a0:List Ab)(a1:List Ab)(o2:Nat×U4):kX [.ret,.exit 0] (Bs8 a0 a1) (Bq4 L kk) o2=ob (N5 L o2) (kQ B kk):=eE (N5 L o2)
def Sw [An A Bool](L:Nat)(a0:List Ab)(a1:List Ab)(nx1:A):A:=
 (cn ((a0.length:Int) != (a1.length:Int))
 (lf false)
 nx1)
def Alg [An A Bool](a0:List Ab)(a1:List Ab):A:=Sw L a0 a1 (bd (Ia L a0 a1 L false 0) fun o2=>N5 L o2)
def S1(a0:List Ab)(a1:List Ab):Option Bool:=Alg L a0 a1
def X90:Ew:=E2 B 90 A2f A2f (S1 L) fun a0 a1 r h=>hF Tryz.func90 (C:=O90 L) (oS _) L (fun kk=>eE (Sw L a0 a1 (ho (B7i L (Bq4 L kk) a0 a1 L (false,0)) fun o2=>Chl L kk a0 a1 o2))) h
def Bug(F:(List Ad)→(List Ad)→Option Bool):Prop:=∀y0 y1 r,F y0 y1=some r→Ho Tryz.prog 55 [Tw.en y0,Tw.en y1] B r
def c55:=CC Tryz.f55
def O55(Gv:(List Ad)→(List Ad)→Option Bool)(L:Nat):Ba:=(orc 55 (A2 B Tw Tw Gv) (oL [X23 L,X89 L,X90 L]))
theorem s55(Gv:(List Ad)→(List Ad)→Option Bool)(B5l:Bug Gv)(L:Nat):Dm Tryz.prog (O55 Gv L):=(Dt (a2 _ B5l) (oS [X23 L,X89 L,X90 L]))
def Bst(a0:List Ad)(a1:List Ad)(v:U4):St:=⟨[(0,lv (.t96 a0)),(1,lv (.t96 a1)),(4,B v.1),(5,I v.2)],[],0⟩
def Abk [An A Ln](Gv:(List Ad)→(List Ad)→Option Bool)(L:Nat)(a0:List Ad)(a1:List Ad)(rec:Bool→Int→A)(Ak:Bool)(Ai:Int):A:=
 (lw Ai a0
 (gi Ai a1
 (jp (.cn ((a0.getD (Int.toNat Ai) default).Op != (a1.getD (Int.toNat Ai) default).Op)
 (.lf true)
 (.lf (!(((a0.getD (Int.toNat Ai) default).Name).toList == ((a1.getD (Int.toNat Ai) default).Name).toList)))) (fun b1=>
 (jp (.cn b1
 (.lf true)
 (.lf (!(((a0.getD (Int.toNat Ai) default).Of).toList == ((a1.getD (Int.toNat Ai) default).Of).toList)))) (fun b2=>
 (jp (.cn b2
 (.lf true)
 (.lf (!((a0.getD (Int.toNat Ai) default).Flag == (a1.getD (Int.toNat Ai) default).Flag)))) (fun b3=>
 (jb (.cn b3
 (.lf true)
 (.bd (D4 L (Ab.cp ((a0.getD (Int.toNat Ai) default).E)) (Ab.cp ((a1.getD (Int.toNat Ai) default).E))) fun r5=>
 (.lf (!r5)))) (fun b4=>
 (jb (.cn b4
 (.lf true)
 (.bd (D4 L (Ab.cp ((a0.getD (Int.toNat Ai) default).F)) (Ab.cp ((a1.getD (Int.toNat Ai) default).F))) fun r7=>
 (.lf (!r7)))) (fun b6=>
 (cn b6
 (lf (0,false,Ai))
 (bd (S1 L ((a0.getD (Int.toNat Ai) default).Args) ((a1.getD (Int.toNat Ai) default).Args)) fun r8=>
 (jb (.cn (!r8)
 (.lf true)
 (.bd (Qg L ((a0.getD (Int.toNat Ai) default).Dist) ((a1.getD (Int.toNat Ai) default).Dist)) fun r10=>
 (.lf (!r10)))) (fun b9=>
 (jb (.cn b9
 (.lf true)
 (.bd (Gv ((a0.getD (Int.toNat Ai) default).Body) ((a1.getD (Int.toNat Ai) default).Body)) fun r12=>
 (.lf (!r12)))) (fun b11=>
 (jb (.cn b11
 (.lf true)
 (.bd (Gv ((a0.getD (Int.toNat Ai) default).Else) ((a1.getD (Int.toNat Ai) default).Else)) fun r14=>
 (.lf (!r14)))) (fun b13=>
 (cn b13
 (lf (0,false,Ai))
 (rec Ak (B6 (Ai+1)))))))))))))))))))))))
 (lf (1,Ak,Ai)))
def Qi(Gv:(List Ad)→(List Ad)→Option Bool)(L:Nat)(a0:List Ad)(a1:List Ad):Nat→Bool→Int→Option Ln
 |0,_,_=>none
 |n+1,Ak,Ai=>Abk Gv L a0 a1 (Qi Gv L a0 a1 n) Ak Ai
theorem B6v(Gv:(List Ad)→(List Ad)→Option Bool)(L:Nat)(K:Ax)(a0:List Ad)(a1:List Ad):LP (EV (O55 Gv L) L 9 c55.w.l.u.l.l) [0,1,4,5] [] (Bst a0 a1) [.ret,.exit 0] (fun n v=>Qi Gv L a0 a1 n v.1 v.2) K:=lE (fun _=>rfl) fun n v ih=>eE (Abk Gv L a0 a1 (fun Ak Ai=>re (ih (Ak,Ai))) v.1 v.2)
def Xy [An A Bool](Gv:(List Ad)→(List Ad)→Option Bool)(L:Nat)(o15:Nat×U4):A:=
 (sl o15.1 [(lf o15.2.1),
 (lf true)])
def Bqh(Gv:(List Ad)→(List Ad)→Option Bool)(L:Nat)(kk:Cz):Ax:=(Av 0 (Bb (EV (O55 Gv L) L 9 c55.w.r) (Cm Tryz.prog (RS Tryz.f55) kk)))
theorem Cgy(Gv:(List Ad)→(List Ad)→Option Bool)(L:Nat)(kk:Cz)(a0:List Ad)(a1:List Ad)(o15:Nat×U4):kX [.ret,.exit 0] (Bst a0 a1) (Bqh Gv L kk) o15=ob (Xy Gv L o15) (kQ B kk):=eE (Xy Gv L o15)
def Abv [An A Bool](Gv:(List Ad)→(List Ad)→Option Bool)(L:Nat)(a0:List Ad)(a1:List Ad)(nx1:A):A:=
 (cn ((a0.length:Int) != (a1.length:Int))
 (lf false)
 nx1)
def A1v [An A Bool](Gv:(List Ad)→(List Ad)→Option Bool)(L:Nat)(a0:List Ad)(a1:List Ad):A:=Abv Gv L a0 a1 (bd (Qi Gv L a0 a1 L false 0) fun o15=>Xy Gv L o15)
def Arl(Gv:(List Ad)→(List Ad)→Option Bool)(L:Nat)(a0:List Ad)(a1:List Ad):Option Bool:=A1v Gv L a0 a1
theorem b55(Gv:(List Ad)→(List Ad)→Option Bool)(B5l:Bug Gv)(L:Nat):Bug (Arl Gv L):=fun a0 a1 r h=>hF Tryz.func55 (s55 Gv B5l L) L (fun kk=>eE (Abv Gv L a0 a1 (ho (B6v Gv L (Bqh Gv L kk) a0 a1 L (false,0)) fun o15=>Cgy Gv L kk a0 a1 o15))) h
def Lx:Nat→(List Ad)→(List Ad)→Option Bool
 |0,_,_=>none
 |L+1,a0,a1=>Arl (Lx L) L a0 a1
theorem B5g(L:Nat):Bug (Lx L):=by
 induction L with
 |zero=>exact fun _ _ _ h=>(by cases h)
 |succ L ih=>
  have i55:=ih
  exact b55 (Lx L) i55 L
def X55(L:Nat):Ew:=E2 B 55 Tw Tw (Lx L) (B5g L)
def c56:=CC Tryz.f56
def O56(L:Nat):Ba:=oL []
def Bsu(a0:List Int)(a1:List Int)(v:U4):St:=⟨[(0,lv (.t3 a0)),(1,lv (.t3 a1)),(4,B v.1),(5,I v.2)],[],0⟩
def Uc [An A Ln](L:Nat)(a0:List Int)(a1:List Int)(rec:Bool→Int→A)(Ak:Bool)(Ai:Int):A:=
 (lw Ai a0
 (gi Ai a1
 (cn ((a0.getD (Int.toNat Ai) default) != (a1.getD (Int.toNat Ai) default))
 (lf (0,false,Ai))
 (rec Ak (B6 (Ai+1)))))
 (lf (1,Ak,Ai)))
def Jb(L:Nat)(a0:List Int)(a1:List Int):Nat→Bool→Int→Option Ln
 |0,_,_=>none
 |n+1,Ak,Ai=>Uc L a0 a1 (Jb L a0 a1 n) Ak Ai
theorem B6w(a0:List Int)(a1:List Int):LP (EV (O56 L) L 9 c56.w.l.u.l.l) [0,1,4,5] [] (Bsu a0 a1) [.ret,.exit 0] (fun n v=>Jb L a0 a1 n v.1 v.2) K:=lE (fun _=>rfl) fun n v ih=>eE (Uc L a0 a1 (fun Ak Ai=>re (ih (Ak,Ai))) v.1 v.2)
def P6 [An A Bool](L:Nat)(o1:Nat×U4):A:=
 (sl o1.1 [(lf o1.2.1),
 (lf true)])
def Bqi:Ax:=(Av 0 (Bb (EV (O56 L) L 9 c56.w.r) (Cm Tryz.prog (RS Tryz.f56) kk)))
theorem Cgz(a0:List Int)(a1:List Int)(o1:Nat×U4):kX [.ret,.exit 0] (Bsu a0 a1) (Bqi L kk) o1=ob (P6 L o1) (kQ B kk):=eE (P6 L o1)
def Ux [An A Bool](L:Nat)(a0:List Int)(a1:List Int)(nx1:A):A:=
 (cn ((a0.length:Int) != (a1.length:Int))
 (lf false)
 nx1)
def Amr [An A Bool](a0:List Int)(a1:List Int):A:=Ux L a0 a1 (bd (Jb L a0 a1 L false 0) fun o1=>P6 L o1)
def Vb(a0:List Int)(a1:List Int):Option Bool:=Amr L a0 a1
def X56:Ew:=E2 B 56 cl3 cl3 (Vb L) fun a0 a1 r h=>hF Tryz.func56 (C:=O56 L) (oS _) L (fun kk=>eE (Ux L a0 a1 (ho (B6w L (Bqi L kk) a0 a1 L (false,0)) fun o1=>Cgz L kk a0 a1 o1))) h
def c57:=CC Tryz.f57
def O57(L:Nat):Ba:=oL []
def Bsv(a0:Az)(a1:Az)(v:U4):St:=⟨[(0,.any),(1,.any),(2,.loc 2 0),(3,.loc 3 0),(4,B v.1),(5,I v.2)],[(2,(Dh a0)),(3,(Dh a1))],0⟩
def V2 [An A Ln](L:Nat)(a0:Az)(a1:Az)(rec:Bool→Int→A)(Al:Bool)(Aj:Int):A:=
 (lw Aj a0.Terms
 (gi Aj a1.Terms
 (cn (!(((a0.Terms.getD (Int.toNat Aj) default).Coef == (a1.Terms.getD (Int.toNat Aj) default).Coef) && (((a0.Terms.getD (Int.toNat Aj) default).What == (a1.Terms.getD (Int.toNat Aj) default).What) && (((a0.Terms.getD (Int.toNat Aj) default).Name == (a1.Terms.getD (Int.toNat Aj) default).Name) && true))))
 (lf (0,false,Aj))
 (rec Al (B6 (Aj+1)))))
 (lf (1,Al,Aj)))
def Kl(L:Nat)(a0:Az)(a1:Az):Nat→Bool→Int→Option Ln
 |0,_,_=>none
 |n+1,Al,Aj=>V2 L a0 a1 (Kl L a0 a1 n) Al Aj
theorem B6x(a0:Az)(a1:Az):LP (EV (O57 L) L 9 c57.w.l.u.l.l) [0,1,2,3,4,5] [2,3] (Bsv a0 a1) [.ret,.exit 0] (fun n v=>Kl L a0 a1 n v.1 v.2) K:=lE (fun _=>rfl) fun n v ih=>eE (V2 L a0 a1 (fun Al Aj=>re (ih (Al,Aj))) v.1 v.2)
def Rr [An A Bool](L:Nat)(o3:Nat×U4):A:=
 (sl o3.1 [(lf o3.2.1),
 (lf true)])
def Bqj:Ax:=(Av 0 (Bb (EV (O57 L) L 9 c57.w.r) (Cm Tryz.prog (RS Tryz.f57) kk)))
theorem Cg0(a0:Az)(a1:Az)(o3:Nat×U4):kX [.ret,.exit 0] (Bsv a0 a1) (Bqj L kk) o3=ob (Rr L o3) (kQ B kk):=eE (Rr L o3)
def Wy [An A Bool](L:Nat)(a0:Az)(a1:Az)(nx1:A):A:=
 (jp (.cn (!(a0.Name.toList == a1.Name.toList))
 (.lf true)
 (.lf (a0.Total != a1.Total))) (fun b1=>
 (jp (.cn b1
 (.lf true)
 (.lf ((a0.Terms.length:Int) != (a1.Terms.length:Int)))) (fun b2=>
 (cn b2
 (lf false)
 nx1)))))
def Ap4 [An A Bool](a0:Az)(a1:Az):A:=Wy L a0 a1 (bd (Kl L a0 a1 L false 0) fun o3=>Rr L o3)
def Xq(a0:Az)(a1:Az):Option Bool:=Ap4 L a0 a1
def X57:Ew:=E2 B 57 Ary Ary (Xq L) fun a0 a1 r h=>hF Tryz.func57 (C:=O57 L) (oS _) L (fun kk=>eE (Wy L a0 a1 (ho (B6x L (Bqj L kk) a0 a1 L (false,0)) fun o3=>Cg0 L kk a0 a1 o3))) h
end
end Go.Proofs.YtofcpkmnhmnfcaaGreatR.Ev
