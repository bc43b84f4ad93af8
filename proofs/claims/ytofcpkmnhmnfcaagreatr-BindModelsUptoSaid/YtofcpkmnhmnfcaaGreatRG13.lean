import Derived.Test.YtofcpkmnhmnfcaaGreatRG10
import Derived.Test.YtofcpkmnhmnfcaaGreatRG12
namespace Go.Proofs.YtofcpkmnhmnfcaaGreatR.Ev
open Go An
set_option maxRecDepth 100000
set_option maxHeartbeats 4000000
set_option linter.unusedVariables false
set_option linter.unusedSimpArgs false
set_option linter.unnecessarySimpa false
noncomputable section
variable {A:Type} (L n:Nat) (kk:Cz) (K:Ba) (k:Bq)
def c30:=CC Tryz.f30
def O30:Bd:=oL [X47 L,X48 L,X49 L]
def Byh(Ak:Int)(a0:Ac)(v:Cs):St:=⟨[(0,.any),(1,.loc 1 0),(2,I 0),(3,I v.1),(4,I Ak),(5,I v.2)],[(1,(Au a0))],0⟩
def Ad7 [An A Cm](Ak:Int)(a0:Ac)(rec:Int→Int→A)(Bt:Int)(B1:Int):A:=
 (gi Ak a0.Sites
 (cn (decide (B1 < (((a0.Sites.getD (Int.toNat Ak) default).Routines).length:Int)))
 (cn (Bt == 0)
 (gi Ak a0.Sites
 (gi B1 ((a0.Sites.getD (Int.toNat Ak) default).Routines)
 (bd (Akx L (((a0.Sites.getD (Int.toNat Ak) default).Routines).getD (Int.toNat B1) default)) fun r2=>
 (gi Ak a0.Sites
 (gi B1 ((a0.Sites.getD (Int.toNat Ak) default).Routines)
 (bd (Ai3 L a0 Ak r2 ((((a0.Sites.getD (Int.toNat Ak) default).Routines).getD (Int.toNat B1) default).Body)) fun r3=>
 (rec r3 (B7 (B1+1)))))))))
 (rec Bt (B7 (B1+1))))
 (lf (0,Bt,B1))))
def Mj(L:Nat)(Ak:Int)(a0:Ac):Nat→Int→Int→Option Cm
 |0,_,_=>none
 |n+1,Bt,B1=>Ad7 L Ak a0 (Mj L Ak a0 n) Bt B1
theorem Ccp(Ak:Int)(a0:Ac):LP (EV (O30 L) L 9 c30.w.l.u.l.l.u.l.l.u.l.l) [0,1,2,3,4,5] [1] (Byh Ak a0) [.exit 2] (fun n v=>Mj L Ak a0 n v.1 v.2) K:=lE (fun _=>rfl) fun n v ih=>eE (Ad7 L Ak a0 (fun Bt B1=>re (ih (Bt,B1))) v.1 v.2)
def Bkw(a0:Ac)(v:Cs):St:=⟨[(0,.any),(1,.loc 1 0),(2,I 0),(3,I v.1),(4,I v.2)],[(1,(Au a0))],0⟩
def Zz [An A Cm](L:Nat)(Ak:Int)(rec:Int→Int→A)(o4:Nat×Cs):A:=
 (sl o4.1 [(rec o4.2.1 (B7 (Ak+1)))])
def Afj [An A Cm](L:Nat)(a0:Ac)(rec:Int→Int→A)(Ai:Int)(Ak:Int)(nx1:Int→Int→A):A:=
 (cn (decide (Ak < (a0.Sites.length:Int)))
 (nx1 Ak Ai)
 (lf (0,Ai,Ak)))
def Aml [An A Cm](a0:Ac)(rec:Int→Int→A)(Ai:Int)(Ak:Int):A:=Afj L a0 rec Ai Ak (fun Ak Ai=>bd (Mj L Ak a0 L Ai 0) fun o4=>Zz L Ak rec o4)
def Mi(L:Nat)(a0:Ac):Nat→Int→Int→Option Cm
 |0,_,_=>none
 |n+1,Ai,Ak=>Aml L a0 (Mi L a0 n) Ai Ak
def Btx(a0:Ac):Prop:=LI (EV (O30 L) L 9 c30.w.l.u.l.l) [0,1,2,3,4] [1] (Bkw a0) [.exit 0] (fun n v=>Mi L a0 n v.1 v.2) K n
def Bv8:Ba:=(Av 2 (Av 1 (Be (EV (O30 L) L 9 c30.w.l.u.l.l.u.r) (Hh (Jj (EV (O30 L) L 9 c30.w.l.u.l.l) [0,1,2,3,4] [1] n) [0,1,2,3,4] [1] K))))
theorem Cmo(Ak:Int)(a0:Ac)(ih:Btx L n K a0)(o4:Nat×Cs):kX [.exit 2] (Byh Ak a0) (Bv8 L n K) o4=ob (Zz L Ak (Mi L a0 n) o4) (kX [.exit 0] (Bkw a0) K):=eE (Zz L Ak (fun Ai Ak=>re (ih (Ai,Ak))) o4)
theorem Cco(a0:Ac):∀n,Btx L n K a0:=lE (fun _=>rfl) fun n v ih=>eE (Afj L a0 (fun Ai Ak=>re (ih (Ai,Ak))) v.1 v.2 (fun Ak Ai=>ho (Ccp L (Bv8 L n K) Ak a0 L (Ai,0)) fun o4=>Cmo L n K Ak a0 ih o4))
def Z0 [An A Int](L:Nat)(o5:Nat×Cs):A:=
 (sl o5.1 [(lf o5.2.1)])
def Bv9:Ba:=(Av 0 (Be (EV (O30 L) L 9 c30.w.r) (Cp Tryz.prog (RS Tryz.f30) kk)))
theorem Cmp(a0:Ac)(o5:Nat×Cs):kX [.exit 0] (Bkw a0) (Bv9 L kk) o5=ob (Z0 L o5) (kQ I kk):=eE (Z0 L o5)
def Afk [An A Int](a0:Ac)(nx2:Int→A):A:=
 (bd (Anb L a0) fun r1=>
 (nx2 r1))
def A2y [An A Int](a0:Ac):A:=Afk L a0 (fun r1=>bd (Mi L a0 L r1 0) fun o5=>Z0 L o5)
def Acn(a0:Ac):Option Int:=A2y L a0
def X30:F7:=E1 I 30 Cu (Acn L) fun a0 r h=>hF Tryz.func30 (C:=O30 L) (oS _) L (fun kk=>eE (Afk L a0 (fun r1=>ho (Cco L (Bv9 L kk) a0 L (r1,0)) fun o5=>Cmp L kk a0 o5))) h
def c31:=CC Tryz.f31
def O31(L:Nat):Bd:=oL []
def Byi(a1:ByteArray)(a0:Ac)(v:Cs):St:=⟨[(0,.any),(1,S a1),(2,.loc 2 0),(4,I v.1),(5,I v.2)],[(2,(Au a0))],0⟩
def Aeb [An A Cm](L:Nat)(a1:ByteArray)(a0:Ac)(rec:Int→Int→A)(Ai:Int)(Ak:Int):A:=
 (lw Ak a0.Params
 (cn (((a0.Params.getD (Int.toNat Ak) default).Name).toList == a1.toList)
 (lf (0,Ak,Ak))
 (rec Ai (B7 (Ak+1))))
 (lf (1,Ai,Ak)))
def Qq(L:Nat)(a1:ByteArray)(a0:Ac):Nat→Int→Int→Option Cm
 |0,_,_=>none
 |n+1,Ai,Ak=>Aeb L a1 a0 (Qq L a1 a0 n) Ai Ak
theorem Ccq(a1:ByteArray)(a0:Ac):LP (EV (O31 L) L 9 c31.u.l.u.l.l) [0,1,2,4,5] [2] (Byi a1 a0) [.ret,.exit 0] (fun n v=>Qq L a1 a0 n v.1 v.2) K:=lE (fun _=>rfl) fun n v ih=>eE (Aeb L a1 a0 (fun Ai Ak=>re (ih (Ai,Ak))) v.1 v.2)
def Z5 [An A Int](L:Nat)(o1:Nat×Cs):A:=
 (sl o1.1 [(lf o1.2.1),
 (lf (-1))])
def Bwa:Ba:=(Av 0 (Be (EV (O31 L) L 9 c31.u.r) (Cp Tryz.prog (RS Tryz.f31) kk)))
theorem Cmq(a1:ByteArray)(a0:Ac)(o1:Nat×Cs):kX [.ret,.exit 0] (Byi a1 a0) (Bwa L kk) o1=ob (Z5 L o1) (kQ I kk):=eE (Z5 L o1)
def A21 [An A Int](a0:Ac)(a1:ByteArray):A:=(bd (Qq L a1 a0 L 0 0) fun o1=>Z5 L o1)
def Acp(a0:Ac)(a1:ByteArray):Option Int:=A21 L a0 a1
def X31:F7:=E2 I 31 Cu cS (Acp L) fun a0 a1 r h=>hF Tryz.func31 (C:=O31 L) (oS _) L (fun kk=>eE ((ho (Ccq L (Bwa L kk) a1 a0 L (0,0)) fun o1=>Cmq L kk a1 a0 o1))) h
def c9:=CC Tryz.f9
def O9:Bd:=oL [X30 L,X31 L,X32 L]
def kq9:Tu8→Prop:=fun x=>kk ((fun(x:Tu8)=> .tup [.agg (Au x.1),I x.2]) x)
def B8r(a1:List Ae)(r2:Int)(a0:Ac)(v:Int×Int×ByteArray):St:=⟨[(0,.any),(1,lv (.t41 a1)),(2,.loc 2 0),(4,.loc 4 0),(5,I v.1),(6,.any),(7,.lst true (.t39 [])),(8,I 0),(9,I r2),(10,I v.2.1)],[(2,(Au a0)),(4,[S v.2.2,.lst true (.t39 []),.lst true (.t53 []),.lst true (.t81 [])])],0⟩
def Auh [An A (Nat×Int×Int×ByteArray)](L:Nat)(a1:List Ae)(r2:Int)(a0:Ac)(rec:Int→Int→ByteArray→A)(Bt:Int)(Aam:Int)(Jl:ByteArray):A:=
 (cn (decide (Aam < 0))
 (gi Aam a1
 (gi 0 a1
 (cn (((a1.getD (Int.toNat Aam) default).Name).toList == ((a1.getD 0 default).Name).toList)
 (lf (0,(4,Aam,(⟨#[]⟩:ByteArray))))
 (rec Bt (B7 (Aam+1)) Jl))))
 (lf (1,Bt,Aam,Jl)))
def Amo(L:Nat)(a1:List Ae)(r2:Int)(a0:Ac):Nat→Int→Int→ByteArray→Option (Nat×Int×Int×ByteArray)
 |0,_,_,_=>none
 |n+1,Bt,Aam,Jl=>Auh L a1 r2 a0 (Amo L a1 r2 a0 n) Bt Aam Jl
theorem Cl4(a1:List Ae)(r2:Int)(a0:Ac):LP (EV (O9 L) L 9 c9.x.u.l.u.l.l.u.l.l.w.l.u.l.l) [0,1,2,4,5,6,7,8,9,10] [2,4] (B8r a1 r2 a0) [.ret,.exit 2] (fun n v=>Amo L a1 r2 a0 n v.1 v.2.1 v.2.2) K:=lE (fun _=>rfl) fun n v ih=>eE (Auh L a1 r2 a0 (fun Bt Aam Jl=>re (ih (Bt,Aam,Jl))) v.1 v.2.1 v.2.2)
def Bzi(a1:List Ae)(a0:Ac)(v:Int×ByteArray):St:=⟨[(0,.any),(1,lv (.t41 a1)),(2,.loc 2 0),(4,.loc 4 0),(5,I v.1),(6,.any),(7,.lst true (.t39 [])),(8,I 0)],[(2,(Au a0)),(4,[S v.2,.lst true (.t39 []),.lst true (.t53 []),.lst true (.t81 [])])],0⟩
def Z3 [An A (Nat×Int×ByteArray)](r2:Int)(a1:List Ae)(rec:Int→ByteArray→A)(o3:Nat×Int×Int×ByteArray):A:=
 (sl o3.1 [(lf (0,o3.2.1,o3.2.2.2)),
 (gq (0≤r2)
 (gq (r2 < ((0:Nat):Int))
 (gi 0 a1
 (bd (Tf L ((([]:List Ag).getD (Int.toNat r2) default).Type_) ((a1.getD 0 default).N)) fun r4=>
 (cn (!r4)
 (lf (0,(2,(⟨#[]⟩:ByteArray))))
 (gi 0 a1
 (gq (0≤r2)
 (gq (r2 < ((0:Nat):Int))
 fl))))))))])
def Afl [An A (Nat×Int×ByteArray)](a1:List Ae)(a0:Ac)(rec:Int→ByteArray→A)(Ai:Int)(C2:ByteArray)(nx1:Int→Int→ByteArray→A):A:=
 (lw 0 a1
 (bd (Acp L a0 ((a1.getD 0 default).Name)) fun r2=>
 (cn (decide (r2 < 0))
 (lf (0,(5,(⟨#[]⟩:ByteArray))))
 (nx1 r2 Ai C2)))
 (lf (1,Ai,C2)))
def Amm [An A (Nat×Int×ByteArray)](a1:List Ae)(a0:Ac)(rec:Int→ByteArray→A)(Ai:Int)(C2:ByteArray):A:=Afl L a1 a0 rec Ai C2 (fun r2 Ai C2=>bd (Amo L a1 r2 a0 L Ai 0 C2) fun o3=>Z3 L r2 a1 rec o3)
def Qp(L:Nat)(a1:List Ae)(a0:Ac):Nat→Int→ByteArray→Option (Nat×Int×ByteArray)
 |0,_,_=>none
 |n+1,Ai,C2=>Amm L a1 a0 (Qp L a1 a0 n) Ai C2
def B7d(a1:List Ae)(a0:Ac):Prop:=LI (EV (O9 L) L 9 c9.x.u.l.u.l.l) [0,1,2,4,5,6,7,8] [2,4] (Bzi a1 a0) [.ret,.exit 0] (fun n v=>Qp L a1 a0 n v.1 v.2) K n
def B7x:Ba:=(Av 2 (Be (EV (O9 L) L 9 c9.x.u.l.u.l.l.u.l.l.w.r) (Av 1 (Be (EV (O9 L) L 9 c9.x.u.l.u.l.l.u.r) (Hh (Jj (EV (O9 L) L 9 c9.x.u.l.u.l.l) [0,1,2,4,5,6,7,8] [2,4] n) [0,1,2,4,5,6,7,8] [2,4] K)))))
theorem Cq2(a1:List Ae)(r2:Int)(a0:Ac)(ih:B7d L n K a1 a0)(o3:Nat×Int×Int×ByteArray):kX [.ret,.exit 2] (B8r a1 r2 a0) (B7x L n K) o3=ob (Z3 L r2 a1 (Qp L a1 a0 n) o3) (kX [.ret,.exit 0] (Bzi a1 a0) K):=eE (Z3 L r2 a1 (fun Ai C2=>re (ih (Ai,C2))) o3)
theorem Cl3(a1:List Ae)(a0:Ac):∀n,B7d L n K a1 a0:=lE (fun _=>rfl) fun n v ih=>eE (Afl L a1 a0 (fun Ai C2=>re (ih (Ai,C2))) v.1 v.2 (fun r2 Ai C2=>ho (Cl4 L (B7x L n K) a1 r2 a0 L (Ai,0,C2)) fun o3=>Cq2 L n K a1 r2 a0 ih o3))
def B8s(a1:List Ae)(a0:Ac)(C7:Int)(r5:Int)(Ew:List Ag)(v:Int×Int×ByteArray):St:=⟨[(0,.any),(1,lv (.t41 a1)),(2,.loc 2 0),(4,.loc 4 0),(5,I v.1),(6,.any),(7,.vw false 20 39 3 a0.Params.length),(8,I C7),(9,I r5),(10,I v.2.1)],[(2,(Au a0)),(4,[S v.2.2,.lst true (.t39 []),.lst true (.t53 []),.lst true (.t81 [])]),(20,[.arrO (.t39 Ew)])],0⟩
def Aea [An A (Nat×Int×Int×ByteArray)](L:Nat)(a1:List Ae)(a0:Ac)(C7:Int)(r5:Int)(Ew:List Ag)(rec:Int→Int→ByteArray→A)(Cq:Int)(E8:Int)(Df:ByteArray):A:=
 (cn (decide (E8 < C7))
 (gi E8 a1
 (gi C7 a1
 (cn (((a1.getD (Int.toNat E8) default).Name).toList == ((a1.getD (Int.toNat C7) default).Name).toList)
 (lf (0,(4,E8,(⟨#[]⟩:ByteArray))))
 (rec Cq (B7 (E8+1)) Df))))
 (lf (1,Cq,E8,Df)))
def Ml(L:Nat)(a1:List Ae)(a0:Ac)(C7:Int)(r5:Int)(Ew:List Ag):Nat→Int→Int→ByteArray→Option (Nat×Int×Int×ByteArray)
 |0,_,_,_=>none
 |n+1,Cq,E8,Df=>Aea L a1 a0 C7 r5 Ew (Ml L a1 a0 C7 r5 Ew n) Cq E8 Df
theorem Cl6(a1:List Ae)(a0:Ac)(C7:Int)(r5:Int)(Ew:List Ag):LP (EV (O9 L) L 9 c9.x.u.l.u.l.l.u.l.l.w.l.u.l.l) [0,1,2,4,5,6,7,8,9,10] [2,4,20] (B8s a1 a0 C7 r5 Ew) [.ret,.exit 2] (fun n v=>Ml L a1 a0 C7 r5 Ew n v.1 v.2.1 v.2.2) K:=lE (fun _=>rfl) fun n v ih=>eE (Aea L a1 a0 C7 r5 Ew (fun Cq E8 Df=>re (ih (Cq,E8,Df))) v.1 v.2.1 v.2.2)
def Bzj(a1:List Ae)(a0:Ac)(v:Avg):St:=⟨[(0,.any),(1,lv (.t41 a1)),(2,.loc 2 0),(4,.loc 4 0),(5,I v.1),(6,.any),(7,.vw false 20 39 3 a0.Params.length),(8,I v.2.1)],[(2,(Au a0)),(4,[S v.2.2.1,.lst true (.t39 []),.lst true (.t53 []),.lst true (.t81 [])]),(20,[.arrO (.t39 v.2.2.2)])],0⟩
def Z4 [An A (Nat×Avg)](C7:Int)(Ew:List Ag)(r5:Int)(a0:Ac)(a1:List Ae)(rec:Int→Int→ByteArray→List Ag→A)(o6:Nat×Int×Int×ByteArray):A:=
 (sl o6.1 [(lf (0,o6.2.1,C7,o6.2.2.2,Ew)),
 (gi r5 a0.Params
 (gi C7 a1
 (bd (Tf L ((Ew.getD (Int.toNat r5) default).Type_) ((a1.getD (Int.toNat C7) default).N)) fun r7=>
 (cn (!r7)
 (lf (0,(2,C7,(⟨#[]⟩:ByteArray),Ew)))
 (gi C7 a1
 (gi r5 a0.Params
 (rec o6.2.1 (B7 (C7+1)) o6.2.2.2 (Ew.set (Int.toNat r5) (⟨(Ew.getD (Int.toNat r5) default).Name,(Ew.getD (Int.toNat r5) default).Type_,(a1.getD (Int.toNat C7) default).N⟩:Ag)))))))))])
def Afm [An A (Nat×Avg)](a1:List Ae)(a0:Ac)(rec:Int→Int→ByteArray→List Ag→A)(Ef:Int)(C7:Int)(Ajr:ByteArray)(Ew:List Ag)(nx3:Int→Int→(List Ag)→Int→ByteArray→A):A:=
 (lw C7 a1
 (bd (Acp L a0 ((a1.getD (Int.toNat C7) default).Name)) fun r5=>
 (cn (decide (r5 < 0))
 (lf (0,(5,C7,(⟨#[]⟩:ByteArray),Ew)))
 (nx3 C7 r5 Ew Ef Ajr)))
 (lf (1,Ef,C7,Ajr,Ew)))
def Amn [An A (Nat×Avg)](a1:List Ae)(a0:Ac)(rec:Int→Int→ByteArray→List Ag→A)(Ef:Int)(C7:Int)(Ajr:ByteArray)(Ew:List Ag):A:=Afm L a1 a0 rec Ef C7 Ajr Ew (fun C7 r5 Ew Ef Ajr=>bd (Ml L a1 a0 C7 r5 Ew L Ef 0 Ajr) fun o6=>Z4 L C7 Ew r5 a0 a1 rec o6)
def Mk(L:Nat)(a1:List Ae)(a0:Ac):Nat→Int→Int→ByteArray→List Ag→Option (Nat×Avg)
 |0,_,_,_,_=>none
 |n+1,Ef,C7,Ajr,Ew=>Amn L a1 a0 (Mk L a1 a0 n) Ef C7 Ajr Ew
def B7e(a1:List Ae)(a0:Ac):Prop:=LI (EV (O9 L) L 9 c9.x.u.l.u.l.l) [0,1,2,4,5,6,7,8] [2,4,20] (Bzj a1 a0) [.ret,.exit 0] (fun n v=>Mk L a1 a0 n v.1 v.2.1 v.2.2.1 v.2.2.2) K n
def B7z:Ba:=(Av 2 (Be (EV (O9 L) L 9 c9.x.u.l.u.l.l.u.l.l.w.r) (Av 1 (Be (EV (O9 L) L 9 c9.x.u.l.u.l.l.u.r) (Hh (Jj (EV (O9 L) L 9 c9.x.u.l.u.l.l) [0,1,2,4,5,6,7,8] [2,4,20] n) [0,1,2,4,5,6,7,8] [2,4,20] K)))))
theorem Cq4(a1:List Ae)(a0:Ac)(C7:Int)(r5:Int)(Ew:List Ag)(ih:B7e L n K a1 a0)(o6:Nat×Int×Int×ByteArray):kX [.ret,.exit 2] (B8s a1 a0 C7 r5 Ew) (B7z L n K) o6=ob (Z4 L C7 Ew r5 a0 a1 (Mk L a1 a0 n) o6) (kX [.ret,.exit 0] (Bzj a1 a0) K):=eE (Z4 L C7 Ew r5 a0 a1 (fun Ef C7 Ajr Ew=>re (ih (Ef,C7,Ajr,Ew))) o6)
theorem Cl5(a1:List Ae)(a0:Ac):∀n,B7e L n K a1 a0:=lE (fun _=>rfl) fun n v ih=>eE (Afm L a1 a0 (fun Ef C7 Ajr Ew=>re (ih (Ef,C7,Ajr,Ew))) v.1 v.2.1 v.2.2.1 v.2.2.2 (fun C7 r5 Ew Ef Ajr=>ho (Cl6 L (B7z L n K) a1 a0 C7 r5 Ew L (Ef,0,Ajr)) fun o6=>Cq4 L n K a1 a0 C7 r5 Ew ih o6))
def Kf [An A Tu8](L:Nat)(a0:Ac)(o8:Nat×Int×ByteArray):A:=
 (sl o8.1 [(lf ((⟨o8.2.2,[],[],[]⟩:Ac),o8.2.1)),
 (lf ((⟨a0.Name,[],a0.Sites,a0.Links⟩:Ac),0))])
def B7y:Ba:=(Av 0 (Be (EV (O9 L) L 9 c9.x.u.r) (Cp Tryz.prog (RS Tryz.f9) kk)))
theorem Cq3(a1:List Ae)(a0:Ac)(o8:Nat×Int×ByteArray):kX [.ret,.exit 0] (Bzi a1 a0) (B7y L kk) o8=ob (Kf L a0 o8) (kq9 kk):=eE (Kf L a0 o8)
def Kg [An A Tu8](L:Nat)(a0:Ac)(o9:Nat×Avg):A:=
 (sl o9.1 [(lf ((⟨o9.2.2.2.1,[],[],[]⟩:Ac),o9.2.1)),
 (lf ((⟨a0.Name,o9.2.2.2.2,a0.Sites,a0.Links⟩:Ac),0))])
def B70:Ba:=(Av 0 (Be (EV (O9 L) L 9 c9.x.u.r) (Cp Tryz.prog (RS Tryz.f9) kk)))
theorem Cq5(a1:List Ae)(a0:Ac)(o9:Nat×Avg):kX [.ret,.exit 0] (Bzj a1 a0) (B70 L kk) o9=ob (Kg L a0 o9) (kq9 kk):=eE (Kg L a0 o9)
def Mz [An A Tu8](a0:Ac)(a1:List Ae)(nx2:A)(nx4:A):A:=
 (bd (Acn L a0) fun r1=>
 (cn (r1 != 0)
 (lf ((⟨(⟨#[]⟩:ByteArray),[],[],[]⟩:Ac),r1))
 (cn (Nat.beq a0.Params.length 0)
 nx2
 (gq (a0.Params.length*32≤140737488355328)
 (gq (a0.Params.length≤maxLen)
 nx4)))))
def Ani [An A Tu8](a0:Ac)(a1:List Ae):A:=Mz L a0 a1 (bd (Qp L a1 a0 L 0 (⟨#[]⟩:ByteArray)) fun o8=>Kf L a0 o8) (bd (Mk L a1 a0 L 0 0 (⟨#[]⟩:ByteArray) a0.Params) fun o9=>Kg L a0 o9)
def Aco(a0:Ac)(a1:List Ae):Option Tu8:=Ani L a0 a1
def X9:F7:=E2 (fun(x:Tu8)=> .tup [.agg (Au x.1),I x.2]) 9 Cu B1b (Aco L) fun a0 a1 r h=>hF Tryz.func9 (C:=O9 L) (oS _) L (fun kk=>eE (Mz L a0 a1 (ho (Cl3 L (B7y L kk) a1 a0 L (0,(⟨#[]⟩:ByteArray))) fun o8=>Cq3 L kk a1 a0 o8) (ho (Cl5 L (B70 L kk) a1 a0 L (0,0,(⟨#[]⟩:ByteArray),a0.Params)) fun o9=>Cq5 L kk a1 a0 o9))) h
def c33:=CC Tryz.f33
def O33(L:Nat):Bd:=oL []
def Byj(a0:List Ag)(a1:List Ag)(v:Yq):St:=⟨[(0,lv (.t39 a0)),(1,lv (.t39 a1)),(4,B v.1),(5,I v.2)],[],0⟩
def Uf [An A M3](L:Nat)(a0:List Ag)(a1:List Ag)(rec:Bool→Int→A)(Ak:Bool)(Aj:Int):A:=
 (lw Aj a0
 (gi Aj a1
 (cn (!(((a0.getD (Int.toNat Aj) default).Name == (a1.getD (Int.toNat Aj) default).Name) && (((a0.getD (Int.toNat Aj) default).Type_ == (a1.getD (Int.toNat Aj) default).Type_) && (((a0.getD (Int.toNat Aj) default).N == (a1.getD (Int.toNat Aj) default).N) && true))))
 (lf (0,false,Aj))
 (rec Ak (B7 (Aj+1)))))
 (lf (1,Ak,Aj)))
def H2(L:Nat)(a0:List Ag)(a1:List Ag):Nat→Bool→Int→Option M3
 |0,_,_=>none
 |n+1,Ak,Aj=>Uf L a0 a1 (H2 L a0 a1 n) Ak Aj
theorem Ccr(a0:List Ag)(a1:List Ag):LP (EV (O33 L) L 9 c33.w.l.u.l.l) [0,1,4,5] [] (Byj a0 a1) [.ret,.exit 0] (fun n v=>H2 L a0 a1 n v.1 v.2) K:=lE (fun _=>rfl) fun n v ih=>eE (Uf L a0 a1 (fun Ak Aj=>re (ih (Ak,Aj))) v.1 v.2)
def Oa [An A Bool](L:Nat)(o1:Nat×Yq):A:=
 (sl o1.1 [(lf o1.2.1),
 (lf true)])
def Bwb:Ba:=(Av 0 (Be (EV (O33 L) L 9 c33.w.r) (Cp Tryz.prog (RS Tryz.f33) kk)))
theorem Cmr(a0:List Ag)(a1:List Ag)(o1:Nat×Yq):kX [.ret,.exit 0] (Byj a0 a1) (Bwb L kk) o1=ob (Oa L o1) (kQ B kk):=eE (Oa L o1)
def Ui [An A Bool](L:Nat)(a0:List Ag)(a1:List Ag)(nx1:A):A:=
 (cn ((a0.length:Int) != (a1.length:Int))
 (lf false)
 nx1)
def Apd [An A Bool](a0:List Ag)(a1:List Ag):A:=Ui L a0 a1 (bd (H2 L a0 a1 L false 0) fun o1=>Oa L o1)
def Uk(a0:List Ag)(a1:List Ag):Option Bool:=Apd L a0 a1
def X33:F7:=E2 B 33 Ca9 Ca9 (Uk L) fun a0 a1 r h=>hF Tryz.func33 (C:=O33 L) (oS _) L (fun kk=>eE (Ui L a0 a1 (ho (Ccr L (Bwb L kk) a0 a1 L (false,0)) fun o1=>Cmr L kk a0 a1 o1))) h
def c52:=CC Tryz.f52
def O52(L:Nat):Bd:=oL []
def Byv(a0:List ByteArray)(a1:List ByteArray)(v:Yq):St:=⟨[(0,lv (.t9 a0)),(1,lv (.t9 a1)),(4,B v.1),(5,I v.2)],[],0⟩
def V0 [An A M3](L:Nat)(a0:List ByteArray)(a1:List ByteArray)(rec:Bool→Int→A)(Ak:Bool)(Aj:Int):A:=
 (lw Aj a0
 (gi Aj a1
 (cn (!((a0.getD (Int.toNat Aj) default).toList == (a1.getD (Int.toNat Aj) default).toList))
 (lf (0,false,Aj))
 (rec Ak (B7 (Aj+1)))))
 (lf (1,Ak,Aj)))
def I2(L:Nat)(a0:List ByteArray)(a1:List ByteArray):Nat→Bool→Int→Option M3
 |0,_,_=>none
 |n+1,Ak,Aj=>V0 L a0 a1 (I2 L a0 a1 n) Ak Aj
theorem Cc4(a0:List ByteArray)(a1:List ByteArray):LP (EV (O52 L) L 9 c52.w.l.u.l.l) [0,1,4,5] [] (Byv a0 a1) [.ret,.exit 0] (fun n v=>I2 L a0 a1 n v.1 v.2) K:=lE (fun _=>rfl) fun n v ih=>eE (V0 L a0 a1 (fun Ak Aj=>re (ih (Ak,Aj))) v.1 v.2)
def Q0 [An A Bool](L:Nat)(o1:Nat×Yq):A:=
 (sl o1.1 [(lf o1.2.1),
 (lf true)])
def Bwq:Ba:=(Av 0 (Be (EV (O52 L) L 9 c52.w.r) (Cp Tryz.prog (RS Tryz.f52) kk)))
theorem Cm6(a0:List ByteArray)(a1:List ByteArray)(o1:Nat×Yq):kX [.ret,.exit 0] (Byv a0 a1) (Bwq L kk) o1=ob (Q0 L o1) (kQ B kk):=eE (Q0 L o1)
def Wa [An A Bool](L:Nat)(a0:List ByteArray)(a1:List ByteArray)(nx1:A):A:=
 (cn ((a0.length:Int) != (a1.length:Int))
 (lf false)
 nx1)
def Ar9 [An A Bool](a0:List ByteArray)(a1:List ByteArray):A:=Wa L a0 a1 (bd (I2 L a0 a1 L false 0) fun o1=>Q0 L o1)
def Kk(a0:List ByteArray)(a1:List ByteArray):Option Bool:=Ar9 L a0 a1
def X52:F7:=E2 B 52 cl9 cl9 (Kk L) fun a0 a1 r h=>hF Tryz.func52 (C:=O52 L) (oS _) L (fun kk=>eE (Wa L a0 a1 (ho (Cc4 L (Bwq L kk) a0 a1 L (false,0)) fun o1=>Cm6 L kk a0 a1 o1))) h
def c53:=CC Tryz.f53
def O53:Bd:=oL [X89 L]
def Byw(a0:Ah)(a1:Ah)(v:Yq):St:=⟨[(0,.any),(1,.any),(2,.loc 2 0),(3,.loc 3 0),(4,B v.1),(5,I v.2)],[(2,(Bx a0)),(3,(Bx a1))],0⟩
def Rj [An A M3](L:Nat)(a0:Ah)(a1:Ah)(rec:Bool→Int→A)(Al:Bool)(Ai:Int):A:=
 (lw Ai a0.Shift
 (gi Ai a1.Shift
 (cn (!(((a0.Shift.getD (Int.toNat Ai) default).At == (a1.Shift.getD (Int.toNat Ai) default).At) && (((a0.Shift.getD (Int.toNat Ai) default).Units == (a1.Shift.getD (Int.toNat Ai) default).Units) && true)))
 (lf (0,false,Ai))
 (rec Al (B7 (Ai+1)))))
 (lf (1,Al,Ai)))
def Gt(L:Nat)(a0:Ah)(a1:Ah):Nat→Bool→Int→Option M3
 |0,_,_=>none
 |n+1,Al,Ai=>Rj L a0 a1 (Gt L a0 a1 n) Al Ai
theorem Cc5(a0:Ah)(a1:Ah):LP (EV (O53 L) L 9 c53.w.l.u.l.l) [0,1,2,3,4,5] [2,3] (Byw a0 a1) [.ret,.exit 0] (fun n v=>Gt L a0 a1 n v.1 v.2) K:=lE (fun _=>rfl) fun n v ih=>eE (Rj L a0 a1 (fun Al Ai=>re (ih (Al,Ai))) v.1 v.2)
def K3 [An A Bool](a0:Ah)(a1:Ah)(o5:Nat×Yq):A:=
 (sl o5.1 [(lf o5.2.1),
 (bd (Td L a0.Fault.Up a1.Fault.Up) fun r6=>
 (jb (.cn r6
 (.bd (Td L a0.Fault.Down a1.Fault.Down) fun r8=>
 (.lf r8))
 (.lf false)) (fun b7=>
 (lf b7))))])
def Bwr:Ba:=(Av 0 (Be (EV (O53 L) L 9 c53.w.r) (Cp Tryz.prog (RS Tryz.f53) kk)))
theorem Cm7(a0:Ah)(a1:Ah)(o5:Nat×Yq):kX [.ret,.exit 0] (Byw a0 a1) (Bwr L kk) o5=ob (K3 L a0 a1 o5) (kQ B kk):=eE (K3 L a0 a1 o5)
def Rn [An A Bool](L:Nat)(a0:Ah)(a1:Ah)(nx1:A):A:=
 (jp (.cn (!(a0.Name.toList == a1.Name.toList))
 (.lf true)
 (.lf (a0.Units != a1.Units))) (fun b1=>
 (jp (.cn b1
 (.lf true)
 (.lf ((a0.Shift.length:Int) != (a1.Shift.length:Int)))) (fun b2=>
 (jp (.cn b2
 (.lf true)
 (.lf (a0.Cycle != a1.Cycle))) (fun b3=>
 (jp (.cn b3
 (.lf true)
 (.lf (!(a0.Fault.Stream.toList == a1.Fault.Stream.toList)))) (fun b4=>
 (cn b4
 (lf false)
 nx1)))))))))
def Al2 [An A Bool](a0:Ah)(a1:Ah):A:=Rn L a0 a1 (bd (Gt L a0 a1 L false 0) fun o5=>K3 L a0 a1 o5)
def K7(a0:Ah)(a1:Ah):Option Bool:=Al2 L a0 a1
def X53:F7:=E2 B 53 N5 N5 (K7 L) fun a0 a1 r h=>hF Tryz.func53 (C:=O53 L) (oS _) L (fun kk=>eE (Rn L a0 a1 (ho (Cc5 L (Bwr L kk) a0 a1 L (false,0)) fun o5=>Cm7 L kk a0 a1 o5))) h
def c54:=CC Tryz.f54
def O54(L:Nat):Bd:=oL []
def Byx(a0:List Ap)(a1:List Ap)(v:Yq):St:=⟨[(0,lv (.t127 a0)),(1,lv (.t127 a1)),(4,B v.1),(5,I v.2)],[],0⟩
def Ue [An A M3](L:Nat)(a0:List Ap)(a1:List Ap)(rec:Bool→Int→A)(Ak:Bool)(Aj:Int):A:=
 (lw Aj a0
 (gi Aj a1
 (cn (!(((a0.getD (Int.toNat Aj) default).Name == (a1.getD (Int.toNat Aj) default).Name) && (((a0.getD (Int.toNat Aj) default).Type_ == (a1.getD (Int.toNat Aj) default).Type_) && true)))
 (lf (0,false,Aj))
 (rec Ak (B7 (Aj+1)))))
 (lf (1,Ak,Aj)))
def H1(L:Nat)(a0:List Ap)(a1:List Ap):Nat→Bool→Int→Option M3
 |0,_,_=>none
 |n+1,Ak,Aj=>Ue L a0 a1 (H1 L a0 a1 n) Ak Aj
theorem Cc6(a0:List Ap)(a1:List Ap):LP (EV (O54 L) L 9 c54.w.l.u.l.l) [0,1,4,5] [] (Byx a0 a1) [.ret,.exit 0] (fun n v=>H1 L a0 a1 n v.1 v.2) K:=lE (fun _=>rfl) fun n v ih=>eE (Ue L a0 a1 (fun Ak Aj=>re (ih (Ak,Aj))) v.1 v.2)
def N9 [An A Bool](L:Nat)(o1:Nat×Yq):A:=
 (sl o1.1 [(lf o1.2.1),
 (lf true)])
def Bws:Ba:=(Av 0 (Be (EV (O54 L) L 9 c54.w.r) (Cp Tryz.prog (RS Tryz.f54) kk)))
theorem Cm8(a0:List Ap)(a1:List Ap)(o1:Nat×Yq):kX [.ret,.exit 0] (Byx a0 a1) (Bws L kk) o1=ob (N9 L o1) (kQ B kk):=eE (N9 L o1)
def Uh [An A Bool](L:Nat)(a0:List Ap)(a1:List Ap)(nx1:A):A:=
 (cn ((a0.length:Int) != (a1.length:Int))
 (lf false)
 nx1)
def Apc [An A Bool](a0:List Ap)(a1:List Ap):A:=Uh L a0 a1 (bd (H1 L a0 a1 L false 0) fun o1=>N9 L o1)
def K6(a0:List Ap)(a1:List Ap):Option Bool:=Apc L a0 a1
def X54:F7:=E2 B 54 A7c A7c (K6 L) fun a0 a1 r h=>hF Tryz.func54 (C:=O54 L) (oS _) L (fun kk=>eE (Uh L a0 a1 (ho (Cc6 L (Bws L kk) a0 a1 L (false,0)) fun o1=>Cm8 L kk a0 a1 o1))) h
def Bry(F:Ab→Ab→Option Bool):Prop:=∀y0 y1 r,F y0 y1=some r→Ho Tryz.prog 23 [Bj.en y0,Bj.en y1] B r
def Brz(F:(List Ab)→(List Ab)→Option Bool):Prop:=∀y0 y1 r,F y0 y1=some r→Ho Tryz.prog 44 [A7d.en y0,A7d.en y1] B r
def O23(E9:Ab→Ab→Option Bool)(F6:(List Ab)→(List Ab)→Option Bool)(L:Nat):Bd:=(orc 23 (A2 B Bj Bj E9) (orc 44 (A2 B A7d A7d F6) (oL [])))
theorem s23(E9:Ab→Ab→Option Bool)(F6:(List Ab)→(List Ab)→Option Bool)(Bj6:Bry E9)(Bj7:Brz F6)(L:Nat):Dv Tryz.prog (O23 E9 F6 L):=(D4 (a2 _ Bj6) (D4 (a2 _ Bj7) (oS [])))
def Awv [An A Bool](E9:Ab→Ab→Option Bool)(F6:(List Ab)→(List Ab)→Option Bool)(L:Nat)(a0:Ab)(a1:Ab):A:=
 (jp (.cn (a0.Op != a1.Op)
 (.lf true)
 (.lf (!(a0.Name.toList == a1.Name.toList)))) (fun b1=>
 (jp (.cn b1
 (.lf true)
 (.lf (a0.N != a1.N))) (fun b2=>
 (cn b2
 (lf false)
 (bd (F6 a0.Kids a1.Kids) fun r3=>
 (lf r3)))))))
def Aqq(E9:Ab→Ab→Option Bool)(F6:(List Ab)→(List Ab)→Option Bool)(L:Nat)(a0:Ab)(a1:Ab):Option Bool:=Awv E9 F6 L a0 a1
theorem b23(E9:Ab→Ab→Option Bool)(F6:(List Ab)→(List Ab)→Option Bool)(Bj6:Bry E9)(Bj7:Brz F6)(L:Nat):Bry (Aqq E9 F6 L):=fun a0 a1 r h=>hF Tryz.func23 (s23 E9 F6 Bj6 Bj7 L) L (fun kk=>eE (Awv E9 F6 L a0 a1)) h
def c44:=CC Tryz.f44
def O44(E9:Ab→Ab→Option Bool)(F6:(List Ab)→(List Ab)→Option Bool)(L:Nat):Bd:=(orc 23 (A2 B Bj Bj E9) (orc 44 (A2 B A7d A7d F6) (oL [])))
theorem s44(E9:Ab→Ab→Option Bool)(F6:(List Ab)→(List Ab)→Option Bool)(Bj6:Bry E9)(Bj7:Brz F6)(L:Nat):Dv Tryz.prog (O44 E9 F6 L):=(D4 (a2 _ Bj6) (D4 (a2 _ Bj7) (oS [])))
def Byr(a0:List Ab)(a1:List Ab)(v:Yq):St:=⟨[(0,lv (.t63 a0)),(1,lv (.t63 a1)),(4,B v.1),(5,I v.2)],[],0⟩
def i9 [An A M3](E9:Ab→Ab→Option Bool)(F6:(List Ab)→(List Ab)→Option Bool)(L:Nat)(a0:List Ab)(a1:List Ab)(rec:Bool→Int→A)(Ak:Bool)(Aj:Int):A:=
 (lw Aj a0
 (gi Aj a1
 (bd (E9 (Ab.cp (a0.getD (Int.toNat Aj) default)) (Ab.cp (a1.getD (Int.toNat Aj) default))) fun r1=>
 (cn (!r1)
 (lf (0,false,Aj))
 (rec Ak (B7 (Aj+1))))))
 (lf (1,Ak,Aj)))
def La(E9:Ab→Ab→Option Bool)(F6:(List Ab)→(List Ab)→Option Bool)(L:Nat)(a0:List Ab)(a1:List Ab):Nat→Bool→Int→Option M3
 |0,_,_=>none
 |n+1,Ak,Aj=>i9 E9 F6 L a0 a1 (La E9 F6 L a0 a1 n) Ak Aj
theorem Cc1(E9:Ab→Ab→Option Bool)(F6:(List Ab)→(List Ab)→Option Bool)(L:Nat)(K:Ba)(a0:List Ab)(a1:List Ab):LP (EV (O44 E9 F6 L) L 9 c44.w.l.u.l.l) [0,1,4,5] [] (Byr a0 a1) [.ret,.exit 0] (fun n v=>La E9 F6 L a0 a1 n v.1 v.2) K:=lE (fun _=>rfl) fun n v ih=>eE (i9 E9 F6 L a0 a1 (fun Ak Aj=>re (ih (Ak,Aj))) v.1 v.2)
def q8 [An A Bool](E9:Ab→Ab→Option Bool)(F6:(List Ab)→(List Ab)→Option Bool)(L:Nat)(o2:Nat×Yq):A:=
 (sl o2.1 [(lf o2.2.1),
 (lf true)])
def Bwn(E9:Ab→Ab→Option Bool)(F6:(List Ab)→(List Ab)→Option Bool)(L:Nat)(kk:Cz):Ba:=(Av 0 (Be (EV (O44 E9 F6 L) L 9 c44.w.r) (Cp Tryz.prog (RS Tryz.f44) kk)))
theorem Cm3(E9:Ab→Ab→Option Bool)(F6:(List Ab)→(List Ab)→Option Bool)(L:Nat)(kk:Cz)(a0:List Ab)(a1:List Ab)(o2:Nat×Yq):kX [.ret,.exit 0] (Byr a0 a1) (Bwn E9 F6 L kk) o2=ob (q8 E9 F6 L o2) (kQ B kk):=eE (q8 E9 F6 L o2)
def Ahh [An A Bool](E9:Ab→Ab→Option Bool)(F6:(List Ab)→(List Ab)→Option Bool)(L:Nat)(a0:List Ab)(a1:List Ab)(nx1:A):A:=
 (cn ((a0.length:Int) != (a1.length:Int))
 (lf false)
 nx1)
def Avv [An A Bool](E9:Ab→Ab→Option Bool)(F6:(List Ab)→(List Ab)→Option Bool)(L:Nat)(a0:List Ab)(a1:List Ab):A:=Ahh E9 F6 L a0 a1 (bd (La E9 F6 L a0 a1 L false 0) fun o2=>q8 E9 F6 L o2)
def Ahq(E9:Ab→Ab→Option Bool)(F6:(List Ab)→(List Ab)→Option Bool)(L:Nat)(a0:List Ab)(a1:List Ab):Option Bool:=Avv E9 F6 L a0 a1
theorem b44(E9:Ab→Ab→Option Bool)(F6:(List Ab)→(List Ab)→Option Bool)(Bj6:Bry E9)(Bj7:Brz F6)(L:Nat):Brz (Ahq E9 F6 L):=fun a0 a1 r h=>hF Tryz.func44 (s44 E9 F6 Bj6 Bj7 L) L (fun kk=>eE (Ahh E9 F6 L a0 a1 (ho (Cc1 E9 F6 L (Bwn E9 F6 L kk) a0 a1 L (false,0)) fun o2=>Cm3 E9 F6 L kk a0 a1 o2))) h
mutual
def Eh:Nat→Ab→Ab→Option Bool
 |0,_,_=>none
 |L+1,a0,a1=>Aqq (Eh L) (Ih L) L a0 a1
def Ih:Nat→(List Ab)→(List Ab)→Option Bool
 |0,_,_=>none
 |L+1,a0,a1=>Ahq (Eh L) (Ih L) L a0 a1
end
theorem Bvf(L:Nat):Bry (Eh L)∧Brz (Ih L):=by
 induction L with
 |zero=>exact ⟨fun _ _ _ h=>(by cases h),fun _ _ _ h=>(by cases h)⟩
 |succ L ih=>
  obtain ⟨i23,i44⟩:=ih
  exact ⟨b23 (Eh L) (Ih L) i23 i44 L,b44 (Eh L) (Ih L) i23 i44 L⟩
def X23(L:Nat):F7:=E2 B 23 Bj Bj (Eh L) ((Bvf L).1)
def X44(L:Nat):F7:=E2 B 44 A7d A7d (Ih L) ((Bvf L).2)
def c90:=CC Tryz.f90
def O90:Bd:=oL [X23 L]
def Bzd(a0:List Ab)(a1:List Ab)(v:Yq):St:=⟨[(0,lv (.t63 a0)),(1,lv (.t63 a1)),(4,B v.1),(5,I v.2)],[],0⟩
def Vz [An A M3](a0:List Ab)(a1:List Ab)(rec:Bool→Int→A)(Ak:Bool)(Aj:Int):A:=
 (lw Aj a0
 (gi Aj a1
 (bd (Eh L (Ab.cp (a0.getD (Int.toNat Aj) default)) (Ab.cp (a1.getD (Int.toNat Aj) default))) fun r1=>
 (cn (!r1)
 (lf (0,false,Aj))
 (rec Ak (B7 (Aj+1))))))
 (lf (1,Ak,Aj)))
def I1(L:Nat)(a0:List Ab)(a1:List Ab):Nat→Bool→Int→Option M3
 |0,_,_=>none
 |n+1,Ak,Aj=>Vz L a0 a1 (I1 L a0 a1 n) Ak Aj
theorem Cdu(a0:List Ab)(a1:List Ab):LP (EV (O90 L) L 9 c90.w.l.u.l.l) [0,1,4,5] [] (Bzd a0 a1) [.ret,.exit 0] (fun n v=>I1 L a0 a1 n v.1 v.2) K:=lE (fun _=>rfl) fun n v ih=>eE (Vz L a0 a1 (fun Ak Aj=>re (ih (Ak,Aj))) v.1 v.2)
def Qz [An A Bool](L:Nat)(o2:Nat×Yq):A:=
 (sl o2.1 [(lf o2.2.1),
 (lf true)])
def Bxg:Ba:=(Av 0 (Be (EV (O90 L) L 9 c90.w.r) (Cp Tryz.prog (RS Tryz.f90) kk)))
theorem Cnw(a0:List Ab)(a1:List Ab)(o2:Nat×Yq):kX [.ret,.exit 0] (Bzd a0 a1) (Bxg L kk) o2=ob (Qz L o2) (kQ B kk):=eE (Qz L o2)
def V9 [An A Bool](L:Nat)(a0:List Ab)(a1:List Ab)(nx1:A):A:=
 (cn ((a0.length:Int) != (a1.length:Int))
 (lf false)
 nx1)
def Ar8 [An A Bool](a0:List Ab)(a1:List Ab):A:=V9 L a0 a1 (bd (I1 L a0 a1 L false 0) fun o2=>Qz L o2)
def We(a0:List Ab)(a1:List Ab):Option Bool:=Ar8 L a0 a1
def X90:F7:=E2 B 90 A7d A7d (We L) fun a0 a1 r h=>hF Tryz.func90 (C:=O90 L) (oS _) L (fun kk=>eE (V9 L a0 a1 (ho (Cdu L (Bxg L kk) a0 a1 L (false,0)) fun o2=>Cnw L kk a0 a1 o2))) h
def B0s(F:(List Ad)→(List Ad)→Option Bool):Prop:=∀y0 y1 r,F y0 y1=some r→Ho Tryz.prog 55 [Xe.en y0,Xe.en y1] B r
def c55:=CC Tryz.f55
def O55(Hw:(List Ad)→(List Ad)→Option Bool)(L:Nat):Bd:=(orc 55 (A2 B Xe Xe Hw) (oL [X23 L,X89 L,X90 L]))
theorem s55(Hw:(List Ad)→(List Ad)→Option Bool)(Cbp:B0s Hw)(L:Nat):Dv Tryz.prog (O55 Hw L):=(D4 (a2 _ Cbp) (oS [X23 L,X89 L,X90 L]))
def Byy(a0:List Ad)(a1:List Ad)(v:Yq):St:=⟨[(0,lv (.t96 a0)),(1,lv (.t96 a1)),(4,B v.1),(5,I v.2)],[],0⟩
def Ah5 [An A M3](Hw:(List Ad)→(List Ad)→Option Bool)(L:Nat)(a0:List Ad)(a1:List Ad)(rec:Bool→Int→A)(Ak:Bool)(Aj:Int):A:=
 (lw Aj a0
 (gi Aj a1
 (jp (.cn ((a0.getD (Int.toNat Aj) default).Op != (a1.getD (Int.toNat Aj) default).Op)
 (.lf true)
 (.lf (!(((a0.getD (Int.toNat Aj) default).Name).toList == ((a1.getD (Int.toNat Aj) default).Name).toList)))) (fun b1=>
 (jp (.cn b1
 (.lf true)
 (.lf (!(((a0.getD (Int.toNat Aj) default).Of).toList == ((a1.getD (Int.toNat Aj) default).Of).toList)))) (fun b2=>
 (jp (.cn b2
 (.lf true)
 (.lf (!((a0.getD (Int.toNat Aj) default).Flag == (a1.getD (Int.toNat Aj) default).Flag)))) (fun b3=>
 (jb (.cn b3
 (.lf true)
 (.bd (Eh L (Ab.cp ((a0.getD (Int.toNat Aj) default).E)) (Ab.cp ((a1.getD (Int.toNat Aj) default).E))) fun r5=>
 (.lf (!r5)))) (fun b4=>
 (jb (.cn b4
 (.lf true)
 (.bd (Eh L (Ab.cp ((a0.getD (Int.toNat Aj) default).F)) (Ab.cp ((a1.getD (Int.toNat Aj) default).F))) fun r7=>
 (.lf (!r7)))) (fun b6=>
 (cn b6
 (lf (0,false,Aj))
 (bd (We L ((a0.getD (Int.toNat Aj) default).Args) ((a1.getD (Int.toNat Aj) default).Args)) fun r8=>
 (jb (.cn (!r8)
 (.lf true)
 (.bd (Td L ((a0.getD (Int.toNat Aj) default).Dist) ((a1.getD (Int.toNat Aj) default).Dist)) fun r10=>
 (.lf (!r10)))) (fun b9=>
 (jb (.cn b9
 (.lf true)
 (.bd (Hw ((a0.getD (Int.toNat Aj) default).Body) ((a1.getD (Int.toNat Aj) default).Body)) fun r12=>
 (.lf (!r12)))) (fun b11=>
 (jb (.cn b11
 (.lf true)
 (.bd (Hw ((a0.getD (Int.toNat Aj) default).Else) ((a1.getD (Int.toNat Aj) default).Else)) fun r14=>
 (.lf (!r14)))) (fun b13=>
 (cn b13
 (lf (0,false,Aj))
 (rec Ak (B7 (Aj+1)))))))))))))))))))))))
 (lf (1,Ak,Aj)))
def Tk(Hw:(List Ad)→(List Ad)→Option Bool)(L:Nat)(a0:List Ad)(a1:List Ad):Nat→Bool→Int→Option M3
 |0,_,_=>none
 |n+1,Ak,Aj=>Ah5 Hw L a0 a1 (Tk Hw L a0 a1 n) Ak Aj
theorem Cc7(Hw:(List Ad)→(List Ad)→Option Bool)(L:Nat)(K:Ba)(a0:List Ad)(a1:List Ad):LP (EV (O55 Hw L) L 9 c55.w.l.u.l.l) [0,1,4,5] [] (Byy a0 a1) [.ret,.exit 0] (fun n v=>Tk Hw L a0 a1 n v.1 v.2) K:=lE (fun _=>rfl) fun n v ih=>eE (Ah5 Hw L a0 a1 (fun Ak Aj=>re (ih (Ak,Aj))) v.1 v.2)
def Aaw [An A Bool](Hw:(List Ad)→(List Ad)→Option Bool)(L:Nat)(o15:Nat×Yq):A:=
 (sl o15.1 [(lf o15.2.1),
 (lf true)])
def Bwt(Hw:(List Ad)→(List Ad)→Option Bool)(L:Nat)(kk:Cz):Ba:=(Av 0 (Be (EV (O55 Hw L) L 9 c55.w.r) (Cp Tryz.prog (RS Tryz.f55) kk)))
theorem Cm9(Hw:(List Ad)→(List Ad)→Option Bool)(L:Nat)(kk:Cz)(a0:List Ad)(a1:List Ad)(o15:Nat×Yq):kX [.ret,.exit 0] (Byy a0 a1) (Bwt Hw L kk) o15=ob (Aaw Hw L o15) (kQ B kk):=eE (Aaw Hw L o15)
def Aiq [An A Bool](Hw:(List Ad)→(List Ad)→Option Bool)(L:Nat)(a0:List Ad)(a1:List Ad)(nx1:A):A:=
 (cn ((a0.length:Int) != (a1.length:Int))
 (lf false)
 nx1)
def A6s [An A Bool](Hw:(List Ad)→(List Ad)→Option Bool)(L:Nat)(a0:List Ad)(a1:List Ad):A:=Aiq Hw L a0 a1 (bd (Tk Hw L a0 a1 L false 0) fun o15=>Aaw Hw L o15)
def Awn(Hw:(List Ad)→(List Ad)→Option Bool)(L:Nat)(a0:List Ad)(a1:List Ad):Option Bool:=A6s Hw L a0 a1
theorem b55(Hw:(List Ad)→(List Ad)→Option Bool)(Cbp:B0s Hw)(L:Nat):B0s (Awn Hw L):=fun a0 a1 r h=>hF Tryz.func55 (s55 Hw Cbp L) L (fun kk=>eE (Aiq Hw L a0 a1 (ho (Cc7 Hw L (Bwt Hw L kk) a0 a1 L (false,0)) fun o15=>Cm9 Hw L kk a0 a1 o15))) h
def Nd:Nat→(List Ad)→(List Ad)→Option Bool
 |0,_,_=>none
 |L+1,a0,a1=>Awn (Nd L) L a0 a1
theorem Cbk(L:Nat):B0s (Nd L):=by
 induction L with
 |zero=>exact fun _ _ _ h=>(by cases h)
 |succ L ih=>
  have i55:=ih
  exact b55 (Nd L) i55 L
def X55(L:Nat):F7:=E2 B 55 Xe Xe (Nd L) (Cbk L)
def c56:=CC Tryz.f56
def O56(L:Nat):Bd:=oL []
def Byz(a0:List Int)(a1:List Int)(v:Yq):St:=⟨[(0,lv (.t3 a0)),(1,lv (.t3 a1)),(4,B v.1),(5,I v.2)],[],0⟩
def Xt [An A M3](L:Nat)(a0:List Int)(a1:List Int)(rec:Bool→Int→A)(Ak:Bool)(Aj:Int):A:=
 (lw Aj a0
 (gi Aj a1
 (cn ((a0.getD (Int.toNat Aj) default) != (a1.getD (Int.toNat Aj) default))
 (lf (0,false,Aj))
 (rec Ak (B7 (Aj+1)))))
 (lf (1,Ak,Aj)))
def J1(L:Nat)(a0:List Int)(a1:List Int):Nat→Bool→Int→Option M3
 |0,_,_=>none
 |n+1,Ak,Aj=>Xt L a0 a1 (J1 L a0 a1 n) Ak Aj
theorem Cc8(a0:List Int)(a1:List Int):LP (EV (O56 L) L 9 c56.w.l.u.l.l) [0,1,4,5] [] (Byz a0 a1) [.ret,.exit 0] (fun n v=>J1 L a0 a1 n v.1 v.2) K:=lE (fun _=>rfl) fun n v ih=>eE (Xt L a0 a1 (fun Ak Aj=>re (ih (Ak,Aj))) v.1 v.2)
def S2 [An A Bool](L:Nat)(o1:Nat×Yq):A:=
 (sl o1.1 [(lf o1.2.1),
 (lf true)])
def Bwu:Ba:=(Av 0 (Be (EV (O56 L) L 9 c56.w.r) (Cp Tryz.prog (RS Tryz.f56) kk)))
theorem Cna(a0:List Int)(a1:List Int)(o1:Nat×Yq):kX [.ret,.exit 0] (Byz a0 a1) (Bwu L kk) o1=ob (S2 L o1) (kQ B kk):=eE (S2 L o1)
def Yi [An A Bool](L:Nat)(a0:List Int)(a1:List Int)(nx1:A):A:=
 (cn ((a0.length:Int) != (a1.length:Int))
 (lf false)
 nx1)
def Atq [An A Bool](a0:List Int)(a1:List Int):A:=Yi L a0 a1 (bd (J1 L a0 a1 L false 0) fun o1=>S2 L o1)
def Y0(a0:List Int)(a1:List Int):Option Bool:=Atq L a0 a1
def X56:F7:=E2 B 56 cl3 cl3 (Y0 L) fun a0 a1 r h=>hF Tryz.func56 (C:=O56 L) (oS _) L (fun kk=>eE (Yi L a0 a1 (ho (Cc8 L (Bwu L kk) a0 a1 L (false,0)) fun o1=>Cna L kk a0 a1 o1))) h
def c57:=CC Tryz.f57
def O57(L:Nat):Bd:=oL []
def By0(a0:A9)(a1:A9)(v:Yq):St:=⟨[(0,.any),(1,.any),(2,.loc 2 0),(3,.loc 3 0),(4,B v.1),(5,I v.2)],[(2,(Dr a0)),(3,(Dr a1))],0⟩
def j8 [An A M3](L:Nat)(a0:A9)(a1:A9)(rec:Bool→Int→A)(Al:Bool)(Ai:Int):A:=
 (lw Ai a0.Terms
 (gi Ai a1.Terms
 (cn (!(((a0.Terms.getD (Int.toNat Ai) default).Coef == (a1.Terms.getD (Int.toNat Ai) default).Coef) && (((a0.Terms.getD (Int.toNat Ai) default).What == (a1.Terms.getD (Int.toNat Ai) default).What) && (((a0.Terms.getD (Int.toNat Ai) default).Name == (a1.Terms.getD (Int.toNat Ai) default).Name) && true))))
 (lf (0,false,Ai))
 (rec Al (B7 (Ai+1)))))
 (lf (1,Al,Ai)))
def Lc(L:Nat)(a0:A9)(a1:A9):Nat→Bool→Int→Option M3
 |0,_,_=>none
 |n+1,Al,Ai=>j8 L a0 a1 (Lc L a0 a1 n) Al Ai
theorem Cc9(a0:A9)(a1:A9):LP (EV (O57 L) L 9 c57.w.l.u.l.l) [0,1,2,3,4,5] [2,3] (By0 a0 a1) [.ret,.exit 0] (fun n v=>Lc L a0 a1 n v.1 v.2) K:=lE (fun _=>rfl) fun n v ih=>eE (j8 L a0 a1 (fun Al Ai=>re (ih (Al,Ai))) v.1 v.2)
def U4 [An A Bool](L:Nat)(o3:Nat×Yq):A:=
 (sl o3.1 [(lf o3.2.1),
 (lf true)])
def Bwv:Ba:=(Av 0 (Be (EV (O57 L) L 9 c57.w.r) (Cp Tryz.prog (RS Tryz.f57) kk)))
theorem Cnb(a0:A9)(a1:A9)(o3:Nat×Yq):kX [.ret,.exit 0] (By0 a0 a1) (Bwv L kk) o3=ob (U4 L o3) (kQ B kk):=eE (U4 L o3)
def w5 [An A Bool](L:Nat)(a0:A9)(a1:A9)(nx1:A):A:=
 (jp (.cn (!(a0.Name.toList == a1.Name.toList))
 (.lf true)
 (.lf (a0.Total != a1.Total))) (fun b1=>
 (jp (.cn b1
 (.lf true)
 (.lf ((a0.Terms.length:Int) != (a1.Terms.length:Int)))) (fun b2=>
 (cn b2
 (lf false)
 nx1)))))
def Avx [An A Bool](a0:A9)(a1:A9):A:=w5 L a0 a1 (bd (Lc L a0 a1 L false 0) fun o3=>U4 L o3)
def Aan(a0:A9)(a1:A9):Option Bool:=Avx L a0 a1
def X57:F7:=E2 B 57 Aw6 Aw6 (Aan L) fun a0 a1 r h=>hF Tryz.func57 (C:=O57 L) (oS _) L (fun kk=>eE (w5 L a0 a1 (ho (Cc9 L (Bwv L kk) a0 a1 L (false,0)) fun o3=>Cnb L kk a0 a1 o3))) h
end
end Go.Proofs.YtofcpkmnhmnfcaaGreatR.Ev
