import Derived.Test.YtfencmicmnhglaaGreatG10
import Derived.Test.YtfencmicmnhglaaGreatG12
namespace Go.Proofs.YtfencmicmnhglaaGreat.Ev
open Go An
set_option maxRecDepth 100000
set_option maxHeartbeats 4000000
set_option linter.unusedVariables false
set_option linter.unusedSimpArgs false
set_option linter.unnecessarySimpa false
noncomputable section
variable {A:Type} (L n:Nat) (kk:Dm) (K:Be) (k:Bx)
def c30:=CC Tryz.f30
def O30:Bi:=oL [X47 L,X48 L,X49 L]
def Byf(Aj:Int)(a0:Ad)(v:Cp):St:=⟨[(0,.any),(1,.loc 1 0),(2,I 0),(3,I v.1),(4,I Aj),(5,I v.2)],[(1,(Aw a0))],0⟩
def Ab8 [An A B8](Aj:Int)(a0:Ad)(rec:Int→Int→A)(Ct:Int)(Bw:Int):A:=
 (gi Aj a0.Sites
 (cn (decide (Bw < (((a0.Sites.getD (Int.toNat Aj) default).Routines).length:Int)))
 (cn (Ct == 0)
 (gi Aj a0.Sites
 (gi Bw ((a0.Sites.getD (Int.toNat Aj) default).Routines)
 (bd (Aij L (((a0.Sites.getD (Int.toNat Aj) default).Routines).getD (Int.toNat Bw) default)) fun r2=>
 (gi Aj a0.Sites
 (gi Bw ((a0.Sites.getD (Int.toNat Aj) default).Routines)
 (bd (Agv L a0 Aj r2 ((((a0.Sites.getD (Int.toNat Aj) default).Routines).getD (Int.toNat Bw) default).Body)) fun r3=>
 (rec r3 (Cq (Bw+1)))))))))
 (rec Ct (Cq (Bw+1))))
 (lf (0,Ct,Bw))))
def Lz(L:Nat)(Aj:Int)(a0:Ad):Nat→Int→Int→Option B8
 |0,_,_=>none
 |n+1,Ct,Bw=>Ab8 L Aj a0 (Lz L Aj a0 n) Ct Bw
theorem Cca(Aj:Int)(a0:Ad):LP (EV (O30 L) L 9 c30.w.l.u.l.l.u.l.l.u.l.l) [0,1,2,3,4,5] [1] (Byf Aj a0) [.exit 2] (fun n v=>Lz L Aj a0 n v.1 v.2) K:=lE (fun _=>rfl) fun n v ih=>eE (Ab8 L Aj a0 (fun Ct Bw=>re (ih (Ct,Bw))) v.1 v.2)
def Bkv(a0:Ad)(v:Cp):St:=⟨[(0,.any),(1,.loc 1 0),(2,I 0),(3,I v.1),(4,I v.2)],[(1,(Aw a0))],0⟩
def Xz [An A B8](L:Nat)(Aj:Int)(rec:Int→Int→A)(o4:Nat×Cp):A:=
 (sl o4.1 [(rec o4.2.1 (Cq (Aj+1)))])
def Adn [An A B8](L:Nat)(a0:Ad)(rec:Int→Int→A)(Ag:Int)(Aj:Int)(nx1:Int→Int→A):A:=
 (cn (decide (Aj < (a0.Sites.length:Int)))
 (nx1 Aj Ag)
 (lf (0,Ag,Aj)))
def Aj8 [An A B8](a0:Ad)(rec:Int→Int→A)(Ag:Int)(Aj:Int):A:=Adn L a0 rec Ag Aj (fun Aj Ag=>bd (Lz L Aj a0 L Ag 0) fun o4=>Xz L Aj rec o4)
def Ly(L:Nat)(a0:Ad):Nat→Int→Int→Option B8
 |0,_,_=>none
 |n+1,Ag,Aj=>Aj8 L a0 (Ly L a0 n) Ag Aj
def Buf(a0:Ad):Prop:=LI (EV (O30 L) L 9 c30.w.l.u.l.l) [0,1,2,3,4] [1] (Bkv a0) [.exit 0] (fun n v=>Ly L a0 n v.1 v.2) K n
def Bww:Be:=(Ax 2 (Ax 1 (Bk (EV (O30 L) L 9 c30.w.l.u.l.l.u.r) (Ir (Lh (EV (O30 L) L 9 c30.w.l.u.l.l) [0,1,2,3,4] [1] n) [0,1,2,3,4] [1] K))))
theorem Cnt(Aj:Int)(a0:Ad)(ih:Buf L n K a0)(o4:Nat×Cp):kX [.exit 2] (Byf Aj a0) (Bww L n K) o4=ob (Xz L Aj (Ly L a0 n) o4) (kX [.exit 0] (Bkv a0) K):=eE (Xz L Aj (fun Ag Aj=>re (ih (Ag,Aj))) o4)
theorem Cb9(a0:Ad):∀n,Buf L n K a0:=lE (fun _=>rfl) fun n v ih=>eE (Adn L a0 (fun Ag Aj=>re (ih (Ag,Aj))) v.1 v.2 (fun Aj Ag=>ho (Cca L (Bww L n K) Aj a0 L (Ag,0)) fun o4=>Cnt L n K Aj a0 ih o4))
def X0 [An A Int](L:Nat)(o5:Nat×Cp):A:=
 (sl o5.1 [(lf o5.2.1)])
def Bwx:Be:=(Ax 0 (Bk (EV (O30 L) L 9 c30.w.r) (C0 Tryz.prog (RS Tryz.f30) kk)))
theorem Cnu(a0:Ad)(o5:Nat×Cp):kX [.exit 0] (Bkv a0) (Bwx L kk) o5=ob (X0 L o5) (kQ I kk):=eE (X0 L o5)
def Ado [An A Int](a0:Ad)(nx2:Int→A):A:=
 (bd (Akz L a0) fun r1=>
 (nx2 r1))
def A1a [An A Int](a0:Ad):A:=Ado L a0 (fun r1=>bd (Ly L a0 L r1 0) fun o5=>X0 L o5)
def Aap(a0:Ad):Option Int:=A1a L a0
def X30:Gh:=E1 I 30 C6 (Aap L) fun a0 r h=>hF Tryz.func30 (C:=O30 L) (oS _) L (fun kk=>eE (Ado L a0 (fun r1=>ho (Cb9 L (Bwx L kk) a0 L (r1,0)) fun o5=>Cnu L kk a0 o5))) h
def c50:=CC Tryz.f50
def O50(L:Nat):Bi:=oL []
def Cp8:V4→Prop:=fun x=>kk ((fun(x:V4)=> .tup [I x.1,B x.2]) x)
def Byl(a1:ByteArray)(a0:Ad)(v:Tu6):St:=⟨[(0,.any),(1,S a1),(2,.loc 2 0),(4,I v.1),(5,B v.2.1),(6,I v.2.2)],[(2,(Aw a0))],0⟩
def Acd [An A (Nat×Tu6)](L:Nat)(a1:ByteArray)(a0:Ad)(rec:Int→Bool→Int→A)(Ag:Int)(Aj:Bool)(Ai:Int):A:=
 (lw Ai a0.Params
 (cn (((a0.Params.getD (Int.toNat Ai) default).Name).toList == a1.toList)
 (gi Ai a0.Params
 (lf (0,(((a0.Params.getD (Int.toNat Ai) default).Type_),true,Ai))))
 (rec Ag Aj (Cq (Ai+1))))
 (lf (1,Ag,Aj,Ai)))
def Pz(L:Nat)(a1:ByteArray)(a0:Ad):Nat→Int→Bool→Int→Option (Nat×Tu6)
 |0,_,_,_=>none
 |n+1,Ag,Aj,Ai=>Acd L a1 a0 (Pz L a1 a0 n) Ag Aj Ai
theorem Cci(a1:ByteArray)(a0:Ad):LP (EV (O50 L) L 9 c50.u.l.u.l.l) [0,1,2,4,5,6] [2] (Byl a1 a0) [.ret,.exit 0] (fun n v=>Pz L a1 a0 n v.1 v.2.1 v.2.2) K:=lE (fun _=>rfl) fun n v ih=>eE (Acd L a1 a0 (fun Ag Aj Ai=>re (ih (Ag,Aj,Ai))) v.1 v.2.1 v.2.2)
def X4 [An A V4](L:Nat)(o1:Nat×Tu6):A:=
 (sl o1.1 [(lf (o1.2.1,o1.2.2.1)),
 (lf (0,false))])
def Bw7:Be:=(Ax 0 (Bk (EV (O50 L) L 9 c50.u.r) (C0 Tryz.prog (RS Tryz.f50) kk)))
theorem Cn4(a1:ByteArray)(a0:Ad)(o1:Nat×Tu6):kX [.ret,.exit 0] (Byl a1 a0) (Bw7 L kk) o1=ob (X4 L o1) (Cp8 kk):=eE (X4 L o1)
def A1e [An A V4](a0:Ad)(a1:ByteArray):A:=(bd (Pz L a1 a0 L 0 false 0) fun o1=>X4 L o1)
def Ak4(a0:Ad)(a1:ByteArray):Option V4:=A1e L a0 a1
def X50:Gh:=E2 (fun(x:V4)=> .tup [I x.1,B x.2]) 50 C6 cS (Ak4 L) fun a0 a1 r h=>hF Tryz.func50 (C:=O50 L) (oS _) L (fun kk=>eE ((ho (Cci L (Bw7 L kk) a1 a0 L (0,false,0)) fun o1=>Cn4 L kk a1 a0 o1))) h
def c31:=CC Tryz.f31
def O31:Bi:=oL [X50 L,X51 L]
def Byg(a1:List Ah)(a2:Int)(r1:V4)(a0:Ad)(v:Cp):St:=⟨[(0,.any),(1,lv (.t46 a1)),(2,I a2),(3,.any),(6,I v.1),(7,I r1.1),(8,.any),(9,I v.2),(10,.any),(11,.any)],[(3,(Aw a0))],0⟩
def Aiz [An A B8](L:Nat)(a1:List Ah)(a2:Int)(r1:V4)(a0:Ad)(rec:Int→Int→A)(Aj:Int)(Bg:Int):A:=
 (cn (decide (Bg < a2))
 (gi Bg a1
 (gi a2 a1
 (cn (((a1.getD (Int.toNat Bg) default).Name).toList == ((a1.getD (Int.toNat a2) default).Name).toList)
 (lf (0,4,Bg))
 (rec Aj (Cq (Bg+1))))))
 (lf (1,Aj,Bg)))
def Uw(L:Nat)(a1:List Ah)(a2:Int)(r1:V4)(a0:Ad):Nat→Int→Int→Option B8
 |0,_,_=>none
 |n+1,Aj,Bg=>Aiz L a1 a2 r1 a0 (Uw L a1 a2 r1 a0 n) Aj Bg
theorem Ccb(a1:List Ah)(a2:Int)(r1:V4)(a0:Ad):LP (EV (O31 L) L 9 c31.w.u.l.u.l.l) [0,1,2,3,6,7,8,9,10,11] [3] (Byg a1 a2 r1 a0) [.ret,.exit 0] (fun n v=>Uw L a1 a2 r1 a0 n v.1 v.2) K:=lE (fun _=>rfl) fun n v ih=>eE (Aiz L a1 a2 r1 a0 (fun Aj Bg=>re (ih (Aj,Bg))) v.1 v.2)
def Byh(r1:V4)(a1:List Ah)(a2:Int)(a0:Ad)(v:Cp):St:=⟨[(0,.any),(1,.any),(2,.any),(3,.any),(6,I v.1),(7,I r1.1),(8,.any),(9,.any),(10,lv (.t3 ((a1.getD (Int.toNat a2) default).Levels))),(11,I v.2)],[(3,(Aw a0))],0⟩
def Ai0 [An A B8](r1:V4)(a1:List Ah)(a2:Int)(a0:Ad)(rec:Int→Int→A)(Bz:Int)(Bw:Int):A:=
 (lw Bw ((a1.getD (Int.toNat a2) default).Levels)
 (bd (Ul L r1.1 (((a1.getD (Int.toNat a2) default).Levels).getD (Int.toNat Bw) default)) fun r3=>
 (cn (!r3)
 (lf (0,2,Bw))
 (cn (decide (Bw > 0))
 (gi Bw ((a1.getD (Int.toNat a2) default).Levels)
 (gi (Cq (Bw - 1)) ((a1.getD (Int.toNat a2) default).Levels)
 (cn (decide ((((a1.getD (Int.toNat a2) default).Levels).getD (Int.toNat Bw) default)≤(((a1.getD (Int.toNat a2) default).Levels).getD (Int.toNat (Cq (Bw - 1))) default)))
 (lf (0,12,Bw))
 (rec Bz (Cq (Bw+1))))))
 (rec Bz (Cq (Bw+1))))))
 (lf (1,Bz,Bw)))
def Ux(L:Nat)(r1:V4)(a1:List Ah)(a2:Int)(a0:Ad):Nat→Int→Int→Option B8
 |0,_,_=>none
 |n+1,Bz,Bw=>Ai0 L r1 a1 a2 a0 (Ux L r1 a1 a2 a0 n) Bz Bw
theorem Ccc(r1:V4)(a1:List Ah)(a2:Int)(a0:Ad):LP (EV (O31 L) L 9 c31.x.w.u.l.u.l.l) [0,1,2,3,6,7,8,9,10,11] [3] (Byh r1 a1 a2 a0) [.ret,.exit 2] (fun n v=>Ux L r1 a1 a2 a0 n v.1 v.2) K:=lE (fun _=>rfl) fun n v ih=>eE (Ai0 L r1 a1 a2 a0 (fun Bz Bw=>re (ih (Bz,Bw))) v.1 v.2)
def Acw [An A Int](L:Nat)(o4:Nat×Cp):A:=
 (sl o4.1 [(lf o4.2.1),
 (lf 0)])
def Bwz:Be:=(Ax 2 (Bk (EV (O31 L) L 9 c31.x.w.u.r) (C0 Tryz.prog (RS Tryz.f31) kk)))
theorem Cnw(r1:V4)(a1:List Ah)(a2:Int)(a0:Ad)(o4:Nat×Cp):kX [.ret,.exit 2] (Byh r1 a1 a2 a0) (Bwz L kk) o4=ob (Acw L o4) (kQ I kk):=eE (Acw L o4)
def Aja [An A Int](L:Nat)(a2:Int)(a1:List Ah)(r1:V4)(a0:Ad)(o2:Nat×Cp)(nx2:V4→B8→A):A:=
 (sl o2.1 [(lf o2.2.1),
 (gi a2 a1
 (cn ((((a1.getD (Int.toNat a2) default).Levels).length:Int) == 0)
 (lf 7)
 (cn (decide ((((a1.getD (Int.toNat a2) default).Levels).length:Int) > 10))
 (lf 6)
 (nx2 r1 o2))))])
def Ai5 [An A Int](a2:Int)(a1:List Ah)(r1:V4)(a0:Ad)(o2:Nat×Cp):A:=Aja L a2 a1 r1 a0 o2 (fun r1 o2=>bd (Ux L r1 a1 a2 a0 L o2.2.1 0) fun o4=>Acw L o4)
def Bwy:Be:=(Ax 0 (Bk (EV (O31 L) L 9 c31.w.u.r) (C0 Tryz.prog (RS Tryz.f31) kk)))
theorem Cnv(a1:List Ah)(a2:Int)(r1:V4)(a0:Ad)(o2:Nat×Cp):kX [.ret,.exit 0] (Byg a1 a2 r1 a0) (Bwy L kk) o2=ob (Ai5 L a2 a1 r1 a0 o2) (kQ I kk):=eE (Aja L a2 a1 r1 a0 o2 (fun r1 o2=>ho (Ccc L (Bwz L kk) r1 a1 a2 a0 L (o2.2.1,0)) fun o4=>Cnw L kk r1 a1 a2 a0 o4))
def Ai9 [An A Int](a0:Ad)(a1:List Ah)(a2:Int)(nx1:V4→A):A:=
 (gi a2 a1
 (bd (Ak4 L a0 ((a1.getD (Int.toNat a2) default).Name)) fun r1=>
 (cn (!r1.2)
 (lf 5)
 (nx1 r1))))
def A98 [An A Int](a0:Ad)(a1:List Ah)(a2:Int):A:=Ai9 L a0 a1 a2 (fun r1=>bd (Uw L a1 a2 r1 a0 L 0 0) fun o2=>Ai5 L a2 a1 r1 a0 o2)
def Am3(a0:Ad)(a1:List Ah)(a2:Int):Option Int:=A98 L a0 a1 a2
def X31:Gh:=E3 I 31 C6 Bs6 (cI .i64) (Am3 L) fun a0 a1 a2 r h=>hF Tryz.func31 (C:=O31 L) (oS _) L (fun kk=>eE (Ai9 L a0 a1 a2 (fun r1=>ho (Ccb L (Bwy L kk) a1 a2 r1 a0 L (0,0)) fun o2=>Cnv L kk a1 a2 r1 a0 o2))) h
def Au0 [An A Int](L:Nat)(a0:Int):A:=
 (cn (decide (a0 > 1000000000000))
 (lf 1000000000000)
 (cn (decide (a0 < (-1000000000000)))
 (lf (-1000000000000))
 (lf a0)))
def Aor(a0:Int):Option Int:=Au0 L a0
def X55:Gh:=E1 I 55 (cI .i64) (Aor L) fun a0 r h=>hF Tryz.func55 (oS []) L (fun kk=>eE (Au0 L a0)) h
def Ayp [An A Int](L:Nat)(a0:Int):A:=
 (cn (decide (a0 < 0))
 (lf (Cq (0 - a0)))
 (lf a0))
def Ath(a0:Int):Option Int:=Ayp L a0
def X56:Gh:=E1 I 56 (cI .i64) (Ath L) fun a0 r h=>hF Tryz.func56 (oS []) L (fun kk=>eE (Ayp L a0)) h
def Ayq [An A Int](a0:Int)(a1:Int):A:=
 (bd (Aor L a0) fun r1=>
 (bd (Aor L a1) fun r2=>
 (jp (.cn (r1 == 0)
 (.lf true)
 (.lf (r2 == 0))) (fun b3=>
 (cn b3
 (lf 0)
 (bd (Ath L r2) fun r4=>
 (bd (Ath L r1) fun r5=>
 (cn (!decide (r5=0))
 (cn (decide (r4≤(Cq (Int.tdiv 1000000000000 r5))))
 (lf (Cq (r1*r2)))
 (cn (!((decide (r1 < 0)) == (decide (r2 < 0))))
 (lf (-1000000000000))
 (lf 1000000000000)))
 fl))))))))
def Am0(a0:Int)(a1:Int):Option Int:=Ayq L a0 a1
def X33:Gh:=E2 I 33 (cI .i64) (cI .i64) (Am0 L) fun a0 a1 r h=>hF Tryz.func33 (oS [X55 L,X56 L]) L (fun kk=>eE (Ayq L a0 a1)) h
def c11:=CC Tryz.f11
def O11:Bi:=oL [X33 L]
def Byb(a0:List Ah)(v:Cp):St:=⟨[(0,lv (.t46 a0)),(2,I 0),(3,I v.1),(4,I v.2)],[],0⟩
def Age [An A B8](a0:List Ah)(rec:Int→Int→A)(Aj:Int)(Ai:Int):A:=
 (lw Ai a0
 (bd (Am0 L Aj (((a0.getD (Int.toNat Ai) default).Levels).length:Int)) fun r1=>
 (rec r1 (Cq (Ai+1))))
 (lf (0,Aj,Ai)))
def So(L:Nat)(a0:List Ah):Nat→Int→Int→Option B8
 |0,_,_=>none
 |n+1,Aj,Ai=>Age L a0 (So L a0 n) Aj Ai
theorem Cb3(a0:List Ah):LP (EV (O11 L) L 9 c11.w.u.l.u.l.l) [0,2,3,4] [] (Byb a0) [.exit 0] (fun n v=>So L a0 n v.1 v.2) K:=lE (fun _=>rfl) fun n v ih=>eE (Age L a0 (fun Aj Ai=>re (ih (Aj,Ai))) v.1 v.2)
def s7 [An A Int](L:Nat)(o2:Nat×Cp):A:=
 (sl o2.1 [(lf o2.2.1)])
def Bwq:Be:=(Ax 0 (Bk (EV (O11 L) L 9 c11.w.u.r) (C0 Tryz.prog (RS Tryz.f11) kk)))
theorem Cnn(a0:List Ah)(o2:Nat×Cp):kX [.exit 0] (Byb a0) (Bwq L kk) o2=ob (s7 L o2) (kQ I kk):=eE (s7 L o2)
def Ags [An A Int](L:Nat)(a0:List Ah)(nx1:A):A:=
 (cn ((a0.length:Int) == 0)
 (lf 0)
 nx1)
def A5l [An A Int](a0:List Ah):A:=Ags L a0 (bd (So L a0 L 1 0) fun o2=>s7 L o2)
def Ajm(a0:List Ah):Option Int:=A5l L a0
def X11:Gh:=E1 I 11 Bs6 (Ajm L) fun a0 r h=>hF Tryz.func11 (C:=O11 L) (oS _) L (fun kk=>eE (Ags L a0 (ho (Cb3 L (Bwq L kk) a0 L (1,0)) fun o2=>Cnn L kk a0 o2))) h
def c9:=CC Tryz.f9
def O9:Bi:=oL [X11 L,X30 L,X31 L]
def B8b(a1:List Ah)(a0:Ad)(v:Int×Int×Int):St:=⟨[(0,.any),(1,lv (.t46 a1)),(2,.loc 2 0),(4,I v.1),(5,I v.2.1),(6,I v.2.2)],[(2,(Aw a0))],0⟩
def Acb [An A (Nat×Int×Int×Int)](a1:List Ah)(a0:Ad)(rec:Int→Int→Int→A)(Ag:Int)(Aj:Int)(Ai:Int):A:=
 (cn (decide (Ai < (a1.length:Int)))
 (bd (Am3 L a0 a1 Ai) fun r2=>
 (cn (r2 != 0)
 (lf (0,r2,r2,Ai))
 (rec Ag r2 (Cq (Ai+1)))))
 (lf (1,Ag,Aj,Ai)))
def Py(L:Nat)(a1:List Ah)(a0:Ad):Nat→Int→Int→Int→Option (Nat×Int×Int×Int)
 |0,_,_,_=>none
 |n+1,Ag,Aj,Ai=>Acb L a1 a0 (Py L a1 a0 n) Ag Aj Ai
theorem Cl9(a1:List Ah)(a0:Ad):LP (EV (O9 L) L 9 c9.x.u.l.u.l.l) [0,1,2,4,5,6] [2] (B8b a1 a0) [.ret,.exit 0] (fun n v=>Py L a1 a0 n v.1 v.2.1 v.2.2) K:=lE (fun _=>rfl) fun n v ih=>eE (Acb L a1 a0 (fun Ag Aj Ai=>re (ih (Ag,Aj,Ai))) v.1 v.2.1 v.2.2)
def X3 [An A Int](a1:List Ah)(o3:Nat×Int×Int×Int):A:=
 (sl o3.1 [(lf o3.2.1),
 (bd (Ajm L a1) fun r4=>
 (cn (decide (r4 > 200))
 (lf 6)
 (lf 0)))])
def B7r:Be:=(Ax 0 (Bk (EV (O9 L) L 9 c9.x.u.r) (C0 Tryz.prog (RS Tryz.f9) kk)))
theorem Cqz(a1:List Ah)(a0:Ad)(o3:Nat×Int×Int×Int):kX [.ret,.exit 0] (B8b a1 a0) (B7r L kk) o3=ob (X3 L a1 o3) (kQ I kk):=eE (X3 L a1 o3)
def Adp [An A Int](a0:Ad)(a1:List Ah)(nx1:Int→A):A:=
 (bd (Aap L a0) fun r1=>
 (cn (r1 != 0)
 (lf r1)
 (cn ((a1.length:Int) == 0)
 (lf 7)
 (cn (decide ((a1.length:Int) > 6))
 (lf 6)
 (nx1 r1)))))
def A1d [An A Int](a0:Ad)(a1:List Ah):A:=Adp L a0 a1 (fun r1=>bd (Py L a1 a0 L 0 r1 0) fun o3=>X3 L a1 o3)
def Agw(a0:Ad)(a1:List Ah):Option Int:=A1d L a0 a1
def X9:Gh:=E2 I 9 C6 Bs6 (Agw L) fun a0 a1 r h=>hF Tryz.func9 (C:=O9 L) (oS _) L (fun kk=>eE (Adp L a0 a1 (fun r1=>ho (Cl9 L (B7r L kk) a1 a0 L (0,r1,0)) fun o3=>Cqz L kk a1 a0 o3))) h
end
end Go.Proofs.YtfencmicmnhglaaGreat.Ev
