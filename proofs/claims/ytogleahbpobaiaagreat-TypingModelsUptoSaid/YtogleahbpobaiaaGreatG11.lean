import Derived.Test.YtogleahbpobaiaaGreatG2
import Derived.Test.YtogleahbpobaiaaGreatG10
namespace Go.Proofs.YtogleahbpobaiaaGreat.Ev
open Go An
set_option maxRecDepth 100000
set_option maxHeartbeats 4000000
set_option linter.unusedVariables false
set_option linter.unusedSimpArgs false
set_option linter.unnecessarySimpa false
variable {A:Type} (L n:Nat) (kk:Ct) (K:Be) (k:Bx)
def As4 [An A Int](L:Nat)(a0:Int):A:=
 (cn (a0 == 25)
 (lf 15)
 (cn (a0 == 26)
 (lf 31)
 (lf 63)))
def S5(a0:Int):Option Int:=As4 L a0
def B2s:Gk:=E1 I 145 (cI .i64) (S5 L) fun a0 r h=>hF Tryz.func145 (oS []) L (fun kk=>eE (As4 L a0)) h
def Bvo(F:Ab→Bool→Option Int):Prop:=∀y0 y1 r,F y0 y1=some r→Ho Tryz.prog 66 [Bs.en y0,cB.en y1] I r
noncomputable def c66:EC:=CC Tryz.f66
def O66(Bu:Ab→Bool→Option Int)(L:Nat):Bk:=(orc 66 (A2 I Bs cB Bu) (oL [X47 L,B2q L,B2r L,Bph L,B2s L]))
theorem s66(Bu:Ab→Bool→Option Int)(B5d:Bvo Bu)(L:Nat):Ep Tryz.prog (O66 Bu L):=(Gx (a2 _ B5d) (oS [X47 L,B2q L,B2r L,Bph L,B2s L]))
def Bab(kk:Ct):Int→Prop:=fun x=>kk (I x)
def Bt6(a1:Bool)(a0:Ab)(v:Cw):St:=⟨[(0,.any),(1,B a1),(2,.loc 2 0),(4,I v.1),(5,.any),(6,.any),(7,.any),(8,.any),(9,.any),(10,I v.2)],[(2,C5 a0)],0⟩
def Aeu [An A Cx](Bu:Ab→Bool→Option Int)(L:Nat)(a1:Bool)(a0:Ab)(rec:Int→Int→A)(Ag:Int)(Am:Int):A:=
 (cn (decide (Am < (a0.Kids.length:Int)))
 (gq (0≤Am)
 (gq (Am < (a0.Kids.length:Int))
 (bd (Bu (Ab.cp (a0.Kids.getD (Int.toNat Am) default)) a1) fun r22=>
 (cn (r22 != 0)
 (lf (0,r22,Am))
 (rec Ag (Da (Am+1)))))))
 (lf (1,Ag,Am)))
def No(Bu:Ab→Bool→Option Int)(L:Nat)(a1:Bool)(a0:Ab):Nat→Int→Int→Option Cx
 |0,_,_=>none
 |n+1,Ag,Am=>Aeu Bu L a1 a0 (No Bu L a1 a0 n) Ag Am
theorem B7d(Bu:Ab→Bool→Option Int)(L:Nat)(K:Be)(a1:Bool)(a0:Ab):LP (EV (O66 Bu L) L 9 c66.x.x.u.l.u.l.l) [0,1,2,4,5,6,7,8,9,10] [2] (Bt6 a1 a0) [.ret,.exit 0] (fun n v=>No Bu L a1 a0 n v.1 v.2) K:=lE (fun _=>rfl) fun n v ih=>eE (Aeu Bu L a1 a0 (fun Ag Am=>re (ih (Ag,Am))) v.1 v.2)
def Bs9(a1:Bool)(b3:Bool)(a0:Ab):St:=⟨[(1,B a1),(2,.loc 2 0),(4,I 0),(7,B b3)],[(2,C5 a0)],0⟩
def Bsj(Bu:Ab→Bool→Option Int)(L:Nat)(kk:Ct):Be:=(C8 Tryz.prog (RS Tryz.f66) kk)
def Yv [An A Int](Bu:Ab→Bool→Option Int)(L:Nat)(o23:Nat×Cw):A:=
 (sl o23.1 [(lf o23.2.1),
 (lf 0)])
def Br7(Bu:Ab→Bool→Option Int)(L:Nat)(kk:Ct):Be:=(Ay 0 (Bl (EV (O66 Bu L) L 9 c66.x.x.u.r) (C8 Tryz.prog (RS Tryz.f66) kk)))
theorem Chl(Bu:Ab→Bool→Option Int)(L:Nat)(kk:Ct)(a1:Bool)(a0:Ab)(o23:Nat×Cw):kX [.ret,.exit 0] (Bt6 a1 a0) (Br7 Bu L kk) o23=ob (Yv Bu L o23) (Bab kk):=eE (Yv Bu L o23)
def Ae8 [An A Int](Bu:Ab→Bool→Option Int)(L:Nat)(a1:Bool)(b3:Bool)(a0:Ab)(nx1:A):A:=
 (jb (.cn b3
 (.bd (Py L a0.Name) fun r20=>
 (.lf (r20 != 0)))
 (.lf false)) (fun b19=>
 (cn b19
 (bd (Py L a0.Name) fun r21=>
 (lf r21))
 nx1)))
def Ak5 [An A Int](Bu:Ab→Bool→Option Int)(L:Nat)(a1:Bool)(b3:Bool)(a0:Ab):A:=Ae8 Bu L a1 b3 a0 (bd (No Bu L a1 a0 L 0 0) fun o23=>Yv Bu L o23)
theorem B35(Bu:Ab→Bool→Option Int)(L:Nat)(kk:Ct)(a1:Bool)(b3:Bool)(a0:Ab):EV (O66 Bu L) L 9 c66.x.x (Bs9 a1 b3 a0) (Bsj Bu L kk)=ob (Ak5 Bu L a1 b3 a0) (Bab kk):=eE (Ae8 Bu L a1 b3 a0 (ho (B7d Bu L (Br7 Bu L kk) a1 a0 L (0,0)) fun o23=>Chl Bu L kk a1 a0 o23))
def Bby(a1:Bool)(b3:Bool)(b5:Bool)(a0:Ab):St:=⟨[(1,B a1),(2,.loc 2 0),(4,I 0),(7,B b3),(8,B b5)],[(2,C5 a0)],0⟩
def Bal(Bu:Ab→Bool→Option Int)(L:Nat)(kk:Ct):Be:=(C8 Tryz.prog (RS Tryz.f66) kk)
def sx_R09_node_3 [An A Int](Bu:Ab→Bool→Option Int)(L:Nat)(a1:Bool)(b3:Bool)(b5:Bool)(a0:Ab)(nx4:Bool→Bool→Ab→A):A:=
 (cn (a0.Op == 1)
 (bd (Alc L a0.N) fun r12=>
 (cn (!r12)
 (lf 2)
 (cn (a0.Op == 2)
 (cn (a0.N != 0)
 (cn (a0.N != 1)
 (lf 2)
 (cn b5
 (cn (decide (a0.N < 0))
 (lf 2)
 (bd (S5 L a0.Op) fun r13=>
 (cn (decide (a0.N > r13))
 (lf 2)
 (nx4 a1 b3 a0))))
 (nx4 a1 b3 a0)))
 (cn b5
 (cn (decide (a0.N < 0))
 (lf 2)
 (bd (S5 L a0.Op) fun r14=>
 (cn (decide (a0.N > r14))
 (lf 2)
 (nx4 a1 b3 a0))))
 (nx4 a1 b3 a0)))
 (cn b5
 (cn (decide (a0.N < 0))
 (lf 2)
 (bd (S5 L a0.Op) fun r15=>
 (cn (decide (a0.N > r15))
 (lf 2)
 (nx4 a1 b3 a0))))
 (nx4 a1 b3 a0)))))
 (cn (a0.Op == 2)
 (cn (a0.N != 0)
 (cn (a0.N != 1)
 (lf 2)
 (cn b5
 (cn (decide (a0.N < 0))
 (lf 2)
 (bd (S5 L a0.Op) fun r16=>
 (cn (decide (a0.N > r16))
 (lf 2)
 (nx4 a1 b3 a0))))
 (nx4 a1 b3 a0)))
 (cn b5
 (cn (decide (a0.N < 0))
 (lf 2)
 (bd (S5 L a0.Op) fun r17=>
 (cn (decide (a0.N > r17))
 (lf 2)
 (nx4 a1 b3 a0))))
 (nx4 a1 b3 a0)))
 (cn b5
 (cn (decide (a0.N < 0))
 (lf 2)
 (bd (S5 L a0.Op) fun r18=>
 (cn (decide (a0.N > r18))
 (lf 2)
 (nx4 a1 b3 a0))))
 (nx4 a1 b3 a0))))
def Ak4 [An A Int](Bu:Ab→Bool→Option Int)(L:Nat)(a1:Bool)(b3:Bool)(b5:Bool)(a0:Ab):A:=sx_R09_node_3 Bu L a1 b3 b5 a0 (fun a1 b3 a0=>Ak5 Bu L a1 b3 a0)
theorem B4i(Bu:Ab→Bool→Option Int)(L:Nat)(kk:Ct)(a1:Bool)(b3:Bool)(b5:Bool)(a0:Ab)(z4:EC):EV (O66 Bu L) L 9 (EC.put (rl [2]) z4 c66.x.w.u) (Bby a1 b3 b5 a0) (Bal Bu L kk)= @sx_R09_node_3 Prop (anP (Bab kk)) Bu L a1 b3 b5 a0 (fun a1 b3 a0=>EV (O66 Bu L) L 9 z4 (Bs9 a1 b3 a0) (Bsj Bu L kk)):=by kernel_rfl
theorem B34(Bu:Ab→Bool→Option Int)(L:Nat)(kk:Ct)(a1:Bool)(b3:Bool)(b5:Bool)(a0:Ab):EV (O66 Bu L) L 9 c66.x.w.u (Bby a1 b3 b5 a0) (Bal Bu L kk)=ob (Ak4 Bu L a1 b3 b5 a0) (Bab kk):=Eq.trans (b:=EV (O66 Bu L) L 9 (EC.put (rl [2]) c66.x.x c66.x.w.u) (Bby a1 b3 b5 a0) (Bal Bu L kk)) (by kernel_rfl) ((B4i Bu L kk a1 b3 b5 a0 c66.x.x).trans (eE (sx_R09_node_3 Bu L a1 b3 b5 a0 (fun a1 b3 a0=>re (B35 Bu L kk a1 b3 a0)))))
def Bbx(a1:Bool)(r1:Int)(b2:Bool)(b3:Bool)(b5:Bool)(b8:Bool)(a0:Ab):St:=⟨[(1,B a1),(2,.loc 2 0),(4,I 0),(5,I r1),(6,B b2),(7,B b3),(8,B b5),(9,B b8)],[(2,C5 a0)],0⟩
def Bak(Bu:Ab→Bool→Option Int)(L:Nat)(kk:Ct):Be:=(C8 Tryz.prog (RS Tryz.f66) kk)
def sx_R09_node_2 [An A Int](Bu:Ab→Bool→Option Int)(L:Nat)(a1:Bool)(r1:Int)(b2:Bool)(b3:Bool)(b5:Bool)(b8:Bool)(a0:Ab)(nx3:Bool→Bool→Bool→Ab→A):A:=
 (jp (.cn (!b2)
 (.lf true)
 (.cn (!b3)
 (.lf (!(a0.Name.toList == (⟨#[]⟩:ByteArray).toList)))
 (.lf false))) (fun b9=>
 (jp (.cn b9
 (.lf true)
 (.cn (!b8)
 (.lf (a0.N != 0))
 (.lf false))) (fun b10=>
 (jp (.cn b10
 (.lf true)
 (.lf ((a0.Kids.length:Int) != r1))) (fun b11=>
 (cn b11
 (lf 1)
 (nx3 a1 b3 b5 a0))))))))
def Ak3 [An A Int](Bu:Ab→Bool→Option Int)(L:Nat)(a1:Bool)(r1:Int)(b2:Bool)(b3:Bool)(b5:Bool)(b8:Bool)(a0:Ab):A:=sx_R09_node_2 Bu L a1 r1 b2 b3 b5 b8 a0 (fun a1 b3 b5 a0=>Ak4 Bu L a1 b3 b5 a0)
theorem B4h(Bu:Ab→Bool→Option Int)(L:Nat)(kk:Ct)(a1:Bool)(r1:Int)(b2:Bool)(b3:Bool)(b5:Bool)(b8:Bool)(a0:Ab)(z3:EC):EV (O66 Bu L) L 9 (EC.put (rl [2]) z3 c66.x.w) (Bbx a1 r1 b2 b3 b5 b8 a0) (Bak Bu L kk)= @sx_R09_node_2 Prop (anP (Bab kk)) Bu L a1 r1 b2 b3 b5 b8 a0 (fun a1 b3 b5 a0=>EV (O66 Bu L) L 9 z3 (Bby a1 b3 b5 a0) (Bal Bu L kk)):=by kernel_rfl
theorem B33(Bu:Ab→Bool→Option Int)(L:Nat)(kk:Ct)(a1:Bool)(r1:Int)(b2:Bool)(b3:Bool)(b5:Bool)(b8:Bool)(a0:Ab):EV (O66 Bu L) L 9 c66.x.w (Bbx a1 r1 b2 b3 b5 b8 a0) (Bak Bu L kk)=ob (Ak3 Bu L a1 r1 b2 b3 b5 b8 a0) (Bab kk):=Eq.trans (b:=EV (O66 Bu L) L 9 (EC.put (rl [2]) c66.x.w.u c66.x.w) (Bbx a1 r1 b2 b3 b5 b8 a0) (Bak Bu L kk)) (by kernel_rfl) ((B4h Bu L kk a1 r1 b2 b3 b5 b8 a0 c66.x.w.u).trans (eE (sx_R09_node_2 Bu L a1 r1 b2 b3 b5 b8 a0 (fun a1 b3 b5 a0=>re (B34 Bu L kk a1 b3 b5 a0)))))
def Bbw(a1:Bool)(r1:Int)(b2:Bool)(b3:Bool)(a0:Ab):St:=⟨[(1,B a1),(2,.loc 2 0),(4,I 0),(5,I r1),(6,B b2),(7,B b3)],[(2,C5 a0)],0⟩
def Baj(Bu:Ab→Bool→Option Int)(L:Nat)(kk:Ct):Be:=(C8 Tryz.prog (RS Tryz.f66) kk)
def sx_R09_node_1 [An A Int](Bu:Ab→Bool→Option Int)(L:Nat)(a1:Bool)(r1:Int)(b2:Bool)(b3:Bool)(a0:Ab)(nx2:Bool→Int→Bool→Bool→Bool→Bool→Ab→A):A:=
 (jb (.cn a1
 (.bd (o0 L a0.Op) fun r6=>
 (.cn r6
 (.lf true)
 (.cn (a0.Op == 25)
 (.lf true)
 (.lf (a0.Op == 26)))))
 (.lf false)) (fun b5=>
 (jp (.cn (a0.Op == 1)
 (.lf true)
 (.lf (a0.Op == 2))) (fun b7=>
 (jp (.cn b7
 (.lf true)
 (.lf b5)) (fun b8=>
 (nx2 a1 r1 b2 b3 b5 b8 a0)))))))
def Ak2 [An A Int](Bu:Ab→Bool→Option Int)(L:Nat)(a1:Bool)(r1:Int)(b2:Bool)(b3:Bool)(a0:Ab):A:=sx_R09_node_1 Bu L a1 r1 b2 b3 a0 (fun a1 r1 b2 b3 b5 b8 a0=>Ak3 Bu L a1 r1 b2 b3 b5 b8 a0)
theorem B4g(Bu:Ab→Bool→Option Int)(L:Nat)(kk:Ct)(a1:Bool)(r1:Int)(b2:Bool)(b3:Bool)(a0:Ab)(z2:EC):EV (O66 Bu L) L 9 (EC.put (rl [4]) z2 c66.x) (Bbw a1 r1 b2 b3 a0) (Baj Bu L kk)= @sx_R09_node_1 Prop (anP (Bab kk)) Bu L a1 r1 b2 b3 a0 (fun a1 r1 b2 b3 b5 b8 a0=>EV (O66 Bu L) L 9 z2 (Bbx a1 r1 b2 b3 b5 b8 a0) (Bak Bu L kk)):=by kernel_rfl
theorem B32(Bu:Ab→Bool→Option Int)(L:Nat)(kk:Ct)(a1:Bool)(r1:Int)(b2:Bool)(b3:Bool)(a0:Ab):EV (O66 Bu L) L 9 c66.x (Bbw a1 r1 b2 b3 a0) (Baj Bu L kk)=ob (Ak2 Bu L a1 r1 b2 b3 a0) (Bab kk):=Eq.trans (b:=EV (O66 Bu L) L 9 (EC.put (rl [4]) c66.x.w c66.x) (Bbw a1 r1 b2 b3 a0) (Baj Bu L kk)) (by kernel_rfl) ((B4g Bu L kk a1 r1 b2 b3 a0 c66.x.w).trans (eE (sx_R09_node_1 Bu L a1 r1 b2 b3 a0 (fun a1 r1 b2 b3 b5 b8 a0=>re (B33 Bu L kk a1 r1 b2 b3 b5 b8 a0)))))
def sx_R09_node_0 [An A Int](Bu:Ab→Bool→Option Int)(L:Nat)(a0:Ab)(a1:Bool)(nx1:Bool→Int→Bool→Bool→Ab→A):A:=
 (bd (Ajf L a0.Op) fun r1=>
 (jp (.cn (decide (r1≥0))
 (.cn a1
 (.cn (a0.Op != 3)
 (.lf true)
 (.cn (!a1)
 (.lf (decide (a0.Op≤24)))
 (.lf false)))
 (.cn (!a1)
 (.lf (decide (a0.Op≤24)))
 (.lf false)))
 (.lf false)) (fun b2=>
 (jb (.cn (!a1)
 (.cn (a0.Op == 3)
 (.lf true)
 (.bd (o0 L a0.Op) fun r4=>
 (.lf r4)))
 (.lf false)) (fun b3=>
 (nx1 a1 r1 b2 b3 a0))))))
def A2h [An A Int](Bu:Ab→Bool→Option Int)(L:Nat)(a0:Ab)(a1:Bool):A:=sx_R09_node_0 Bu L a0 a1 (fun a1 r1 b2 b3 a0=>Ak2 Bu L a1 r1 b2 b3 a0)
theorem B4f(Bu:Ab→Bool→Option Int)(L:Nat)(kk:Ct)(a0:Ab)(a1:Bool)(z1:EC):EW (O66 Bu L) L 9 (RS Tryz.f66) (EC.put (rl [8]) z1 c66) [.agg (C5 a0),B a1] kk= @sx_R09_node_0 Prop (anP (Bab kk)) Bu L a0 a1 (fun a1 r1 b2 b3 a0=>EV (O66 Bu L) L 9 z1 (Bbw a1 r1 b2 b3 a0) (Baj Bu L kk)):=by kernel_rfl
def Asz(Bu:Ab→Bool→Option Int)(L:Nat)(a0:Ab)(a1:Bool):Option Int:=A2h Bu L a0 a1
theorem b66(Bu:Ab→Bool→Option Int)(B5d:Bvo Bu)(L:Nat):Bvo (Asz Bu L):=fun a0 a1 r h=>hF Tryz.func66 (s66 Bu B5d L) L (fun kk=>Eq.trans (b:=EW (O66 Bu L) L 9 (RS Tryz.f66) (EC.put (rl [8]) c66.x c66) [.agg (C5 a0),B a1] kk) (by kernel_rfl) ((B4f Bu L kk a0 a1 c66.x).trans (eE (sx_R09_node_0 Bu L a0 a1 (fun a1 r1 b2 b3 a0=>re (B32 Bu L kk a1 r1 b2 b3 a0)))))) h
def Qt:Nat→Ab→Bool→Option Int
 |0,_,_=>none
 |L+1,a0,a1=>Asz (Qt L) L a0 a1
theorem B4z(L:Nat):Bvo (Qt L):=by
 induction L with
 |zero=>exact fun _ _ _ h=>(by cases h)
 |succ L ih=>
  have i66:=ih
  exact b66 (Qt L) i66 L
def X66(L:Nat):Gk:=E2 I 66 Bs cB (Qt L) (B4z L)
def Apm [An A Int](a0:Ab)(a1:Bool):A:=
 (bd (P1 L (Ab.cp a0)) fun r1=>
 (cn (decide (r1 > 60))
 (lf 6)
 (bd (P0 L (Ab.cp a0)) fun r2=>
 (cn (decide (r2 > 12))
 (lf 11)
 (bd (Qt L (Ab.cp a0) a1) fun r3=>
 (lf r3))))))
def Ajg(a0:Ab)(a1:Bool):Option Int:=Apm L a0 a1
def X35:Gk:=E2 I 35 Bs cB (Ajg L) fun a0 a1 r h=>hF Tryz.func35 (oS [X64 L,X65 L,X66 L]) L (fun kk=>eE (Apm L a0 a1)) h
def Apl [An A Int](a0:Ab):A:=
 (bd (Ajg L (Ab.cp a0) false) fun r1=>
 (lf r1))
def Pz(a0:Ab):Option Int:=Apl L a0
def X18:Gk:=E1 I 18 Bs (Pz L) fun a0 r h=>hF Tryz.func18 (oS [X35 L]) L (fun kk=>eE (Apl L a0)) h
noncomputable def Cdk:EC:=CC Tryz.f191
def B2b:Bk:=oL [X18 L]
def Azj:Int→Prop:=fun x=>kk (I x)
def Aj1:Be:=(Ay 0 (Bl (EV (B2b L) L 9 Cdk.x.u.r) (C8 Tryz.prog (RS Tryz.f191) kk)))
def Ahn(a0:Ac)(a1:B9)(v:Cw):St:=⟨[(0,.any),(1,.any),(2,.loc 2 0),(3,.any),(4,I 0),(5,I v.1),(6,I v.2)],[(2,C7 a0),(3,Acu a1)],0⟩
def Vn [An A Cx](a0:Ac)(a1:B9)(rec:Int→Int→A)(Ag:Int)(Am:Int):A:=
 (jp (.cn (Ag == 0)
 (.lf (decide (Am < (a0.Args.length:Int))))
 (.lf false)) (fun b5=>
 (cn b5
 (gq (0≤Am)
 (gq (Am < (a0.Args.length:Int))
 (bd (Pz L (Ab.cp (a0.Args.getD (Int.toNat Am) default))) fun r6=>
 (rec r6 (Da (Am+1))))))
 (lf (0,Ag,Am)))))
def Dk(L:Nat)(a0:Ac)(a1:B9):Nat→Int→Int→Option Cx
 |0,_,_=>none
 |n+1,Ag,Am=>Vn L a0 a1 (Dk L a0 a1 n) Ag Am
theorem Aj3(a0:Ac)(a1:B9):LP (EV (B2b L) L 9 Cdk.x.u.l.u.l.l) [0,1,2,3,4,5,6] [2,3] (Ahn a0 a1) [.exit 0] (fun n v=>Dk L a0 a1 n v.1 v.2) K:=lE (fun _=>rfl) fun n v ih=>eE (Vn L a0 a1 (fun Ag Am=>re (ih (Ag,Am))) v.1 v.2)
def Vx [An A Int](L:Nat)(o10:Nat×Cw):A:=
 (sl o10.1 [(lf o10.2.1)])
def Bkg:Be:=(Aj1 L kk)
theorem B8x(a0:Ac)(a1:B9)(o10:Nat×Cw):kX [.exit 0] (Ahn a0 a1) (Bkg L kk) o10=ob (Vx L o10) (Azj kk):=eE (Vx L o10)
def Vy [An A Int](L:Nat)(o11:Nat×Cw):A:=
 (sl o11.1 [(lf o11.2.1)])
def Bkh:Be:=(Aj1 L kk)
theorem B8y(a0:Ac)(a1:B9)(o11:Nat×Cw):kX [.exit 0] (Ahn a0 a1) (Bkh L kk) o11=ob (Vy L o11) (Azj kk):=eE (Vy L o11)
def Vz [An A Int](L:Nat)(o12:Nat×Cw):A:=
 (sl o12.1 [(lf o12.2.1)])
def Bki:Be:=(Aj1 L kk)
theorem B8z(a0:Ac)(a1:B9)(o12:Nat×Cw):kX [.exit 0] (Ahn a0 a1) (Bki L kk) o12=ob (Vz L o12) (Azj kk):=eE (Vz L o12)
def V0 [An A Int](L:Nat)(o13:Nat×Cw):A:=
 (sl o13.1 [(lf o13.2.1)])
def Bkj:Be:=(Aj1 L kk)
theorem B80(a0:Ac)(a1:B9)(o13:Nat×Cw):kX [.exit 0] (Ahn a0 a1) (Bkj L kk) o13=ob (V0 L o13) (Azj kk):=eE (V0 L o13)
def V1 [An A Int](L:Nat)(o14:Nat×Cw):A:=
 (sl o14.1 [(lf o14.2.1)])
def Bkk:Be:=(Aj1 L kk)
theorem B81(a0:Ac)(a1:B9)(o14:Nat×Cw):kX [.exit 0] (Ahn a0 a1) (Bkk L kk) o14=ob (V1 L o14) (Azj kk):=eE (V1 L o14)
def V2 [An A Int](L:Nat)(o15:Nat×Cw):A:=
 (sl o15.1 [(lf o15.2.1)])
def Bkl:Be:=(Aj1 L kk)
theorem B82(a0:Ac)(a1:B9)(o15:Nat×Cw):kX [.exit 0] (Ahn a0 a1) (Bkl L kk) o15=ob (V2 L o15) (Azj kk):=eE (V2 L o15)
def V3 [An A Int](L:Nat)(o16:Nat×Cw):A:=
 (sl o16.1 [(lf o16.2.1)])
def Bkm:Be:=(Aj1 L kk)
theorem B83(a0:Ac)(a1:B9)(o16:Nat×Cw):kX [.exit 0] (Ahn a0 a1) (Bkm L kk) o16=ob (V3 L o16) (Azj kk):=eE (V3 L o16)
def V4 [An A Int](L:Nat)(o17:Nat×Cw):A:=
 (sl o17.1 [(lf o17.2.1)])
def Bkn:Be:=(Aj1 L kk)
theorem B84(a0:Ac)(a1:B9)(o17:Nat×Cw):kX [.exit 0] (Ahn a0 a1) (Bkn L kk) o17=ob (V4 L o17) (Azj kk):=eE (V4 L o17)
def Abm [An A Int](a0:Ac)(a1:B9)(nx1:A)(nx2:Int→A)(nx3:A)(nx4:Int→A)(nx5:A)(nx6:Int→A)(nx7:A)(nx8:A):A:=
 (cn a1.E
 (bd (Pz L (Ab.cp a0.E)) fun r1=>
 (jp (.cn (r1 == 0)
 (.lf a1.F)
 (.lf false)) (fun b2=>
 (cn b2
 (bd (Pz L (Ab.cp a0.F)) fun r3=>
 (jp (.cn (r3 == 0)
 (.lf (decide ((a0.Args.length:Int) > 6)))
 (.lf false)) (fun b4=>
 (cn b4
 nx1
 (nx2 r3)))))
 (jp (.cn (r1 == 0)
 (.lf (decide ((a0.Args.length:Int) > 6)))
 (.lf false)) (fun b7=>
 (cn b7
 nx3
 (nx4 r1))))))))
 (nq (cn a1.F
 (bd (Pz L (Ab.cp a0.F)) fun r8=>
 (jp (.cn (r8 == 0)
 (.lf (decide ((a0.Args.length:Int) > 6)))
 (.lf false)) (fun b9=>
 (cn b9
 nx5
 (nx6 r8)))))
 (nq (cn (decide ((a0.Args.length:Int) > 6))
 nx7
 nx8)))))
def Ayv [An A Int](a0:Ac)(a1:B9):A:=Abm L a0 a1 (bd (Dk L a0 a1 L 6 0) fun o10=>Vx L o10) (fun r3=>bd (Dk L a0 a1 L r3 0) fun o11=>Vy L o11) (bd (Dk L a0 a1 L 6 0) fun o12=>Vz L o12) (fun r1=>bd (Dk L a0 a1 L r1 0) fun o13=>V0 L o13) (bd (Dk L a0 a1 L 6 0) fun o14=>V1 L o14) (fun r8=>bd (Dk L a0 a1 L r8 0) fun o15=>V2 L o15) (bd (Dk L a0 a1 L 6 0) fun o16=>V3 L o16) (bd (Dk L a0 a1 L 0 0) fun o17=>V4 L o17)
def Ajh(a0:Ac)(a1:B9):Option Int:=Ayv L a0 a1
def Cb0:Gk:=E2 I 191 Hj Bck (Ajh L) fun a0 a1 r h=>hF Tryz.func191 (C:=B2b L) (oS _) L (fun kk=>eE (Abm L a0 a1 (ho (Aj3 L (Bkg L kk) a0 a1 L (6,0)) fun o10=>B8x L kk a0 a1 o10) (fun r3=>ho (Aj3 L (Bkh L kk) a0 a1 L (r3,0)) fun o11=>B8y L kk a0 a1 o11) (ho (Aj3 L (Bki L kk) a0 a1 L (6,0)) fun o12=>B8z L kk a0 a1 o12) (fun r1=>ho (Aj3 L (Bkj L kk) a0 a1 L (r1,0)) fun o13=>B80 L kk a0 a1 o13) (ho (Aj3 L (Bkk L kk) a0 a1 L (6,0)) fun o14=>B81 L kk a0 a1 o14) (fun r8=>ho (Aj3 L (Bkl L kk) a0 a1 L (r8,0)) fun o15=>B82 L kk a0 a1 o15) (ho (Aj3 L (Bkm L kk) a0 a1 L (6,0)) fun o16=>B83 L kk a0 a1 o16) (ho (Aj3 L (Bkn L kk) a0 a1 L (0,0)) fun o17=>B84 L kk a0 a1 o17))) h
def Awq [An A Int](a0:Ac):A:=
 (bd (Apd L a0.Op) fun r1=>
 (bd (Ag5 L (Ac.cp a0)) fun r2=>
 (cn (!r2)
 (lf 1)
 (jb (.cn r1.1.Name
 (.bd (Py L a0.Name) fun r4=>
 (.lf (r4 != 0)))
 (.lf false)) (fun b3=>
 (jb (.cn b3
 (.lf true)
 (.cn r1.1.Of
 (.bd (Py L a0.Of) fun r6=>
 (.lf (r6 != 0)))
 (.lf false))) (fun b5=>
 (cn b5
 (lf 3)
 (bd (Ajh L (Ac.cp a0) r1.1) fun r7=>
 (jp (.cn (r7 == 0)
 (.lf r1.1.Dist)
 (.lf false)) (fun b8=>
 (cn b8
 (bd (j7 L a0.Dist) fun r9=>
 (lf r9))
 (lf r7)))))))))))))
def Ald(a0:Ac):Option Int:=Awq L a0
def B2x:Gk:=E1 I 165 Hj (Ald L) fun a0 r h=>hF Tryz.func165 (oS [X47 L,B20 L,B21 L,Cbz L,Cb0 L]) L (fun kk=>eE (Awq L a0)) h
def Bif(F:(List Ac)→Option Int):Prop:=∀y0 r,F y0=some r→Ho Tryz.prog 119 [Acb.en y0] I r
noncomputable def Cc1:EC:=CC Tryz.f119
def B11(Dl:(List Ac)→Option Int)(L:Nat):Bk:=(orc 119 (A1 I Acb Dl) (oL [B2x L]))
theorem Ck6(Dl:(List Ac)→Option Int)(Bqi:Bif Dl)(L:Nat):Ep Tryz.prog (B11 Dl L):=(Gx (a1 _ Bqi) (oS [B2x L]))
def Ceh(kk:Ct):Int→Prop:=fun x=>kk (I x)
def Bl8(a0:List Ac)(v:Cw):St:=⟨[(0,.lst false (.t69 a0)),(2,I v.1),(3,I v.2)],[],0⟩
def Aev [An A Cx](Dl:(List Ac)→Option Int)(L:Nat)(a0:List Ac)(rec:Int→Int→A)(Ag:Int)(Am:Int):A:=
 (cn (decide (Am < (a0.length:Int)))
 (gq (0≤Am)
 (gq (Am < (a0.length:Int))
 (bd (Ald L (Ac.cp (a0.getD (Int.toNat Am) default))) fun r1=>
 (cn (r1 == 0)
 (gq (0≤Am)
 (gq (Am < (a0.length:Int))
 (bd (Dl ((a0.getD (Int.toNat Am) default).Body)) fun r2=>
 (cn (r2 == 0)
 (gq (0≤Am)
 (gq (Am < (a0.length:Int))
 (bd (Dl ((a0.getD (Int.toNat Am) default).Else)) fun r3=>
 (cn (r3 != 0)
 (lf (0,r3,Am))
 (rec Ag (Da (Am+1)))))))
 (cn (r2 != 0)
 (lf (0,r2,Am))
 (rec Ag (Da (Am+1))))))))
 (cn (r1 == 0)
 (gq (0≤Am)
 (gq (Am < (a0.length:Int))
 (bd (Dl ((a0.getD (Int.toNat Am) default).Else)) fun r4=>
 (cn (r4 != 0)
 (lf (0,r4,Am))
 (rec Ag (Da (Am+1)))))))
 (cn (r1 != 0)
 (lf (0,r1,Am))
 (rec Ag (Da (Am+1)))))))))
 (lf (1,Ag,Am)))
def Qy(Dl:(List Ac)→Option Int)(L:Nat)(a0:List Ac):Nat→Int→Int→Option Cx
 |0,_,_=>none
 |n+1,Ag,Am=>Aev Dl L a0 (Qy Dl L a0 n) Ag Am
theorem Bys(Dl:(List Ac)→Option Int)(L:Nat)(K:Be)(a0:List Ac):LP (EV (B11 Dl L) L 9 Cc1.u.l.u.l.l) [0,2,3] [] (Bl8 a0) [.ret,.exit 0] (fun n v=>Qy Dl L a0 n v.1 v.2) K:=lE (fun _=>rfl) fun n v ih=>eE (Aev Dl L a0 (fun Ag Am=>re (ih (Ag,Am))) v.1 v.2)
def Yw [An A Int](Dl:(List Ac)→Option Int)(L:Nat)(o5:Nat×Cw):A:=
 (sl o5.1 [(lf o5.2.1),
 (lf 0)])
def Bjm(Dl:(List Ac)→Option Int)(L:Nat)(kk:Ct):Be:=(Ay 0 (Bl (EV (B11 Dl L) L 9 Cc1.u.r) (C8 Tryz.prog (RS Tryz.f119) kk)))
theorem B73(Dl:(List Ac)→Option Int)(L:Nat)(kk:Ct)(a0:List Ac)(o5:Nat×Cw):kX [.ret,.exit 0] (Bl8 a0) (Bjm Dl L kk) o5=ob (Yw Dl L o5) (Ceh kk):=eE (Yw Dl L o5)
def Ae9 [An A Int](Dl:(List Ac)→Option Int)(L:Nat)(a0:List Ac)(nx1:A):A:=
 nx1
def A2i [An A Int](Dl:(List Ac)→Option Int)(L:Nat)(a0:List Ac):A:=Ae9 Dl L a0 (bd (Qy Dl L a0 L 0 0) fun o5=>Yw Dl L o5)
def As0(Dl:(List Ac)→Option Int)(L:Nat)(a0:List Ac):Option Int:=A2i Dl L a0
theorem Cje(Dl:(List Ac)→Option Int)(Bqi:Bif Dl)(L:Nat):Bif (As0 Dl L):=fun a0 r h=>hF Tryz.func119 (Ck6 Dl Bqi L) L (fun kk=>eE (Ae9 Dl L a0 (ho (Bys Dl L (Bjm Dl L kk) a0 L (0,0)) fun o5=>B73 Dl L kk a0 o5))) h
def S6:Nat→(List Ac)→Option Int
 |0,_=>none
 |L+1,a0=>As0 (S6 L) L a0
theorem Bw9(L:Nat):Bif (S6 L):=by
 induction L with
 |zero=>exact fun _ _ h=>(by cases h)
 |succ L ih=>
  have i119:=ih
  exact Cje (S6 L) i119 L
def Cbb(L:Nat):Gk:=E1 I 119 Acb (S6 L) (Bw9 L)
def Apn [An A Int](a0:List Ac):A:=
 (bd (Ii L a0) fun r1=>
 (cn (decide (r1 > 200))
 (lf 6)
 (bd (P2 L a0) fun r2=>
 (cn (decide (r2 > 12))
 (lf 11)
 (bd (S6 L a0) fun r3=>
 (lf r3))))))
def Afj(a0:List Ac):Option Int:=Apn L a0
def X53:Gk:=E1 I 53 Acb (Afj L) fun a0 r h=>hF Tryz.func53 (oS [X23 L,Cba L,Cbb L]) L (fun kk=>eE (Apn L a0)) h
noncomputable def Cdc:EC:=CC Tryz.f162
def B16:Bk:=oL [X46 L,X48 L,X50 L,X53 L,Bvp L]
def Ceo:Int→Prop:=fun x=>kk (I x)
def Bml(a0:Ai)(v:Tu7):St:=⟨[(0,.any),(1,.loc 1 0),(2,I v.1),(3,.lst true (.t9 v.2.1)),(4,.lst true (.t55 (a0.Params++a0.Locals))),(5,I v.2.2)],[(1,B3 a0)],0⟩
def Wv [An A (Nat×Tu7)](a0:Ai)(rec:Int→List ByteArray→Int→A)(Ak:Int)(Ag:List ByteArray)(Ah:Int):A:=
 (cn (decide (Ah < ((a0.Params++a0.Locals).length:Int)))
 (gq (0≤Ah)
 (gq (Ah < (((a0.Params++a0.Locals).length:Nat):Int))
 (bd (Nk L (((a0.Params++a0.Locals).getD (Int.toNat Ah) default).Name) Ag) fun r2=>
 (gq (0≤Ah)
 (gq (Ah < (((a0.Params++a0.Locals).length:Nat):Int))
 (bd (Ve L (((a0.Params++a0.Locals).getD (Int.toNat Ah) default).Type_)) fun r3=>
 (bd (Ck L r3 1) fun r4=>
 (bd (C3 L r2 r4) fun r5=>
 (cn (r5 != 0)
 (lf (0,r5,Ag,Ah))
 (gq (0≤Ah)
 (gq (Ah < (((a0.Params++a0.Locals).length:Nat):Int))
 (gq ((Ag.length+ [((a0.Params++a0.Locals).getD (Int.toNat Ah) default).Name].length)*16≤140737488355328)
 (gq (Ag.length+ [((a0.Params++a0.Locals).getD (Int.toNat Ah) default).Name].length≤maxLen)
 (rec Ak (Ag++ [((a0.Params++a0.Locals).getD (Int.toNat Ah) default).Name]) (Da (Ah+1))))))))))))))))
 (lf (1,Ak,Ag,Ah)))
def J7(L:Nat)(a0:Ai):Nat→Int→List ByteArray→Int→Option (Nat×Tu7)
 |0,_,_,_=>none
 |n+1,Ak,Ag,Ah=>Wv L a0 (J7 L a0 n) Ak Ag Ah
theorem By5(a0:Ai):LP (EV (B16 L) L 9 Cdc.x.l.u.l.l) [0,1,2,3,4,5] [1] (Bml a0) [.ret,.exit 0] (fun n v=>J7 L a0 n v.1 v.2.1 v.2.2) K:=lE (fun _=>rfl) fun n v ih=>eE (Wv L a0 (fun Ak Ag Ah=>re (ih (Ak,Ag,Ah))) v.1 v.2.1 v.2.2)
def Se [An A Int](a0:Ai)(o6:Nat×Tu7):A:=
 (sl o6.1 [(lf o6.2.1),
 (bd (Afj L a0.Body) fun r7=>
 (lf r7))])
def Bj7:Be:=(Ay 0 (Bl (EV (B16 L) L 9 Cdc.x.r) (C8 Tryz.prog (RS Tryz.f162) kk)))
theorem B8o(a0:Ai)(o6:Nat×Tu7):kX [.ret,.exit 0] (Bml a0) (Bj7 L kk) o6=ob (Se L a0 o6) (Ceo kk):=eE (Se L a0 o6)
def Xo [An A Int](L:Nat)(a0:Ai)(nx1:A):A:=
 (jp (.cn (decide ((a0.Params.length:Int) > 6))
 (.lf true)
 (.lf (decide ((Da ((a0.Params.length:Int)+(a0.Locals.length:Int))) > 16)))) (fun b1=>
 (cn b1
 (lf 6)
 (gq ((0+a0.Params.length)*24≤140737488355328)
 (gq (0+a0.Params.length≤maxLen)
 (gq ((a0.Params.length+a0.Locals.length)*24≤140737488355328)
 (gq (a0.Params.length+a0.Locals.length≤maxLen)
 nx1)))))))
def Asc [An A Int](a0:Ai):A:=Xo L a0 (bd (J7 L a0 L 0 [] 0) fun o6=>Se L a0 o6)
def Aej(a0:Ai):Option Int:=Asc L a0
def Cbk:Gk:=E1 I 162 w3 (Aej L) fun a0 r h=>hF Tryz.func162 (C:=B16 L) (oS _) L (fun kk=>eE (Xo L a0 (ho (By5 L (Bj7 L kk) a0 L (0,[],0)) fun o6=>B8o L kk a0 o6))) h
def K8 [An A Int](a0:Aa)(a1:Int)(a2:Int):A:=
 (cn (a1 == 0)
 (gq (0≤a2)
 (gq (a2 < (a0.Vars.length:Int))
 (bd (Ve L ((a0.Vars.getD (Int.toNat a2) default).Type_)) fun r1=>
 (bd (Ck L r1 1) fun r2=>
 (gq (0≤a2)
 (gq (a2 < (a0.Vars.length:Int))
 (gq (0≤a2)
 (gq (a2 < (a0.Vars.length:Int))
 (bd (Z6 L ((a0.Vars.getD (Int.toNat a2) default).Type_) ((a0.Vars.getD (Int.toNat a2) default).N)) fun r3=>
 (bd (Ck L r3 2) fun r4=>
 (bd (C3 L r2 r4) fun r5=>
 (lf r5))))))))))))
 (cn (a1 == 1)
 (gq (0≤a2)
 (gq (a2 < (a0.Resources.length:Int))
 (bd (Vf L a0 (⟨(a0.Resources.getD (Int.toNat a2) default).Name,(a0.Resources.getD (Int.toNat a2) default).Units,(a0.Resources.getD (Int.toNat a2) default).Shift,(a0.Resources.getD (Int.toNat a2) default).Cycle,(⟨((a0.Resources.getD (Int.toNat a2) default).Fault).Stream,(((a0.Resources.getD (Int.toNat a2) default).Fault).Up),(((a0.Resources.getD (Int.toNat a2) default).Fault).Down)⟩:F4)⟩:Af)) fun r6=>
 (lf r6))))
 (cn (a1 == 2)
 (gq (0≤a2)
 (gq (a2 < (a0.Stores.length:Int))
 (gq (0≤a2)
 (gq (a2 < (a0.Stores.length:Int))
 (bd (Dr L ((a0.Stores.getD (Int.toNat a2) default).Room) 1 1000) fun r7=>
 (bd (Ck L r7 2) fun r8=>
 (jp (.cn (decide ((a0.Stores.getD (Int.toNat a2) default).Policy≥1))
 (.lf (decide ((a0.Stores.getD (Int.toNat a2) default).Policy≤3)))
 (.lf false)) (fun b9=>
 (bd (Ck L b9 1) fun r10=>
 (bd (C3 L r8 r10) fun r11=>
 (lf r11)))))))))))
 (cn (a1 == 3)
 (gq (0≤a2)
 (gq (a2 < (a0.Belts.length:Int))
 (bd (Dr L ((a0.Belts.getD (Int.toNat a2) default).Length) 1 1000) fun r12=>
 (jb (.cn r12
 (.gq (0≤a2)
 (.gq (a2 < (a0.Belts.length:Int))
 (.bd (Dr L ((a0.Belts.getD (Int.toNat a2) default).Step) 1 1000) fun r14=>
 (.lf r14))))
 (.lf false)) (fun b13=>
 (bd (Ck L b13 2) fun r15=>
 (lf r15)))))))
 (cn (a1 == 9)
 (gq (0≤a2)
 (gq (a2 < (a0.Routines.length:Int))
 (bd (Aej L (a0.Routines.getD (Int.toNat a2) default)) fun r16=>
 (lf r16))))
 (lf 0))))))
def Dh(a0:Aa)(a1:Int)(a2:Int):Option Int:=K8 L a0 a1 a2
def Ca7:Gk:=E3 I 113 C0 (cI .i64) (cI .i64) (Dh L) fun a0 a1 a2 r h=>hF Tryz.func113 (oS [X46 L,X48 L,Bvp L,Bvq L,Bcb L,Cbj L,Cbk L]) L (fun kk=>eE (K8 L a0 a1 a2)) h
def Akg [An A Int](a0:Aa)(a1:ByteArray):A:=
 (bd (j8 L a0) fun r1=>
 (gq (0≤9)
 (gq (9 < (r1.length:Int))
 (bd (L2 L (r1.getD 9 default) a1) fun r2=>
 (lf r2)))))
def Qu(a0:Aa)(a1:ByteArray):Option Int:=Akg L a0 a1
def B2w:Gk:=E2 I 163 C0 cS (Qu L) fun a0 a1 r h=>hF Tryz.func163 (oS [Bm6 L,Bvs L]) L (fun kk=>eE (Akg L a0 a1)) h
noncomputable def Ccx:EC:=CC Tryz.f114
def B1x:Bk:=oL [X48 L,Bvq L,Bcb L,B2w L]
def Ced:Int→Prop:=fun x=>kk (I x)
def Bl4(a0:Aa)(r1:Int)(a1:Bh)(v:Cw):St:=⟨[(0,.any),(1,.any),(2,.any),(3,.loc 3 0),(4,I v.1),(5,.any),(6,.lst false (.t55 ((a0.Routines.getD (Int.toNat r1) default).Params))),(7,I v.2),(8,.any)],[(2,Ae a0),(3,Nn a1)],0⟩
def Aak [An A Cx](a0:Aa)(r1:Int)(a1:Bh)(rec:Int→Int→A)(Ak:Int)(Am:Int):A:=
 (cn (decide (Am < (((a0.Routines.getD (Int.toNat r1) default).Params).length:Int)))
 (gq (0≤Am)
 (gq (Am < ((((a0.Routines.getD (Int.toNat r1) default).Params).length:Nat):Int))
 (gq (0≤Am)
 (gq (Am < (a1.Args.length:Int))
 (bd (Z6 L ((((a0.Routines.getD (Int.toNat r1) default).Params).getD (Int.toNat Am) default).Type_) (a1.Args.getD (Int.toNat Am) default)) fun r2=>
 (cn (!r2)
 (lf (0,2,Am))
 (rec Ak (Da (Am+1)))))))))
 (lf (1,Ak,Am)))
def Oi(L:Nat)(a0:Aa)(r1:Int)(a1:Bh):Nat→Int→Int→Option Cx
 |0,_,_=>none
 |n+1,Ak,Am=>Aak L a0 r1 a1 (Oi L a0 r1 a1 n) Ak Am
theorem Byo(a0:Aa)(r1:Int)(a1:Bh):LP (EV (B1x L) L 9 Ccx.x.u.l.u.l.l) [0,1,2,3,4,5,6,7,8] [2,3] (Bl4 a0 r1 a1) [.ret,.exit 0] (fun n v=>Oi L a0 r1 a1 n v.1 v.2) K:=lE (fun _=>rfl) fun n v ih=>eE (Aak L a0 r1 a1 (fun Ak Am=>re (ih (Ak,Am))) v.1 v.2)
def V9 [An A Int](a1:Bh)(o3:Nat×Cw):A:=
 (sl o3.1 [(lf o3.2.1),
 (bd (Dr L a1.At 0 1000000000) fun r4=>
 (jb (.cn r4
 (.bd (Dr L a1.Every 0 1000000000) fun r6=>
 (.lf r6))
 (.lf false)) (fun b5=>
 (jb (.cn b5
 (.bd (Dr L a1.Until 0 1000000000) fun r8=>
 (.lf r8))
 (.lf false)) (fun b7=>
 (jp (.cn b7
 (.cn (a1.Every != 0)
 (.lf true)
 (.lf (a1.Until == 0)))
 (.lf false)) (fun b9=>
 (bd (Ck L b9 2) fun r10=>
 (lf r10)))))))))])
def Bji:Be:=(Ay 0 (Bl (EV (B1x L) L 9 Ccx.x.u.r) (C8 Tryz.prog (RS Tryz.f114) kk)))
theorem B7z(a0:Aa)(r1:Int)(a1:Bh)(o3:Nat×Cw):kX [.ret,.exit 0] (Bl4 a0 r1 a1) (Bji L kk) o3=ob (V9 L a1 o3) (Ced kk):=eE (V9 L a1 o3)
def Abw [An A Int](a0:Aa)(a1:Bh)(nx1:Int→A):A:=
 (bd (Qu L a0 a1.Routine) fun r1=>
 (cn (decide (r1 < 0))
 (lf 5)
 (gq (0≤r1)
 (gq (r1 < (a0.Routines.length:Int))
 (cn ((a1.Args.length:Int) != (((a0.Routines.getD (Int.toNat r1) default).Params).length:Int))
 (lf 8)
 (nx1 r1))))))
def Ayz [An A Int](a0:Aa)(a1:Bh):A:=Abw L a0 a1 (fun r1=>bd (Oi L a0 r1 a1 L 0 0) fun o3=>V9 L a1 o3)
def j9(a0:Aa)(a1:Bh):Option Int:=Ayz L a0 a1
def Ca8:Gk:=E2 I 114 C0 Au1 (j9 L) fun a0 a1 r h=>hF Tryz.func114 (C:=B1x L) (oS _) L (fun kk=>eE (Abw L a0 a1 (fun r1=>ho (Byo L (Bji L kk) a0 r1 a1 L (0,0)) fun o3=>B7z L kk a0 r1 a1 o3))) h
noncomputable def c67:EC:=CC Tryz.f67
def O67:Bk:=oL [Bm6 L,Bvs L]
def Ckf:ByteArray→Prop:=fun x=>kk (S x)
def Bt7(a1:ByteArray)(r1:List (List ByteArray))(a0:Aa)(v:ByteArray×Int):St:=⟨[(0,.any),(1,S a1),(2,.any),(4,S v.1),(5,.lst false (.t27 r1)),(6,.lst true (.t9 [(⟨#[118,97,114]⟩:ByteArray),(⟨#[114,101,115,111,117,114,99,101]⟩:ByteArray),(⟨#[115,116,111,114,101]⟩:ByteArray),(⟨#[98,101,108,116]⟩:ByteArray),(⟨#[113,117,101,117,101]⟩:ByteArray),(⟨#[115,116,114,101,97,109]⟩:ByteArray),(⟨#[116,97,108,108,121]⟩:ByteArray),(⟨#[108,101,118,101,108]⟩:ByteArray),(⟨#[99,111,117,110,116]⟩:ByteArray),(⟨#[114,111,117,116,105,110,101]⟩:ByteArray)])),(7,I v.2)],[(2,Ae a0)],0⟩
def Aew [An A (Nat×ByteArray×Int)](a1:ByteArray)(r1:List (List ByteArray))(a0:Aa)(rec:ByteArray→Int→A)(Ag:ByteArray)(Br:Int):A:=
 (cn (decide (Br < (r1.length:Int)))
 (gq (0≤Br)
 (gq (Br < (r1.length:Int))
 (bd (L2 L (r1.getD (Int.toNat Br) default) a1) fun r2=>
 (cn (decide (r2≥0))
 (gq (0≤Br)
 (gq (Br < (([(⟨#[118,97,114]⟩:ByteArray),(⟨#[114,101,115,111,117,114,99,101]⟩:ByteArray),(⟨#[115,116,111,114,101]⟩:ByteArray),(⟨#[98,101,108,116]⟩:ByteArray),(⟨#[113,117,101,117,101]⟩:ByteArray),(⟨#[115,116,114,101,97,109]⟩:ByteArray),(⟨#[116,97,108,108,121]⟩:ByteArray),(⟨#[108,101,118,101,108]⟩:ByteArray),(⟨#[99,111,117,110,116]⟩:ByteArray),(⟨#[114,111,117,116,105,110,101]⟩:ByteArray)].length:Nat):Int))
 (lf (0,(([(⟨#[118,97,114]⟩:ByteArray),(⟨#[114,101,115,111,117,114,99,101]⟩:ByteArray),(⟨#[115,116,111,114,101]⟩:ByteArray),(⟨#[98,101,108,116]⟩:ByteArray),(⟨#[113,117,101,117,101]⟩:ByteArray),(⟨#[115,116,114,101,97,109]⟩:ByteArray),(⟨#[116,97,108,108,121]⟩:ByteArray),(⟨#[108,101,118,101,108]⟩:ByteArray),(⟨#[99,111,117,110,116]⟩:ByteArray),(⟨#[114,111,117,116,105,110,101]⟩:ByteArray)].getD (Int.toNat Br) default),Br)))))
 (rec Ag (Da (Br+1)))))))
 (lf (1,Ag,Br)))
def Qz(L:Nat)(a1:ByteArray)(r1:List (List ByteArray))(a0:Aa):Nat→ByteArray→Int→Option (Nat×ByteArray×Int)
 |0,_,_=>none
 |n+1,Ag,Br=>Aew L a1 r1 a0 (Qz L a1 r1 a0 n) Ag Br
theorem B7e(a1:ByteArray)(r1:List (List ByteArray))(a0:Aa):LP (EV (O67 L) L 9 c67.w.u.l.u.l.l) [0,1,2,4,5,6,7] [2] (Bt7 a1 r1 a0) [.ret,.exit 0] (fun n v=>Qz L a1 r1 a0 n v.1 v.2) K:=lE (fun _=>rfl) fun n v ih=>eE (Aew L a1 r1 a0 (fun Ag Br=>re (ih (Ag,Br))) v.1 v.2)
def Yx [An A ByteArray](L:Nat)(o3:Nat×ByteArray×Int):A:=
 (sl o3.1 [(lf o3.2.1),
 (lf (⟨#[]⟩:ByteArray))])
def Br8:Be:=(Ay 0 (Bl (EV (O67 L) L 9 c67.w.u.r) (C8 Tryz.prog (RS Tryz.f67) kk)))
theorem Chm(a1:ByteArray)(r1:List (List ByteArray))(a0:Aa)(o3:Nat×ByteArray×Int):kX [.ret,.exit 0] (Bt7 a1 r1 a0) (Br8 L kk) o3=ob (Yx L o3) (Ckf kk):=eE (Yx L o3)
def Afa [An A ByteArray](a0:Aa)(a1:ByteArray)(nx1:(List (List ByteArray))→A):A:=
 (bd (j8 L a0) fun r1=>
 (nx1 r1))
def A2j [An A ByteArray](a0:Aa)(a1:ByteArray):A:=Afa L a0 a1 (fun r1=>bd (Qz L a1 r1 a0 L (⟨#[]⟩:ByteArray) 0) fun o3=>Yx L o3)
def Z7(a0:Aa)(a1:ByteArray):Option ByteArray:=A2j L a0 a1
def X67:Gk:=E2 S 67 C0 cS (Z7 L) fun a0 a1 r h=>hF Tryz.func67 (C:=O67 L) (oS _) L (fun kk=>eE (Afa L a0 a1 (fun r1=>ho (B7e L (Br8 L kk) a1 r1 a0 L ((⟨#[]⟩:ByteArray),0)) fun o3=>Chm L kk a1 r1 a0 o3))) h
noncomputable def Af8:EC:=CC Tryz.f164
def Arz:Bk:=oL [X46 L,X48 L,X67 L,Bcb L]
def A7x:Int→Prop:=fun x=>kk (I x)
def Bbp(a0:Aa)(a1:Au)(p801_1:ByteArray):St:=⟨[(2,.loc 2 0),(3,.loc 3 0),(4,I 0),(5,S p801_1)],[(2,Ae a0),(3,D3 a1)],0⟩
def Bac(L:Nat)(kk:Ct):Be:=(C8 Tryz.prog (RS Tryz.f164) kk)
def Rm [An A Int](a0:Aa)(a1:Au)(p801_1:ByteArray):A:=
 (bd (Ck L (!(p801_1.toList == (⟨#[]⟩:ByteArray).toList)) 1) fun r1=>
 (bd (Z7 L a0 a1.Name) fun r2=>
 (bd (Ck L (r2.toList == p801_1.toList) 5) fun r3=>
 (bd (C3 L r1 r3) fun r4=>
 (bd (Dr L a1.Coef (-1000) 1000) fun r5=>
 (jp (.cn r5
 (.lf (a1.Coef != 0))
 (.lf false)) (fun b6=>
 (bd (Ck L b6 2) fun r7=>
 (bd (C3 L r4 r7) fun r8=>
 (lf r8))))))))))
theorem Bi4(a0:Aa)(a1:Au)(p801_1:ByteArray):EV (Arz L) L 9 Af8.w.u (Bbp a0 a1 p801_1) (Bac L kk)=ob (Rm L a0 a1 p801_1) (A7x kk):=eE (Rm L a0 a1 p801_1)
def A15(a1:Au)(a0:Aa)(p803_3:Bool):St:=⟨[(2,.loc 2 0),(3,.loc 3 0),(4,I 0),(5,S (⟨#[]⟩:ByteArray)),(8,S a1.What),(13,B p803_3)],[(2,Ae a0),(3,D3 a1)],0⟩
def A1v(e0:EC):Be:=(Ay 0 (Bl (EV (Arz L) L 9 e0) (C8 Tryz.prog (RS Tryz.f164) kk)))
def sx_R11_term_3 [An A Int](L:Nat)(a1:Au)(a0:Aa)(p803_3:Bool)(nx1:Aa→Au→ByteArray→A):A:=
 (cn p803_3
 (nx1 a0 a1 (⟨#[115,116,111,114,101]⟩:ByteArray))
 (cn (a1.What.toList == (⟨#[99,111,117,110,116,101,100]⟩:ByteArray).toList)
 (nx1 a0 a1 (⟨#[99,111,117,110,116]⟩:ByteArray))
 (nx1 a0 a1 (⟨#[]⟩:ByteArray))))
def Ak7 [An A Int](a1:Au)(a0:Aa)(p803_3:Bool):A:=sx_R11_term_3 L a1 a0 p803_3 (fun a0 a1 p801_1=>Rm L a0 a1 p801_1)
theorem Bwx(a1:Au)(a0:Aa)(p803_3:Bool)(z1:EC):EV (Arz L) L 9 Af8.w.l.u.l.w.r (A15 a1 a0 p803_3) (A1v L kk (EC.put (rl [1]) z1 Af8.w.r))= @sx_R11_term_3 Prop (anP (A7x kk)) L a1 a0 p803_3 (fun a0 a1 p801_1=>EV (Arz L) L 9 z1 (Bbp a0 a1 p801_1) (Bac L kk)):=by kernel_rfl
theorem Bwk(a1:Au)(a0:Aa)(p803_3:Bool):EV (Arz L) L 9 Af8.w.l.u.l.w.r (A15 a1 a0 p803_3) (A1v L kk Af8.w.r)=ob (Ak7 L a1 a0 p803_3) (A7x kk):=Eq.trans (b:=EV (Arz L) L 9 Af8.w.l.u.l.w.r (A15 a1 a0 p803_3) (A1v L kk (EC.put (rl [1]) Af8.w.u Af8.w.r))) (by kernel_rfl) ((Bwx L kk a1 a0 p803_3 Af8.w.u).trans (eE (sx_R11_term_3 L a1 a0 p803_3 (fun a0 a1 p801_1=>re (Bi4 L kk a0 a1 p801_1)))))
def A14(a1:Au)(a0:Aa)(p802_3:Bool):St:=⟨[(2,.loc 2 0),(3,.loc 3 0),(4,I 0),(5,S (⟨#[]⟩:ByteArray)),(8,S a1.What),(9,B p802_3)],[(2,Ae a0),(3,D3 a1)],0⟩
def A1u(e0:EC):Be:=(Ay 0 (Bl (EV (Arz L) L 9 e0) (C8 Tryz.prog (RS Tryz.f164) kk)))
def sx_R11_term_2 [An A Int](L:Nat)(a1:Au)(a0:Aa)(p802_3:Bool)(nx1:Aa→Au→ByteArray→A)(nx3:Au→Aa→Bool→A):A:=
 (cn p802_3
 (nx1 a0 a1 (⟨#[114,111,117,116,105,110,101]⟩:ByteArray))
 (cn (a1.What.toList == (⟨#[115,116,111,114,101,100]⟩:ByteArray).toList)
 (nx3 a1 a0 (a1.What.toList == (⟨#[115,116,111,114,101,100]⟩:ByteArray).toList))
 (cn (a1.What.toList == (⟨#[101,110,116,101,114,101,100]⟩:ByteArray).toList)
 (nx3 a1 a0 (a1.What.toList == (⟨#[101,110,116,101,114,101,100]⟩:ByteArray).toList))
 (nx3 a1 a0 (a1.What.toList == (⟨#[108,101,102,116]⟩:ByteArray).toList)))))
def Ak6 [An A Int](a1:Au)(a0:Aa)(p802_3:Bool):A:=sx_R11_term_2 L a1 a0 p802_3 (fun a0 a1 p801_1=>Rm L a0 a1 p801_1) (fun a1 a0 p803_3=>Ak7 L a1 a0 p803_3)
theorem Bww(a1:Au)(a0:Aa)(p802_3:Bool)(z1 z3:EC):EV (Arz L) L 9 (EC.put (rl [3]) z3 Af8.w.l.u.l.u) (A14 a1 a0 p802_3) (A1u L kk (EC.put (rl [1]) z1 Af8.w.r))= @sx_R11_term_2 Prop (anP (A7x kk)) L a1 a0 p802_3 (fun a0 a1 p801_1=>EV (Arz L) L 9 z1 (Bbp a0 a1 p801_1) (Bac L kk)) (fun a1 a0 p803_3=>EV (Arz L) L 9 z3 (A15 a1 a0 p803_3) (A1v L kk (EC.put (rl [1]) z1 Af8.w.r))):=by kernel_rfl
theorem Bwj(a1:Au)(a0:Aa)(p802_3:Bool):EV (Arz L) L 9 Af8.w.l.u.l.u (A14 a1 a0 p802_3) (A1u L kk Af8.w.r)=ob (Ak6 L a1 a0 p802_3) (A7x kk):=Eq.trans (b:=EV (Arz L) L 9 (EC.put (rl [3]) Af8.w.l.u.l.w.r Af8.w.l.u.l.u) (A14 a1 a0 p802_3) (A1u L kk (EC.put (rl [1]) Af8.w.u Af8.w.r))) (by kernel_rfl) ((Bww L kk a1 a0 p802_3 Af8.w.u Af8.w.l.u.l.w.r).trans (eE (sx_R11_term_2 L a1 a0 p802_3 (fun a0 a1 p801_1=>re (Bi4 L kk a0 a1 p801_1)) (fun a1 a0 p803_3=>re (Bwk L kk a1 a0 p803_3)))))
def sx_R11_term_0 [An A Int](L:Nat)(a0:Aa)(a1:Au)(nx2:Au→Aa→Bool→A):A:=
 (cn (a1.What.toList == (⟨#[99,114,101,97,116,101,100]⟩:ByteArray).toList)
 (nx2 a1 a0 (a1.What.toList == (⟨#[99,114,101,97,116,101,100]⟩:ByteArray).toList))
 (cn (a1.What.toList == (⟨#[101,110,100,101,100]⟩:ByteArray).toList)
 (nx2 a1 a0 (a1.What.toList == (⟨#[101,110,100,101,100]⟩:ByteArray).toList))
 (nx2 a1 a0 (a1.What.toList == (⟨#[105,110,115,105,100,101]⟩:ByteArray).toList))))
def A2n [An A Int](a0:Aa)(a1:Au):A:=sx_R11_term_0 L a0 a1 (fun a1 a0 p802_3=>Ak6 L a1 a0 p802_3)
theorem Bwv(a0:Aa)(a1:Au)(z2:EC):EW (Arz L) L 9 (RS Tryz.f164) (EC.put (rl [4,1,2,1,2]) z2 Af8) [.agg (Ae a0),.agg (D3 a1)] kk= @sx_R11_term_0 Prop (anP (A7x kk)) L a0 a1 (fun a1 a0 p802_3=>EV (Arz L) L 9 z2 (A14 a1 a0 p802_3) (A1u L kk Af8.w.r)):=by kernel_rfl
def Ah0(a0:Aa)(a1:Au):Option Int:=A2n L a0 a1
def Cbl:Gk:=E2 I 164 C0 Ay8 (Ah0 L) fun a0 a1 r h=>hF Tryz.func164 (C:=Arz L) (oS _) L (fun kk=>Eq.trans (b:=EW (Arz L) L 9 (RS Tryz.f164) (EC.put (rl [4,1,2,1,2]) Af8.w.l.u.l.u Af8) [.agg (Ae a0),.agg (D3 a1)] kk) (by kernel_rfl) ((Bwv L kk a0 a1 Af8.w.l.u.l.u).trans (eE (sx_R11_term_0 L a0 a1 (fun a1 a0 p802_3=>re (Bwj L kk a1 a0 p802_3)))))) h
noncomputable def Ccy:EC:=CC Tryz.f115
def B1y:Bk:=oL [X46 L,X48 L,X50 L,Bph L,Cbl L]
def Cee:Int→Prop:=fun x=>kk (I x)
def Bl5(a0:Aa)(a1:Ax)(v:Cw):St:=⟨[(0,.any),(1,.any),(2,.any),(3,.loc 3 0),(4,.loc 4 0),(6,I 0),(7,I v.1),(8,I v.2)],[(3,Ae a0),(4,C6 a1)],0⟩
def Ahj [An A Cx](a0:Aa)(a1:Ax)(rec:Int→Int→A)(Ag:Int)(Am:Int):A:=
 (cn (decide (Am < (a1.Terms.length:Int)))
 (gq (0≤Am)
 (gq (Am < (a1.Terms.length:Int))
 (bd (Ah0 L a0 (a1.Terms.getD (Int.toNat Am) default)) fun r6=>
 (bd (C3 L Ag r6) fun r7=>
 (rec r7 (Da (Am+1)))))))
 (lf (0,Ag,Am)))
def Tg(L:Nat)(a0:Aa)(a1:Ax):Nat→Int→Int→Option Cx
 |0,_,_=>none
 |n+1,Ag,Am=>Ahj L a0 a1 (Tg L a0 a1 n) Ag Am
theorem Byp(a0:Aa)(a1:Ax):LP (EV (B1y L) L 9 Ccy.x.l.u.l.l) [0,1,2,3,4,6,7,8] [3,4] (Bl5 a0 a1) [.exit 0] (fun n v=>Tg L a0 a1 n v.1 v.2) K:=lE (fun _=>rfl) fun n v ih=>eE (Ahj L a0 a1 (fun Ag Am=>re (ih (Ag,Am))) v.1 v.2)
def Aa4 [An A Int](a1:Ax)(o8:Nat×Cw):A:=
 (sl o8.1 [(bd (Alc L a1.Total) fun r9=>
 (bd (Ck L r9 2) fun r10=>
 (bd (C3 L o8.2.1 r10) fun r11=>
 (lf r11))))])
def Bjj:Be:=(Ay 0 (Bl (EV (B1y L) L 9 Ccy.x.r) (C8 Tryz.prog (RS Tryz.f115) kk)))
theorem B70(a0:Aa)(a1:Ax)(o8:Nat×Cw):kX [.exit 0] (Bl5 a0 a1) (Bjj L kk) o8=ob (Aa4 L a1 o8) (Cee kk):=eE (Aa4 L a1 o8)
def Ahr [An A Int](a0:Aa)(a1:Ax)(a2:List ByteArray)(nx1:Int→A):A:=
 (bd (Nk L a1.Name a2) fun r1=>
 (bd (Ck L (decide ((a1.Terms.length:Int) > 0)) 7) fun r2=>
 (bd (C3 L r1 r2) fun r3=>
 (bd (Ck L (decide ((a1.Terms.length:Int)≤8)) 6) fun r4=>
 (bd (C3 L r3 r4) fun r5=>
 (nx1 r5))))))
def A61 [An A Int](a0:Aa)(a1:Ax)(a2:List ByteArray):A:=Ahr L a0 a1 a2 (fun r5=>bd (Tg L a0 a1 L r5 0) fun o8=>Aa4 L a1 o8)
def Ale(a0:Aa)(a1:Ax)(a2:List ByteArray):Option Int:=A61 L a0 a1 a2
def Ca9:Gk:=E3 I 115 C0 Bge cl9 (Ale L) fun a0 a1 a2 r h=>hF Tryz.func115 (C:=B1y L) (oS _) L (fun kk=>eE (Ahr L a0 a1 a2 (fun r5=>ho (Byp L (Bjj L kk) a0 a1 L (r5,0)) fun o8=>B70 L kk a0 a1 o8))) h
end Go.Proofs.YtogleahbpobaiaaGreat.Ev
