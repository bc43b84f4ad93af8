import Derived.Test.YtofcpkmnhmnfcaaGreatRG2
import Derived.Test.YtofcpkmnhmnfcaaGreatRG10
namespace Go.Proofs.YtofcpkmnhmnfcaaGreatR.Ev
open Go An
set_option maxRecDepth 100000
set_option maxHeartbeats 4000000
set_option linter.unusedVariables false
set_option linter.unusedSimpArgs false
set_option linter.unnecessarySimpa false
noncomputable section
variable {A:Type} (L n:Nat) (kk:Cz) (K:Ba) (k:Bq)
def Bl8(F:Ab→Bool→Option Int):Prop:=∀y0 y1 r,F y0 y1=some r→Ho Tryz.prog 258 [Bj.en y0,cB.en y1] I r
def Am2:=CC Tryz.f258
def Aq0(Bg:Ab→Bool→Option Int)(L:Nat):Bd:=(orc 258 (A2 I Bj cB Bg) (oL [X50 L,X81 L,Cax L,Cay L,Caz L]))
theorem Cr4(Bg:Ab→Bool→Option Int)(Bvv:Bl8 Bg)(L:Nat):Dv Tryz.prog (Aq0 Bg L):=(D4 (a2 _ Bvv) (oS [X50 L,X81 L,Cax L,Cay L,Caz L]))
def Bri(a1:Bool)(a0:Ab)(v:Cs):St:=⟨[(0,.any),(1,B a1),(2,.loc 2 0),(4,I v.1),(5,.any),(6,.any),(7,.any),(8,.any),(9,.any),(10,I v.2)],[(2,(F3 a0))],0⟩
def Ah4 [An A Cm](Bg:Ab→Bool→Option Int)(L:Nat)(a1:Bool)(a0:Ab)(rec:Int→Int→A)(Ai:Int)(Ak:Int):A:=
 (lw Ak a0.Kids
 (bd (Bg (Ab.cp (a0.Kids.getD (Int.toNat Ak) default)) a1) fun r22=>
 (cn (r22 != 0)
 (lf (0,r22,Ak))
 (rec Ai (B7 (Ak+1)))))
 (lf (1,Ai,Ak)))
def O3(Bg:Ab→Bool→Option Int)(L:Nat)(a1:Bool)(a0:Ab):Nat→Int→Int→Option Cm
 |0,_,_=>none
 |n+1,Ai,Ak=>Ah4 Bg L a1 a0 (O3 Bg L a1 a0 n) Ai Ak
theorem B5z(Bg:Ab→Bool→Option Int)(L:Nat)(K:Ba)(a1:Bool)(a0:Ab):LP (EV (Aq0 Bg L) L 9 Am2.x.x.u.l.u.l.l) [0,1,2,4,5,6,7,8,9,10] [2] (Bri a1 a0) [.ret,.exit 0] (fun n v=>O3 Bg L a1 a0 n v.1 v.2) K:=lE (fun _=>rfl) fun n v ih=>eE (Ah4 Bg L a1 a0 (fun Ai Ak=>re (ih (Ai,Ak))) v.1 v.2)
def Bp1(a1:Bool)(b3:Bool)(a0:Ab):St:=⟨[(1,B a1),(2,.loc 2 0),(4,I 0),(7,B b3)],[(2,(F3 a0))],0⟩
def Bpn(Bg:Ab→Bool→Option Int)(L:Nat)(kk:Cz):Ba:=(Cp Tryz.prog (RS Tryz.f258) kk)
def Aav [An A Int](Bg:Ab→Bool→Option Int)(L:Nat)(o23:Nat×Cs):A:=
 (sl o23.1 [(lf o23.2.1),
 (lf 0)])
def Bom(Bg:Ab→Bool→Option Int)(L:Nat)(kk:Cz):Ba:=(Av 0 (Be (EV (Aq0 Bg L) L 9 Am2.x.x.u.r) (Cp Tryz.prog (RS Tryz.f258) kk)))
theorem Cf6(Bg:Ab→Bool→Option Int)(L:Nat)(kk:Cz)(a1:Bool)(a0:Ab)(o23:Nat×Cs):kX [.ret,.exit 0] (Bri a1 a0) (Bom Bg L kk) o23=ob (Aav Bg L o23) (kQ I kk):=eE (Aav Bg L o23)
def Aip [An A Int](Bg:Ab→Bool→Option Int)(L:Nat)(a1:Bool)(b3:Bool)(a0:Ab)(nx1:A):A:=
 (jb (.cn b3
 (.bd (R8 L a0.Name) fun r20=>
 (.lf (r20 != 0)))
 (.lf false)) (fun b19=>
 (cn b19
 (bd (R8 L a0.Name) fun r21=>
 (lf r21))
 nx1)))
def Ao1 [An A Int](Bg:Ab→Bool→Option Int)(L:Nat)(a1:Bool)(b3:Bool)(a0:Ab):A:=Aip Bg L a1 b3 a0 (bd (O3 Bg L a1 a0 L 0 0) fun o23=>Aav Bg L o23)
theorem B13(Bg:Ab→Bool→Option Int)(L:Nat)(kk:Cz)(a1:Bool)(b3:Bool)(a0:Ab):EV (Aq0 Bg L) L 9 Am2.x.x (Bp1 a1 b3 a0) (Bpn Bg L kk)=ob (Ao1 Bg L a1 b3 a0) (kQ I kk):=eE (Aip Bg L a1 b3 a0 (ho (B5z Bg L (Bom Bg L kk) a1 a0 L (0,0)) fun o23=>Cf6 Bg L kk a1 a0 o23))
def A6g(a1:Bool)(b3:Bool)(b5:Bool)(a0:Ab):St:=⟨[(1,B a1),(2,.loc 2 0),(4,I 0),(7,B b3),(8,B b5)],[(2,(F3 a0))],0⟩
def A5x(Bg:Ab→Bool→Option Int)(L:Nat)(kk:Cz):Ba:=(Cp Tryz.prog (RS Tryz.f258) kk)
def sx_R09_node_3 [An A Int](Bg:Ab→Bool→Option Int)(L:Nat)(a1:Bool)(b3:Bool)(b5:Bool)(a0:Ab)(nx4:Bool→Bool→Ab→A):A:=
 (cn (a0.Op == 1)
 (bd (Ao8 L a0.N) fun r12=>
 (cn (!r12)
 (lf 2)
 (cn (a0.Op == 2)
 (cn (a0.N != 0)
 (cn (a0.N != 1)
 (lf 2)
 (cn b5
 (cn (decide (a0.N < 0))
 (lf 2)
 (bd (Vq L a0.Op) fun r13=>
 (cn (decide (a0.N > r13))
 (lf 2)
 (nx4 a1 b3 a0))))
 (nx4 a1 b3 a0)))
 (cn b5
 (cn (decide (a0.N < 0))
 (lf 2)
 (bd (Vq L a0.Op) fun r14=>
 (cn (decide (a0.N > r14))
 (lf 2)
 (nx4 a1 b3 a0))))
 (nx4 a1 b3 a0)))
 (cn b5
 (cn (decide (a0.N < 0))
 (lf 2)
 (bd (Vq L a0.Op) fun r15=>
 (cn (decide (a0.N > r15))
 (lf 2)
 (nx4 a1 b3 a0))))
 (nx4 a1 b3 a0)))))
 (cn (a0.Op == 2)
 (cn (a0.N != 0)
 (cn (a0.N != 1)
 (lf 2)
 (cn b5
 (cn (decide (a0.N < 0))
 (lf 2)
 (bd (Vq L a0.Op) fun r16=>
 (cn (decide (a0.N > r16))
 (lf 2)
 (nx4 a1 b3 a0))))
 (nx4 a1 b3 a0)))
 (cn b5
 (cn (decide (a0.N < 0))
 (lf 2)
 (bd (Vq L a0.Op) fun r17=>
 (cn (decide (a0.N > r17))
 (lf 2)
 (nx4 a1 b3 a0))))
 (nx4 a1 b3 a0)))
 (cn b5
 (cn (decide (a0.N < 0))
 (lf 2)
 (bd (Vq L a0.Op) fun r18=>
 (cn (decide (a0.N > r18))
 (lf 2)
 (nx4 a1 b3 a0))))
 (nx4 a1 b3 a0))))
def Ao0 [An A Int](Bg:Ab→Bool→Option Int)(L:Nat)(a1:Bool)(b3:Bool)(b5:Bool)(a0:Ab):A:=sx_R09_node_3 Bg L a1 b3 b5 a0 (fun a1 b3 a0=>Ao1 Bg L a1 b3 a0)
theorem B2t(Bg:Ab→Bool→Option Int)(L:Nat)(kk:Cz)(a1:Bool)(b3:Bool)(b5:Bool)(a0:Ab)(z4:EC):EV (Aq0 Bg L) L 9 (EC.put (rl [2]) z4 Am2.x.w.u) (A6g a1 b3 b5 a0) (A5x Bg L kk)= @sx_R09_node_3 Prop (anP (kQ I kk)) Bg L a1 b3 b5 a0 (fun a1 b3 a0=>EV (Aq0 Bg L) L 9 z4 (Bp1 a1 b3 a0) (Bpn Bg L kk)):=by kernel_rfl
theorem B12(Bg:Ab→Bool→Option Int)(L:Nat)(kk:Cz)(a1:Bool)(b3:Bool)(b5:Bool)(a0:Ab):EV (Aq0 Bg L) L 9 Am2.x.w.u (A6g a1 b3 b5 a0) (A5x Bg L kk)=ob (Ao0 Bg L a1 b3 b5 a0) (kQ I kk):=Eq.trans (b:=EV (Aq0 Bg L) L 9 (EC.put (rl [2]) Am2.x.x Am2.x.w.u) (A6g a1 b3 b5 a0) (A5x Bg L kk)) (by kernel_rfl) ((B2t Bg L kk a1 b3 b5 a0 Am2.x.x).trans (eE (sx_R09_node_3 Bg L a1 b3 b5 a0 (fun a1 b3 a0=>re (B13 Bg L kk a1 b3 a0)))))
def A6f(a1:Bool)(r1:Int)(b2:Bool)(b3:Bool)(b5:Bool)(b8:Bool)(a0:Ab):St:=⟨[(1,B a1),(2,.loc 2 0),(4,I 0),(5,I r1),(6,B b2),(7,B b3),(8,B b5),(9,B b8)],[(2,(F3 a0))],0⟩
def A5w(Bg:Ab→Bool→Option Int)(L:Nat)(kk:Cz):Ba:=(Cp Tryz.prog (RS Tryz.f258) kk)
def sx_R09_node_2 [An A Int](Bg:Ab→Bool→Option Int)(L:Nat)(a1:Bool)(r1:Int)(b2:Bool)(b3:Bool)(b5:Bool)(b8:Bool)(a0:Ab)(nx3:Bool→Bool→Bool→Ab→A):A:=
 (jp (.cn (!b2)
 (.lf true)
 (.cn (!b3)
 (.lf (!(a0.Name.toList == (⟨#[]⟩:ByteArray).toList)))
 (.lf false))) (fun b9=>
 (jp (.cn b9
 (.lf true)
 (.cn (!b8)
 (.lf (a0.N != 0))
 (.lf false))) (fun b10=>
 (jp (.cn b10
 (.lf true)
 (.lf ((a0.Kids.length:Int) != r1))) (fun b11=>
 (cn b11
 (lf 1)
 (nx3 a1 b3 b5 a0))))))))
def Aoz [An A Int](Bg:Ab→Bool→Option Int)(L:Nat)(a1:Bool)(r1:Int)(b2:Bool)(b3:Bool)(b5:Bool)(b8:Bool)(a0:Ab):A:=sx_R09_node_2 Bg L a1 r1 b2 b3 b5 b8 a0 (fun a1 b3 b5 a0=>Ao0 Bg L a1 b3 b5 a0)
theorem B2s(Bg:Ab→Bool→Option Int)(L:Nat)(kk:Cz)(a1:Bool)(r1:Int)(b2:Bool)(b3:Bool)(b5:Bool)(b8:Bool)(a0:Ab)(z3:EC):EV (Aq0 Bg L) L 9 (EC.put (rl [2]) z3 Am2.x.w) (A6f a1 r1 b2 b3 b5 b8 a0) (A5w Bg L kk)= @sx_R09_node_2 Prop (anP (kQ I kk)) Bg L a1 r1 b2 b3 b5 b8 a0 (fun a1 b3 b5 a0=>EV (Aq0 Bg L) L 9 z3 (A6g a1 b3 b5 a0) (A5x Bg L kk)):=by kernel_rfl
theorem B11(Bg:Ab→Bool→Option Int)(L:Nat)(kk:Cz)(a1:Bool)(r1:Int)(b2:Bool)(b3:Bool)(b5:Bool)(b8:Bool)(a0:Ab):EV (Aq0 Bg L) L 9 Am2.x.w (A6f a1 r1 b2 b3 b5 b8 a0) (A5w Bg L kk)=ob (Aoz Bg L a1 r1 b2 b3 b5 b8 a0) (kQ I kk):=Eq.trans (b:=EV (Aq0 Bg L) L 9 (EC.put (rl [2]) Am2.x.w.u Am2.x.w) (A6f a1 r1 b2 b3 b5 b8 a0) (A5w Bg L kk)) (by kernel_rfl) ((B2s Bg L kk a1 r1 b2 b3 b5 b8 a0 Am2.x.w.u).trans (eE (sx_R09_node_2 Bg L a1 r1 b2 b3 b5 b8 a0 (fun a1 b3 b5 a0=>re (B12 Bg L kk a1 b3 b5 a0)))))
def A6e(a1:Bool)(r1:Int)(b2:Bool)(b3:Bool)(a0:Ab):St:=⟨[(1,B a1),(2,.loc 2 0),(4,I 0),(5,I r1),(6,B b2),(7,B b3)],[(2,(F3 a0))],0⟩
def A5v(Bg:Ab→Bool→Option Int)(L:Nat)(kk:Cz):Ba:=(Cp Tryz.prog (RS Tryz.f258) kk)
def sx_R09_node_1 [An A Int](Bg:Ab→Bool→Option Int)(L:Nat)(a1:Bool)(r1:Int)(b2:Bool)(b3:Bool)(a0:Ab)(nx2:Bool→Int→Bool→Bool→Bool→Bool→Ab→A):A:=
 (jb (.cn a1
 (.bd (Ac5 L a0.Op) fun r6=>
 (.cn r6
 (.lf true)
 (.cn (a0.Op == 25)
 (.lf true)
 (.lf (a0.Op == 26)))))
 (.lf false)) (fun b5=>
 (jp (.cn (a0.Op == 1)
 (.lf true)
 (.lf (a0.Op == 2))) (fun b7=>
 (jp (.cn b7
 (.lf true)
 (.lf b5)) (fun b8=>
 (nx2 a1 r1 b2 b3 b5 b8 a0)))))))
def Aoy [An A Int](Bg:Ab→Bool→Option Int)(L:Nat)(a1:Bool)(r1:Int)(b2:Bool)(b3:Bool)(a0:Ab):A:=sx_R09_node_1 Bg L a1 r1 b2 b3 a0 (fun a1 r1 b2 b3 b5 b8 a0=>Aoz Bg L a1 r1 b2 b3 b5 b8 a0)
theorem B2r(Bg:Ab→Bool→Option Int)(L:Nat)(kk:Cz)(a1:Bool)(r1:Int)(b2:Bool)(b3:Bool)(a0:Ab)(z2:EC):EV (Aq0 Bg L) L 9 (EC.put (rl [4]) z2 Am2.x) (A6e a1 r1 b2 b3 a0) (A5v Bg L kk)= @sx_R09_node_1 Prop (anP (kQ I kk)) Bg L a1 r1 b2 b3 a0 (fun a1 r1 b2 b3 b5 b8 a0=>EV (Aq0 Bg L) L 9 z2 (A6f a1 r1 b2 b3 b5 b8 a0) (A5w Bg L kk)):=by kernel_rfl
theorem B10(Bg:Ab→Bool→Option Int)(L:Nat)(kk:Cz)(a1:Bool)(r1:Int)(b2:Bool)(b3:Bool)(a0:Ab):EV (Aq0 Bg L) L 9 Am2.x (A6e a1 r1 b2 b3 a0) (A5v Bg L kk)=ob (Aoy Bg L a1 r1 b2 b3 a0) (kQ I kk):=Eq.trans (b:=EV (Aq0 Bg L) L 9 (EC.put (rl [4]) Am2.x.w Am2.x) (A6e a1 r1 b2 b3 a0) (A5v Bg L kk)) (by kernel_rfl) ((B2r Bg L kk a1 r1 b2 b3 a0 Am2.x.w).trans (eE (sx_R09_node_1 Bg L a1 r1 b2 b3 a0 (fun a1 r1 b2 b3 b5 b8 a0=>re (B11 Bg L kk a1 r1 b2 b3 b5 b8 a0)))))
def sx_R09_node_0 [An A Int](Bg:Ab→Bool→Option Int)(L:Nat)(a0:Ab)(a1:Bool)(nx1:Bool→Int→Bool→Bool→Ab→A):A:=
 (bd (Am8 L a0.Op) fun r1=>
 (jp (.cn (decide (r1≥0))
 (.cn a1
 (.cn (a0.Op != 3)
 (.lf true)
 (.cn (!a1)
 (.lf (decide (a0.Op≤24)))
 (.lf false)))
 (.cn (!a1)
 (.lf (decide (a0.Op≤24)))
 (.lf false)))
 (.lf false)) (fun b2=>
 (jb (.cn (!a1)
 (.cn (a0.Op == 3)
 (.lf true)
 (.bd (Ac5 L a0.Op) fun r4=>
 (.lf r4)))
 (.lf false)) (fun b3=>
 (nx1 a1 r1 b2 b3 a0))))))
def A6r [An A Int](Bg:Ab→Bool→Option Int)(L:Nat)(a0:Ab)(a1:Bool):A:=sx_R09_node_0 Bg L a0 a1 (fun a1 r1 b2 b3 a0=>Aoy Bg L a1 r1 b2 b3 a0)
theorem B2q(Bg:Ab→Bool→Option Int)(L:Nat)(kk:Cz)(a0:Ab)(a1:Bool)(z1:EC):EW (Aq0 Bg L) L 9 (RS Tryz.f258) (EC.put (rl [8]) z1 Am2) [.agg (F3 a0),B a1] kk= @sx_R09_node_0 Prop (anP (kQ I kk)) Bg L a0 a1 (fun a1 r1 b2 b3 a0=>EV (Aq0 Bg L) L 9 z1 (A6e a1 r1 b2 b3 a0) (A5v Bg L kk)):=by kernel_rfl
def Awm(Bg:Ab→Bool→Option Int)(L:Nat)(a0:Ab)(a1:Bool):Option Int:=A6r Bg L a0 a1
theorem Cqe(Bg:Ab→Bool→Option Int)(Bvv:Bl8 Bg)(L:Nat):Bl8 (Awm Bg L):=fun a0 a1 r h=>hF Tryz.func258 (Cr4 Bg Bvv L) L (fun kk=>Eq.trans (b:=EW (Aq0 Bg L) L 9 (RS Tryz.f258) (EC.put (rl [8]) Am2.x Am2) [.agg (F3 a0),B a1] kk) (by kernel_rfl) ((B2q Bg L kk a0 a1 Am2.x).trans (eE (sx_R09_node_0 Bg L a0 a1 (fun a1 r1 b2 b3 a0=>re (B10 Bg L kk a1 r1 b2 b3 a0)))))) h
def Te:Nat→Ab→Bool→Option Int
 |0,_,_=>none
 |L+1,a0,a1=>Awm (Te L) L a0 a1
theorem B3d(L:Nat):Bl8 (Te L):=by
 induction L with
 |zero=>exact fun _ _ _ h=>(by cases h)
 |succ L ih=>
  have i258:=ih
  exact Cqe (Te L) i258 L
def Cja(L:Nat):F7:=E2 I 258 Bj cB (Te L) (B3d L)
def Atj [An A Int](a0:Ab)(a1:Bool):A:=
 (bd (Gp L (Ab.cp a0)) fun r1=>
 (cn (decide (r1 > 60))
 (lf 6)
 (bd (Se L (Ab.cp a0)) fun r2=>
 (cn (decide (r2 > 12))
 (lf 11)
 (bd (Te L (Ab.cp a0) a1) fun r3=>
 (lf r3))))))
def Am9(a0:Ab)(a1:Bool):Option Int:=Atj L a0 a1
def Ci8:F7:=E2 I 253 Bj cB (Am9 L) fun a0 a1 r h=>hF Tryz.func253 (oS [X41 L,Ci9 L,Cja L]) L (fun kk=>eE (Atj L a0 a1)) h
def Ati [An A Int](a0:Ab):A:=
 (bd (Am9 L (Ab.cp a0) false) fun r1=>
 (lf r1))
def R9(a0:Ab):Option Int:=Ati L a0
def Cat:F7:=E1 I 250 Bj (R9 L) fun a0 r h=>hF Tryz.func250 (oS [Ci8 L]) L (fun kk=>eE (Ati L a0)) h
def Cky:=CC Tryz.f235
def B9v:Bd:=oL [Cat L]
def Ans:Ba:=(Av 0 (Be (EV (B9v L) L 9 Cky.x.u.r) (Cp Tryz.prog (RS Tryz.f235) kk)))
def Alk(a0:Ad)(a1:Cr)(v:Cs):St:=⟨[(0,.any),(1,.any),(2,.loc 2 0),(3,.any),(4,I 0),(5,I v.1),(6,I v.2)],[(2,(Ej a0)),(3,(Ark a1))],0⟩
def Za [An A Cm](a0:Ad)(a1:Cr)(rec:Int→Int→A)(Ai:Int)(Ak:Int):A:=
 (jp (.cn (Ai == 0)
 (.lf (decide (Ak < (a0.Args.length:Int))))
 (.lf false)) (fun b5=>
 (cn b5
 (gi Ak a0.Args
 (bd (R9 L (Ab.cp (a0.Args.getD (Int.toNat Ak) default))) fun r6=>
 (rec r6 (B7 (Ak+1)))))
 (lf (0,Ai,Ak)))))
def Dj(L:Nat)(a0:Ad)(a1:Cr):Nat→Int→Int→Option Cm
 |0,_,_=>none
 |n+1,Ai,Ak=>Za L a0 a1 (Dj L a0 a1 n) Ai Ak
theorem Anu(a0:Ad)(a1:Cr):LP (EV (B9v L) L 9 Cky.x.u.l.u.l.l) [0,1,2,3,4,5,6] [2,3] (Alk a0 a1) [.exit 0] (fun n v=>Dj L a0 a1 n v.1 v.2) K:=lE (fun _=>rfl) fun n v ih=>eE (Za L a0 a1 (fun Ai Ak=>re (ih (Ai,Ak))) v.1 v.2)
def Zl [An A Int](L:Nat)(o10:Nat×Cs):A:=
 (sl o10.1 [(lf o10.2.1)])
def Bn8:Ba:=(Ans L kk)
theorem Cfs(a0:Ad)(a1:Cr)(o10:Nat×Cs):kX [.exit 0] (Alk a0 a1) (Bn8 L kk) o10=ob (Zl L o10) (kQ I kk):=eE (Zl L o10)
def Zm [An A Int](L:Nat)(o11:Nat×Cs):A:=
 (sl o11.1 [(lf o11.2.1)])
def Bn9:Ba:=(Ans L kk)
theorem Cft(a0:Ad)(a1:Cr)(o11:Nat×Cs):kX [.exit 0] (Alk a0 a1) (Bn9 L kk) o11=ob (Zm L o11) (kQ I kk):=eE (Zm L o11)
def Zn [An A Int](L:Nat)(o12:Nat×Cs):A:=
 (sl o12.1 [(lf o12.2.1)])
def Boa:Ba:=(Ans L kk)
theorem Cfu(a0:Ad)(a1:Cr)(o12:Nat×Cs):kX [.exit 0] (Alk a0 a1) (Boa L kk) o12=ob (Zn L o12) (kQ I kk):=eE (Zn L o12)
def Zo [An A Int](L:Nat)(o13:Nat×Cs):A:=
 (sl o13.1 [(lf o13.2.1)])
def Bob:Ba:=(Ans L kk)
theorem Cfv(a0:Ad)(a1:Cr)(o13:Nat×Cs):kX [.exit 0] (Alk a0 a1) (Bob L kk) o13=ob (Zo L o13) (kQ I kk):=eE (Zo L o13)
def Zp [An A Int](L:Nat)(o14:Nat×Cs):A:=
 (sl o14.1 [(lf o14.2.1)])
def Boc:Ba:=(Ans L kk)
theorem Cfw(a0:Ad)(a1:Cr)(o14:Nat×Cs):kX [.exit 0] (Alk a0 a1) (Boc L kk) o14=ob (Zp L o14) (kQ I kk):=eE (Zp L o14)
def Zq [An A Int](L:Nat)(o15:Nat×Cs):A:=
 (sl o15.1 [(lf o15.2.1)])
def Bod:Ba:=(Ans L kk)
theorem Cfx(a0:Ad)(a1:Cr)(o15:Nat×Cs):kX [.exit 0] (Alk a0 a1) (Bod L kk) o15=ob (Zq L o15) (kQ I kk):=eE (Zq L o15)
def Zr [An A Int](L:Nat)(o16:Nat×Cs):A:=
 (sl o16.1 [(lf o16.2.1)])
def Boe:Ba:=(Ans L kk)
theorem Cfy(a0:Ad)(a1:Cr)(o16:Nat×Cs):kX [.exit 0] (Alk a0 a1) (Boe L kk) o16=ob (Zr L o16) (kQ I kk):=eE (Zr L o16)
def Zs [An A Int](L:Nat)(o17:Nat×Cs):A:=
 (sl o17.1 [(lf o17.2.1)])
def Bof:Ba:=(Ans L kk)
theorem Cfz(a0:Ad)(a1:Cr)(o17:Nat×Cs):kX [.exit 0] (Alk a0 a1) (Bof L kk) o17=ob (Zs L o17) (kQ I kk):=eE (Zs L o17)
def Ae9 [An A Int](a0:Ad)(a1:Cr)(nx1:A)(nx2:Int→A)(nx3:A)(nx4:Int→A)(nx5:A)(nx6:Int→A)(nx7:A)(nx8:A):A:=
 (cn a1.E
 (bd (R9 L (Ab.cp a0.E)) fun r1=>
 (jp (.cn (r1 == 0)
 (.lf a1.F)
 (.lf false)) (fun b2=>
 (cn b2
 (bd (R9 L (Ab.cp a0.F)) fun r3=>
 (jp (.cn (r3 == 0)
 (.lf (decide ((a0.Args.length:Int) > 6)))
 (.lf false)) (fun b4=>
 (cn b4
 nx1
 (nx2 r3)))))
 (jp (.cn (r1 == 0)
 (.lf (decide ((a0.Args.length:Int) > 6)))
 (.lf false)) (fun b7=>
 (cn b7
 nx3
 (nx4 r1))))))))
 (nq (cn a1.F
 (bd (R9 L (Ab.cp a0.F)) fun r8=>
 (jp (.cn (r8 == 0)
 (.lf (decide ((a0.Args.length:Int) > 6)))
 (.lf false)) (fun b9=>
 (cn b9
 nx5
 (nx6 r8)))))
 (nq (cn (decide ((a0.Args.length:Int) > 6))
 nx7
 nx8)))))
def A2s [An A Int](a0:Ad)(a1:Cr):A:=Ae9 L a0 a1 (bd (Dj L a0 a1 L 6 0) fun o10=>Zl L o10) (fun r3=>bd (Dj L a0 a1 L r3 0) fun o11=>Zm L o11) (bd (Dj L a0 a1 L 6 0) fun o12=>Zn L o12) (fun r1=>bd (Dj L a0 a1 L r1 0) fun o13=>Zo L o13) (bd (Dj L a0 a1 L 6 0) fun o14=>Zp L o14) (fun r8=>bd (Dj L a0 a1 L r8 0) fun o15=>Zq L o15) (bd (Dj L a0 a1 L 6 0) fun o16=>Zr L o16) (bd (Dj L a0 a1 L 0 0) fun o17=>Zs L o17)
def Ana(a0:Ad)(a1:Cr):Option Int:=A2s L a0 a1
def Ci0:F7:=E2 I 235 H7 Bfu (Ana L) fun a0 a1 r h=>hF Tryz.func235 (C:=B9v L) (oS _) L (fun kk=>eE (Ae9 L a0 a1 (ho (Anu L (Bn8 L kk) a0 a1 L (6,0)) fun o10=>Cfs L kk a0 a1 o10) (fun r3=>ho (Anu L (Bn9 L kk) a0 a1 L (r3,0)) fun o11=>Cft L kk a0 a1 o11) (ho (Anu L (Boa L kk) a0 a1 L (6,0)) fun o12=>Cfu L kk a0 a1 o12) (fun r1=>ho (Anu L (Bob L kk) a0 a1 L (r1,0)) fun o13=>Cfv L kk a0 a1 o13) (ho (Anu L (Boc L kk) a0 a1 L (6,0)) fun o14=>Cfw L kk a0 a1 o14) (fun r8=>ho (Anu L (Bod L kk) a0 a1 L (r8,0)) fun o15=>Cfx L kk a0 a1 o15) (ho (Anu L (Boe L kk) a0 a1 L (6,0)) fun o16=>Cfy L kk a0 a1 o16) (ho (Anu L (Bof L kk) a0 a1 L (0,0)) fun o17=>Cfz L kk a0 a1 o17))) h
def A0j [An A Int](a0:Ad):A:=
 (bd (As9 L a0.Op) fun r1=>
 (bd (Akw L (Ad.cp a0)) fun r2=>
 (cn (!r2)
 (lf 1)
 (jb (.cn r1.1.Name
 (.bd (R8 L a0.Name) fun r4=>
 (.lf (r4 != 0)))
 (.lf false)) (fun b3=>
 (jb (.cn b3
 (.lf true)
 (.cn r1.1.Of
 (.bd (R8 L a0.Of) fun r6=>
 (.lf (r6 != 0)))
 (.lf false))) (fun b5=>
 (cn b5
 (lf 3)
 (bd (Ana L (Ad.cp a0) (⟨r1.1.Name,r1.1.Of,r1.1.E,r1.1.F,r1.1.Args,r1.1.Dist,r1.1.Flag,r1.1.Body,r1.1.Else⟩:Cr)) fun r7=>
 (jp (.cn (r7 == 0)
 (.lf r1.1.Dist)
 (.lf false)) (fun b8=>
 (cn b8
 (bd (Acj L a0.Dist) fun r9=>
 (lf r9))
 (lf r7)))))))))))))
def Ao9(a0:Ad):Option Int:=A0j L a0
def Cal:F7:=E1 I 207 H7 (Ao9 L) fun a0 r h=>hF Tryz.func207 (oS [X81 L,Cao L,Cap L,Ciz L,Ci0 L]) L (fun kk=>eE (A0j L a0)) h
def Bl4(F:(List Ad)→Option Int):Prop:=∀y0 r,F y0=some r→Ho Tryz.prog 159 [Xe.en y0] I r
def Ckb:=CC Tryz.f159
def B9h(Dz:(List Ad)→Option Int)(L:Nat):Bd:=(orc 159 (A1 I Xe Dz) (oL [Cal L]))
theorem Cr0(Dz:(List Ad)→Option Int)(Bvq:Bl4 Dz)(L:Nat):Dv Tryz.prog (B9h Dz L):=(D4 (a1 _ Bvq) (oS [Cal L]))
def Bqo(a0:List Ad)(v:Cs):St:=⟨[(0,lv (.t96 a0)),(2,I v.1),(3,I v.2)],[],0⟩
def Ah7 [An A Cm](Dz:(List Ad)→Option Int)(L:Nat)(a0:List Ad)(rec:Int→Int→A)(Ai:Int)(Ak:Int):A:=
 (lw Ak a0
 (bd (Ao9 L (Ad.cp (a0.getD (Int.toNat Ak) default))) fun r1=>
 (cn (r1 == 0)
 (gi Ak a0
 (bd (Dz ((a0.getD (Int.toNat Ak) default).Body)) fun r2=>
 (cn (r2 == 0)
 (gi Ak a0
 (bd (Dz ((a0.getD (Int.toNat Ak) default).Else)) fun r3=>
 (cn (r3 != 0)
 (lf (0,r3,Ak))
 (rec Ai (B7 (Ak+1))))))
 (cn (r2 != 0)
 (lf (0,r2,Ak))
 (rec Ai (B7 (Ak+1)))))))
 (cn (r1 == 0)
 (gi Ak a0
 (bd (Dz ((a0.getD (Int.toNat Ak) default).Else)) fun r4=>
 (cn (r4 != 0)
 (lf (0,r4,Ak))
 (rec Ai (B7 (Ak+1))))))
 (cn (r1 != 0)
 (lf (0,r1,Ak))
 (rec Ai (B7 (Ak+1)))))))
 (lf (1,Ai,Ak)))
def Tl(Dz:(List Ad)→Option Int)(L:Nat)(a0:List Ad):Nat→Int→Int→Option Cm
 |0,_,_=>none
 |n+1,Ai,Ak=>Ah7 Dz L a0 (Tl Dz L a0 n) Ai Ak
theorem B45(Dz:(List Ad)→Option Int)(L:Nat)(K:Ba)(a0:List Ad):LP (EV (B9h Dz L) L 9 Ckb.u.l.u.l.l) [0,2,3] [] (Bqo a0) [.ret,.exit 0] (fun n v=>Tl Dz L a0 n v.1 v.2) K:=lE (fun _=>rfl) fun n v ih=>eE (Ah7 Dz L a0 (fun Ai Ak=>re (ih (Ai,Ak))) v.1 v.2)
def Aaz [An A Int](Dz:(List Ad)→Option Int)(L:Nat)(o5:Nat×Cs):A:=
 (sl o5.1 [(lf o5.2.1),
 (lf 0)])
def Bna(Dz:(List Ad)→Option Int)(L:Nat)(kk:Cz):Ba:=(Av 0 (Be (EV (B9h Dz L) L 9 Ckb.u.r) (Cp Tryz.prog (RS Tryz.f159) kk)))
theorem Ceu(Dz:(List Ad)→Option Int)(L:Nat)(kk:Cz)(a0:List Ad)(o5:Nat×Cs):kX [.ret,.exit 0] (Bqo a0) (Bna Dz L kk) o5=ob (Aaz Dz L o5) (kQ I kk):=eE (Aaz Dz L o5)
def A6u [An A Int](Dz:(List Ad)→Option Int)(L:Nat)(a0:List Ad):A:=(bd (Tl Dz L a0 L 0 0) fun o5=>Aaz Dz L o5)
def Awp(Dz:(List Ad)→Option Int)(L:Nat)(a0:List Ad):Option Int:=A6u Dz L a0
theorem Cp8(Dz:(List Ad)→Option Int)(Bvq:Bl4 Dz)(L:Nat):Bl4 (Awp Dz L):=fun a0 r h=>hF Tryz.func159 (Cr0 Dz Bvq L) L (fun kk=>eE ((ho (B45 Dz L (Bna Dz L kk) a0 L (0,0)) fun o5=>Ceu Dz L kk a0 o5))) h
def Vr:Nat→(List Ad)→Option Int
 |0,_=>none
 |L+1,a0=>Awp (Vr L) L a0
theorem B29(L:Nat):Bl4 (Vr L):=by
 induction L with
 |zero=>exact fun _ _ h=>(by cases h)
 |succ L ih=>
  have i159:=ih
  exact Cp8 (Vr L) i159 L
def Cib(L:Nat):F7:=E1 I 159 Xe (Vr L) (B29 L)
def Atk [An A Int](a0:List Ad):A:=
 (bd (Sf L a0) fun r1=>
 (cn (decide (r1 > 200))
 (lf 6)
 (bd (Sg L a0) fun r2=>
 (cn (decide (r2 > 12))
 (lf 11)
 (bd (Vr L a0) fun r3=>
 (lf r3))))))
def Ai1(a0:List Ad):Option Int:=Atk L a0
def X87:F7:=E1 I 87 Xe (Ai1 L) fun a0 r h=>hF Tryz.func87 (oS [Ch9 L,Cia L,Cib L]) L (fun kk=>eE (Atk L a0)) h
def Ckn:=CC Tryz.f204
def B9n:Bd:=oL [X80 L,X82 L,X84 L,X87 L,B0v L]
def Bq2(a0:Am)(v:Tu9):St:=⟨[(0,.any),(1,.loc 1 0),(2,I v.1),(3,.lst true (.t9 v.2.1)),(4,.lst true (.t127 (a0.Params++a0.Locals))),(5,I v.2.2)],[(1,(Cv a0))],0⟩
def j7 [An A (Nat×Tu9)](a0:Am)(rec:Int→List ByteArray→Int→A)(Al:Int)(Ai:List ByteArray)(Aj:Int):A:=
 (lw Aj (a0.Params++a0.Locals)
 (bd (Oz L (((a0.Params++a0.Locals).getD (Int.toNat Aj) default).Name) Ai) fun r2=>
 (gi Aj (a0.Params++a0.Locals)
 (bd (Yy L (((a0.Params++a0.Locals).getD (Int.toNat Aj) default).Type_)) fun r3=>
 (bd (B8 L r3 1) fun r4=>
 (bd (C8 L r2 r4) fun r5=>
 (cn (r5 != 0)
 (lf (0,r5,Ai,Aj))
 (gi Aj (a0.Params++a0.Locals)
 (gq ((Ai.length+ [((a0.Params++a0.Locals).getD (Int.toNat Aj) default).Name].length)*16≤140737488355328)
 (gq (Ai.length+ [((a0.Params++a0.Locals).getD (Int.toNat Aj) default).Name].length≤maxLen)
 (rec Al (Ai++ [((a0.Params++a0.Locals).getD (Int.toNat Aj) default).Name]) (B7 (Aj+1))))))))))))
 (lf (1,Al,Ai,Aj)))
def Lb(L:Nat)(a0:Am):Nat→Int→List ByteArray→Int→Option (Nat×Tu9)
 |0,_,_,_=>none
 |n+1,Al,Ai,Aj=>j7 L a0 (Lb L a0 n) Al Ai Aj
theorem B5j(a0:Am):LP (EV (B9n L) L 9 Ckn.x.l.u.l.l) [0,1,2,3,4,5] [1] (Bq2 a0) [.ret,.exit 0] (fun n v=>Lb L a0 n v.1 v.2.1 v.2.2) K:=lE (fun _=>rfl) fun n v ih=>eE (j7 L a0 (fun Al Ai Aj=>re (ih (Al,Ai,Aj))) v.1 v.2.1 v.2.2)
def U3 [An A Int](a0:Am)(o6:Nat×Tu9):A:=
 (sl o6.1 [(lf o6.2.1),
 (bd (Ai1 L a0.Body) fun r7=>
 (lf r7))])
def Bnw:Ba:=(Av 0 (Be (EV (B9n L) L 9 Ckn.x.r) (Cp Tryz.prog (RS Tryz.f204) kk)))
theorem Cfg(a0:Am)(o6:Nat×Tu9):kX [.ret,.exit 0] (Bq2 a0) (Bnw L kk) o6=ob (U3 L a0 o6) (kQ I kk):=eE (U3 L a0 o6)
def w4 [An A Int](L:Nat)(a0:Am)(nx1:A):A:=
 (jp (.cn (decide ((a0.Params.length:Int) > 6))
 (.lf true)
 (.lf (decide ((B7 ((a0.Params.length:Int)+(a0.Locals.length:Int))) > 16)))) (fun b1=>
 (cn b1
 (lf 6)
 (gq ((0+a0.Params.length)*24≤140737488355328)
 (gq (0+a0.Params.length≤maxLen)
 (gq ((a0.Params.length+a0.Locals.length)*24≤140737488355328)
 (gq (a0.Params.length+a0.Locals.length≤maxLen)
 nx1)))))))
def Avw [An A Int](a0:Am):A:=w4 L a0 (bd (Lb L a0 L 0 [] 0) fun o6=>U3 L a0 o6)
def Ahs(a0:Am):Option Int:=Avw L a0
def Cik:F7:=E1 I 204 Adm (Ahs L) fun a0 r h=>hF Tryz.func204 (C:=B9n L) (oS _) L (fun kk=>eE (w4 L a0 (ho (B5j L (Bnw L kk) a0 L (0,[],0)) fun o6=>Cfg L kk a0 o6))) h
def Me [An A Int](a0:Aa)(a1:Int)(a2:Int):A:=
 (cn (a1 == 0)
 (gi a2 a0.Vars
 (bd (Yy L ((a0.Vars.getD (Int.toNat a2) default).Type_)) fun r1=>
 (bd (B8 L r1 1) fun r2=>
 (gi a2 a0.Vars
 (gi a2 a0.Vars
 (bd (Tf L ((a0.Vars.getD (Int.toNat a2) default).Type_) ((a0.Vars.getD (Int.toNat a2) default).N)) fun r3=>
 (bd (B8 L r3 2) fun r4=>
 (bd (C8 L r2 r4) fun r5=>
 (lf r5)))))))))
 (cn (a1 == 1)
 (gi a2 a0.Resources
 (bd (Yz L a0 (⟨(a0.Resources.getD (Int.toNat a2) default).Name,(a0.Resources.getD (Int.toNat a2) default).Units,(a0.Resources.getD (Int.toNat a2) default).Shift,(a0.Resources.getD (Int.toNat a2) default).Cycle,(⟨((a0.Resources.getD (Int.toNat a2) default).Fault).Stream,(((a0.Resources.getD (Int.toNat a2) default).Fault).Up),(((a0.Resources.getD (Int.toNat a2) default).Fault).Down)⟩:Ki)⟩:Ah)) fun r6=>
 (lf r6)))
 (cn (a1 == 2)
 (gi a2 a0.Stores
 (gi a2 a0.Stores
 (bd (Dp L ((a0.Stores.getD (Int.toNat a2) default).Room) 1 1000) fun r7=>
 (bd (B8 L r7 2) fun r8=>
 (jp (.cn (decide ((a0.Stores.getD (Int.toNat a2) default).Policy≥1))
 (.lf (decide ((a0.Stores.getD (Int.toNat a2) default).Policy≤3)))
 (.lf false)) (fun b9=>
 (bd (B8 L b9 1) fun r10=>
 (bd (C8 L r8 r10) fun r11=>
 (lf r11)))))))))
 (cn (a1 == 3)
 (gi a2 a0.Belts
 (bd (Dp L ((a0.Belts.getD (Int.toNat a2) default).Length) 1 1000) fun r12=>
 (jb (.cn r12
 (.gq (0≤a2)
 (.gq (a2 < (a0.Belts.length:Int))
 (.bd (Dp L ((a0.Belts.getD (Int.toNat a2) default).Step) 1 1000) fun r14=>
 (.lf r14))))
 (.lf false)) (fun b13=>
 (bd (B8 L b13 2) fun r15=>
 (lf r15))))))
 (cn (a1 == 9)
 (gi a2 a0.Routines
 (bd (Ahs L (a0.Routines.getD (Int.toNat a2) default)) fun r16=>
 (lf r16)))
 (lf 0))))))
def Dg(a0:Aa)(a1:Int)(a2:Int):Option Int:=Me L a0 a1 a2
def Ch6:F7:=E3 I 153 Cn (cI .i64) (cI .i64) (Dg L) fun a0 a1 a2 r h=>hF Tryz.func153 (oS [X32 L,X51 L,X80 L,X82 L,B0v L,Cij L,Cik L]) L (fun kk=>eE (Me L a0 a1 a2)) h
def Aoa [An A Int](a0:Aa)(a1:ByteArray):A:=
 (bd (Ack L a0) fun r1=>
 (gi 9 r1
 (bd (Nc L (r1.getD 9 default) a1) fun r2=>
 (lf r2))))
def Tg(a0:Aa)(a1:ByteArray):Option Int:=Aoa L a0 a1
def Cak:F7:=E2 I 205 Cn cS (Tg L) fun a0 a1 r h=>hF Tryz.func205 (oS [Br0 L,B0w L]) L (fun kk=>eE (Aoa L a0 a1)) h
def Cj6:=CC Tryz.f154
def B9c:Bd:=oL [X32 L,X51 L,X82 L,Cak L]
def Bqj(a0:Aa)(r1:Int)(a1:Br)(v:Cs):St:=⟨[(0,.any),(1,.any),(2,.any),(3,.loc 3 0),(4,I v.1),(5,.any),(6,lv (.t127 ((a0.Routines.getD (Int.toNat r1) default).Params))),(7,I v.2),(8,.any)],[(2,(Af a0)),(3,(Anm a1))],0⟩
def Ad6 [An A Cm](a0:Aa)(r1:Int)(a1:Br)(rec:Int→Int→A)(Al:Int)(Ak:Int):A:=
 (lw Ak ((a0.Routines.getD (Int.toNat r1) default).Params)
 (gi Ak a1.Args
 (bd (Tf L ((((a0.Routines.getD (Int.toNat r1) default).Params).getD (Int.toNat Ak) default).Type_) (a1.Args.getD (Int.toNat Ak) default)) fun r2=>
 (cn (!r2)
 (lf (0,2,Ak))
 (rec Al (B7 (Ak+1))))))
 (lf (1,Al,Ak)))
def Ql(L:Nat)(a0:Aa)(r1:Int)(a1:Br):Nat→Int→Int→Option Cm
 |0,_,_=>none
 |n+1,Al,Ak=>Ad6 L a0 r1 a1 (Ql L a0 r1 a1 n) Al Ak
theorem B40(a0:Aa)(r1:Int)(a1:Br):LP (EV (B9c L) L 9 Cj6.x.u.l.u.l.l) [0,1,2,3,4,5,6,7,8] [2,3] (Bqj a0 r1 a1) [.ret,.exit 0] (fun n v=>Ql L a0 r1 a1 n v.1 v.2) K:=lE (fun _=>rfl) fun n v ih=>eE (Ad6 L a0 r1 a1 (fun Al Ak=>re (ih (Al,Ak))) v.1 v.2)
def Zx [An A Int](a1:Br)(o3:Nat×Cs):A:=
 (sl o3.1 [(lf o3.2.1),
 (bd (Dp L a1.At 0 1000000000) fun r4=>
 (jb (.cn r4
 (.bd (Dp L a1.Every 0 1000000000) fun r6=>
 (.lf r6))
 (.lf false)) (fun b5=>
 (jb (.cn b5
 (.bd (Dp L a1.Until 0 1000000000) fun r8=>
 (.lf r8))
 (.lf false)) (fun b7=>
 (jp (.cn b7
 (.cn (a1.Every != 0)
 (.lf true)
 (.lf (a1.Until == 0)))
 (.lf false)) (fun b9=>
 (bd (B8 L b9 2) fun r10=>
 (lf r10)))))))))])
def Bm5:Ba:=(Av 0 (Be (EV (B9c L) L 9 Cj6.x.u.r) (Cp Tryz.prog (RS Tryz.f154) kk)))
theorem Cep(a0:Aa)(r1:Int)(a1:Br)(o3:Nat×Cs):kX [.ret,.exit 0] (Bqj a0 r1 a1) (Bm5 L kk) o3=ob (Zx L a1 o3) (kQ I kk):=eE (Zx L a1 o3)
def Afi [An A Int](a0:Aa)(a1:Br)(nx1:Int→A):A:=
 (bd (Tg L a0 a1.Routine) fun r1=>
 (cn (decide (r1 < 0))
 (lf 5)
 (gi r1 a0.Routines
 (cn ((a1.Args.length:Int) != (((a0.Routines.getD (Int.toNat r1) default).Params).length:Int))
 (lf 8)
 (nx1 r1)))))
def A2w [An A Int](a0:Aa)(a1:Br):A:=Afi L a0 a1 (fun r1=>bd (Ql L a0 r1 a1 L 0 0) fun o3=>Zx L a1 o3)
def Acl(a0:Aa)(a1:Br):Option Int:=A2w L a0 a1
def Ch7:F7:=E2 I 154 Cn Ayx (Acl L) fun a0 a1 r h=>hF Tryz.func154 (C:=B9c L) (oS _) L (fun kk=>eE (Afi L a0 a1 (fun r1=>ho (B40 L (Bm5 L kk) a0 r1 a1 L (0,0)) fun o3=>Cep L kk a0 r1 a1 o3))) h
def Cko:=CC Tryz.f209
def B9o:Bd:=oL [Br0 L,B0w L]
def Bq3(a1:ByteArray)(r1:List (List ByteArray))(a0:Aa)(v:ByteArray×Int):St:=⟨[(0,.any),(1,S a1),(2,.any),(4,S v.1),(5,lv (.t48 r1)),(6,.lst true (.t9 [(⟨#[118,97,114]⟩:ByteArray),(⟨#[114,101,115,111,117,114,99,101]⟩:ByteArray),(⟨#[115,116,111,114,101]⟩:ByteArray),(⟨#[98,101,108,116]⟩:ByteArray),(⟨#[113,117,101,117,101]⟩:ByteArray),(⟨#[115,116,114,101,97,109]⟩:ByteArray),(⟨#[116,97,108,108,121]⟩:ByteArray),(⟨#[108,101,118,101,108]⟩:ByteArray),(⟨#[99,111,117,110,116]⟩:ByteArray),(⟨#[114,111,117,116,105,110,101]⟩:ByteArray)])),(7,I v.2)],[(2,(Af a0))],0⟩
def Ah8 [An A (Nat×ByteArray×Int)](a1:ByteArray)(r1:List (List ByteArray))(a0:Aa)(rec:ByteArray→Int→A)(Ai:ByteArray)(Bu:Int):A:=
 (lw Bu r1
 (bd (Nc L (r1.getD (Int.toNat Bu) default) a1) fun r2=>
 (cn (decide (r2≥0))
 (gq (0≤Bu)
 (gq (Bu < (([(⟨#[118,97,114]⟩:ByteArray),(⟨#[114,101,115,111,117,114,99,101]⟩:ByteArray),(⟨#[115,116,111,114,101]⟩:ByteArray),(⟨#[98,101,108,116]⟩:ByteArray),(⟨#[113,117,101,117,101]⟩:ByteArray),(⟨#[115,116,114,101,97,109]⟩:ByteArray),(⟨#[116,97,108,108,121]⟩:ByteArray),(⟨#[108,101,118,101,108]⟩:ByteArray),(⟨#[99,111,117,110,116]⟩:ByteArray),(⟨#[114,111,117,116,105,110,101]⟩:ByteArray)].length:Nat):Int))
 (lf (0,(([(⟨#[118,97,114]⟩:ByteArray),(⟨#[114,101,115,111,117,114,99,101]⟩:ByteArray),(⟨#[115,116,111,114,101]⟩:ByteArray),(⟨#[98,101,108,116]⟩:ByteArray),(⟨#[113,117,101,117,101]⟩:ByteArray),(⟨#[115,116,114,101,97,109]⟩:ByteArray),(⟨#[116,97,108,108,121]⟩:ByteArray),(⟨#[108,101,118,101,108]⟩:ByteArray),(⟨#[99,111,117,110,116]⟩:ByteArray),(⟨#[114,111,117,116,105,110,101]⟩:ByteArray)].getD (Int.toNat Bu) default),Bu)))))
 (rec Ai (B7 (Bu+1)))))
 (lf (1,Ai,Bu)))
def Tm(L:Nat)(a1:ByteArray)(r1:List (List ByteArray))(a0:Aa):Nat→ByteArray→Int→Option (Nat×ByteArray×Int)
 |0,_,_=>none
 |n+1,Ai,Bu=>Ah8 L a1 r1 a0 (Tm L a1 r1 a0 n) Ai Bu
theorem B5k(a1:ByteArray)(r1:List (List ByteArray))(a0:Aa):LP (EV (B9o L) L 9 Cko.w.u.l.u.l.l) [0,1,2,4,5,6,7] [2] (Bq3 a1 r1 a0) [.ret,.exit 0] (fun n v=>Tm L a1 r1 a0 n v.1 v.2) K:=lE (fun _=>rfl) fun n v ih=>eE (Ah8 L a1 r1 a0 (fun Ai Bu=>re (ih (Ai,Bu))) v.1 v.2)
def Aa0 [An A ByteArray](L:Nat)(o3:Nat×ByteArray×Int):A:=
 (sl o3.1 [(lf o3.2.1),
 (lf (⟨#[]⟩:ByteArray))])
def Bnx:Ba:=(Av 0 (Be (EV (B9o L) L 9 Cko.w.u.r) (Cp Tryz.prog (RS Tryz.f209) kk)))
theorem Cfh(a1:ByteArray)(r1:List (List ByteArray))(a0:Aa)(o3:Nat×ByteArray×Int):kX [.ret,.exit 0] (Bq3 a1 r1 a0) (Bnx L kk) o3=ob (Aa0 L o3) (kQ S kk):=eE (Aa0 L o3)
def Ais [An A ByteArray](a0:Aa)(a1:ByteArray)(nx1:(List (List ByteArray))→A):A:=
 (bd (Ack L a0) fun r1=>
 (nx1 r1))
def A6v [An A ByteArray](a0:Aa)(a1:ByteArray):A:=Ais L a0 a1 (fun r1=>bd (Tm L a1 r1 a0 L (⟨#[]⟩:ByteArray) 0) fun o3=>Aa0 L o3)
def Ab9(a0:Aa)(a1:ByteArray):Option ByteArray:=A6v L a0 a1
def Bul:F7:=E2 S 209 Cn cS (Ab9 L) fun a0 a1 r h=>hF Tryz.func209 (C:=B9o L) (oS _) L (fun kk=>eE (Ais L a0 a1 (fun r1=>ho (B5k L (Bnx L kk) a1 r1 a0 L ((⟨#[]⟩:ByteArray),0)) fun o3=>Cfh L kk a1 r1 a0 o3))) h
def Ajx:=CC Tryz.f206
def Avf:Bd:=oL [X51 L,X80 L,X82 L,Bul L]
def Be7(a0:Aa)(a1:Ay)(p801_1:ByteArray):St:=⟨[(2,.loc 2 0),(3,.loc 3 0),(4,I 0),(5,S p801_1)],[(2,(Af a0)),(3,(H0 a1))],0⟩
def Bdu(L:Nat)(kk:Cz):Ba:=(Cp Tryz.prog (RS Tryz.f206) kk)
def T9 [An A Int](a0:Aa)(a1:Ay)(p801_1:ByteArray):A:=
 (bd (B8 L (!(p801_1.toList == (⟨#[]⟩:ByteArray).toList)) 1) fun r1=>
 (bd (Ab9 L a0 a1.Name) fun r2=>
 (bd (B8 L (r2.toList == p801_1.toList) 5) fun r3=>
 (bd (C8 L r1 r3) fun r4=>
 (bd (Dp L a1.Coef (-1000) 1000) fun r5=>
 (jp (.cn r5
 (.lf (a1.Coef != 0))
 (.lf false)) (fun b6=>
 (bd (B8 L b6 2) fun r7=>
 (bd (C8 L r4 r7) fun r8=>
 (lf r8))))))))))
theorem Bmg(a0:Aa)(a1:Ay)(p801_1:ByteArray):EV (Avf L) L 9 Ajx.w.u (Be7 a0 a1 p801_1) (Bdu L kk)=ob (T9 L a0 a1 p801_1) (kQ I kk):=eE (T9 L a0 a1 p801_1)
def A58(a1:Ay)(a0:Aa)(p803_3:Bool):St:=⟨[(2,.loc 2 0),(3,.loc 3 0),(4,I 0),(5,S (⟨#[]⟩:ByteArray)),(8,S a1.What),(13,B p803_3)],[(2,(Af a0)),(3,(H0 a1))],0⟩
def A5p(e0:EC):Ba:=(Av 0 (Be (EV (Avf L) L 9 e0) (Cp Tryz.prog (RS Tryz.f206) kk)))
def sx_R11_term_3 [An A Int](L:Nat)(a1:Ay)(a0:Aa)(p803_3:Bool)(nx1:Aa→Ay→ByteArray→A):A:=
 (cn p803_3
 (nx1 a0 a1 (⟨#[115,116,111,114,101]⟩:ByteArray))
 (cn (a1.What.toList == (⟨#[99,111,117,110,116,101,100]⟩:ByteArray).toList)
 (nx1 a0 a1 (⟨#[99,111,117,110,116]⟩:ByteArray))
 (nx1 a0 a1 (⟨#[]⟩:ByteArray))))
def Ao3 [An A Int](a1:Ay)(a0:Aa)(p803_3:Bool):A:=sx_R11_term_3 L a1 a0 p803_3 (fun a0 a1 p801_1=>T9 L a0 a1 p801_1)
theorem B2i(a1:Ay)(a0:Aa)(p803_3:Bool)(z1:EC):EV (Avf L) L 9 Ajx.w.l.u.l.w.r (A58 a1 a0 p803_3) (A5p L kk (EC.put (rl [1]) z1 Ajx.w.r))= @sx_R11_term_3 Prop (anP (kQ I kk)) L a1 a0 p803_3 (fun a0 a1 p801_1=>EV (Avf L) L 9 z1 (Be7 a0 a1 p801_1) (Bdu L kk)):=by kernel_rfl
theorem B1s(a1:Ay)(a0:Aa)(p803_3:Bool):EV (Avf L) L 9 Ajx.w.l.u.l.w.r (A58 a1 a0 p803_3) (A5p L kk Ajx.w.r)=ob (Ao3 L a1 a0 p803_3) (kQ I kk):=Eq.trans (b:=EV (Avf L) L 9 Ajx.w.l.u.l.w.r (A58 a1 a0 p803_3) (A5p L kk (EC.put (rl [1]) Ajx.w.u Ajx.w.r))) (by kernel_rfl) ((B2i L kk a1 a0 p803_3 Ajx.w.u).trans (eE (sx_R11_term_3 L a1 a0 p803_3 (fun a0 a1 p801_1=>re (Bmg L kk a0 a1 p801_1)))))
def A57(a1:Ay)(a0:Aa)(p802_3:Bool):St:=⟨[(2,.loc 2 0),(3,.loc 3 0),(4,I 0),(5,S (⟨#[]⟩:ByteArray)),(8,S a1.What),(9,B p802_3)],[(2,(Af a0)),(3,(H0 a1))],0⟩
def A5o(e0:EC):Ba:=(Av 0 (Be (EV (Avf L) L 9 e0) (Cp Tryz.prog (RS Tryz.f206) kk)))
def sx_R11_term_2 [An A Int](L:Nat)(a1:Ay)(a0:Aa)(p802_3:Bool)(nx1:Aa→Ay→ByteArray→A)(nx3:Ay→Aa→Bool→A):A:=
 (cn p802_3
 (nx1 a0 a1 (⟨#[114,111,117,116,105,110,101]⟩:ByteArray))
 (cn (a1.What.toList == (⟨#[115,116,111,114,101,100]⟩:ByteArray).toList)
 (nx3 a1 a0 (a1.What.toList == (⟨#[115,116,111,114,101,100]⟩:ByteArray).toList))
 (cn (a1.What.toList == (⟨#[101,110,116,101,114,101,100]⟩:ByteArray).toList)
 (nx3 a1 a0 (a1.What.toList == (⟨#[101,110,116,101,114,101,100]⟩:ByteArray).toList))
 (nx3 a1 a0 (a1.What.toList == (⟨#[108,101,102,116]⟩:ByteArray).toList)))))
def Ao2 [An A Int](a1:Ay)(a0:Aa)(p802_3:Bool):A:=sx_R11_term_2 L a1 a0 p802_3 (fun a0 a1 p801_1=>T9 L a0 a1 p801_1) (fun a1 a0 p803_3=>Ao3 L a1 a0 p803_3)
theorem B2h(a1:Ay)(a0:Aa)(p802_3:Bool)(z1 z3:EC):EV (Avf L) L 9 (EC.put (rl [3]) z3 Ajx.w.l.u.l.u) (A57 a1 a0 p802_3) (A5o L kk (EC.put (rl [1]) z1 Ajx.w.r))= @sx_R11_term_2 Prop (anP (kQ I kk)) L a1 a0 p802_3 (fun a0 a1 p801_1=>EV (Avf L) L 9 z1 (Be7 a0 a1 p801_1) (Bdu L kk)) (fun a1 a0 p803_3=>EV (Avf L) L 9 z3 (A58 a1 a0 p803_3) (A5p L kk (EC.put (rl [1]) z1 Ajx.w.r))):=by kernel_rfl
theorem B1r(a1:Ay)(a0:Aa)(p802_3:Bool):EV (Avf L) L 9 Ajx.w.l.u.l.u (A57 a1 a0 p802_3) (A5o L kk Ajx.w.r)=ob (Ao2 L a1 a0 p802_3) (kQ I kk):=Eq.trans (b:=EV (Avf L) L 9 (EC.put (rl [3]) Ajx.w.l.u.l.w.r Ajx.w.l.u.l.u) (A57 a1 a0 p802_3) (A5o L kk (EC.put (rl [1]) Ajx.w.u Ajx.w.r))) (by kernel_rfl) ((B2h L kk a1 a0 p802_3 Ajx.w.u Ajx.w.l.u.l.w.r).trans (eE (sx_R11_term_2 L a1 a0 p802_3 (fun a0 a1 p801_1=>re (Bmg L kk a0 a1 p801_1)) (fun a1 a0 p803_3=>re (B1s L kk a1 a0 p803_3)))))
def sx_R11_term_0 [An A Int](L:Nat)(a0:Aa)(a1:Ay)(nx2:Ay→Aa→Bool→A):A:=
 (cn (a1.What.toList == (⟨#[99,114,101,97,116,101,100]⟩:ByteArray).toList)
 (nx2 a1 a0 (a1.What.toList == (⟨#[99,114,101,97,116,101,100]⟩:ByteArray).toList))
 (cn (a1.What.toList == (⟨#[101,110,100,101,100]⟩:ByteArray).toList)
 (nx2 a1 a0 (a1.What.toList == (⟨#[101,110,100,101,100]⟩:ByteArray).toList))
 (nx2 a1 a0 (a1.What.toList == (⟨#[105,110,115,105,100,101]⟩:ByteArray).toList))))
def A60 [An A Int](a0:Aa)(a1:Ay):A:=sx_R11_term_0 L a0 a1 (fun a1 a0 p802_3=>Ao2 L a1 a0 p802_3)
theorem B2g(a0:Aa)(a1:Ay)(z2:EC):EW (Avf L) L 9 (RS Tryz.f206) (EC.put (rl [4,1,2,1,2]) z2 Ajx) [.agg (Af a0),.agg (H0 a1)] kk= @sx_R11_term_0 Prop (anP (kQ I kk)) L a0 a1 (fun a1 a0 p802_3=>EV (Avf L) L 9 z2 (A57 a1 a0 p802_3) (A5o L kk Ajx.w.r)):=by kernel_rfl
def Alx(a0:Aa)(a1:Ay):Option Int:=A60 L a0 a1
def Cil:F7:=E2 I 206 Cn A26 (Alx L) fun a0 a1 r h=>hF Tryz.func206 (C:=Avf L) (oS _) L (fun kk=>Eq.trans (b:=EW (Avf L) L 9 (RS Tryz.f206) (EC.put (rl [4,1,2,1,2]) Ajx.w.l.u.l.u Ajx) [.agg (Af a0),.agg (H0 a1)] kk) (by kernel_rfl) ((B2g L kk a0 a1 Ajx.w.l.u.l.u).trans (eE (sx_R11_term_0 L a0 a1 (fun a1 a0 p802_3=>re (B1r L kk a1 a0 p802_3)))))) h
def Cj7:=CC Tryz.f155
def B9d:Bd:=oL [X50 L,X80 L,X82 L,X84 L,Cil L]
def Bqk(a0:Aa)(a1:A9)(v:Cs):St:=⟨[(0,.any),(1,.any),(2,.any),(3,.loc 3 0),(4,.loc 4 0),(6,I 0),(7,I v.1),(8,I v.2)],[(3,(Af a0)),(4,(Dr a1))],0⟩
def Ale [An A Cm](a0:Aa)(a1:A9)(rec:Int→Int→A)(Ai:Int)(Ak:Int):A:=
 (lw Ak a1.Terms
 (bd (Alx L a0 (a1.Terms.getD (Int.toNat Ak) default)) fun r6=>
 (bd (C8 L Ai r6) fun r7=>
 (rec r7 (B7 (Ak+1)))))
 (lf (0,Ai,Ak)))
def V3(L:Nat)(a0:Aa)(a1:A9):Nat→Int→Int→Option Cm
 |0,_,_=>none
 |n+1,Ai,Ak=>Ale L a0 a1 (V3 L a0 a1 n) Ai Ak
theorem B41(a0:Aa)(a1:A9):LP (EV (B9d L) L 9 Cj7.x.l.u.l.l) [0,1,2,3,4,6,7,8] [3,4] (Bqk a0 a1) [.exit 0] (fun n v=>V3 L a0 a1 n v.1 v.2) K:=lE (fun _=>rfl) fun n v ih=>eE (Ale L a0 a1 (fun Ai Ak=>re (ih (Ai,Ak))) v.1 v.2)
def Aev [An A Int](a1:A9)(o8:Nat×Cs):A:=
 (sl o8.1 [(bd (Ao8 L a1.Total) fun r9=>
 (bd (B8 L r9 2) fun r10=>
 (bd (C8 L o8.2.1 r10) fun r11=>
 (lf r11))))])
def Bm6:Ba:=(Av 0 (Be (EV (B9d L) L 9 Cj7.x.r) (Cp Tryz.prog (RS Tryz.f155) kk)))
theorem Ceq(a0:Aa)(a1:A9)(o8:Nat×Cs):kX [.exit 0] (Bqk a0 a1) (Bm6 L kk) o8=ob (Aev L a1 o8) (kQ I kk):=eE (Aev L a1 o8)
def Alm [An A Int](a0:Aa)(a1:A9)(a2:List ByteArray)(nx1:Int→A):A:=
 (bd (Oz L a1.Name a2) fun r1=>
 (bd (B8 L (decide ((a1.Terms.length:Int) > 0)) 7) fun r2=>
 (bd (C8 L r1 r2) fun r3=>
 (bd (B8 L (decide ((a1.Terms.length:Int)≤8)) 6) fun r4=>
 (bd (C8 L r3 r4) fun r5=>
 (nx1 r5))))))
def Bbb [An A Int](a0:Aa)(a1:A9)(a2:List ByteArray):A:=Alm L a0 a1 a2 (fun r5=>bd (V3 L a0 a1 L r5 0) fun o8=>Aev L a1 o8)
def Apa(a0:Aa)(a1:A9)(a2:List ByteArray):Option Int:=Bbb L a0 a1 a2
def Ch8:F7:=E3 I 155 Cn Aw6 cl9 (Apa L) fun a0 a1 a2 r h=>hF Tryz.func155 (C:=B9d L) (oS _) L (fun kk=>eE (Alm L a0 a1 a2 (fun r5=>ho (B41 L (Bm6 L kk) a0 a1 L (r5,0)) fun o8=>Ceq L kk a0 a1 o8))) h
def c85:=CC Tryz.f85
def O85:Bd:=oL [X80 L,X84 L,B0w L,Ch6 L,Ch7 L,Ch8 L]
def By8(r1:List (List ByteArray))(Aj:Int)(a0:Aa)(v:Tu9):St:=⟨[(0,.any),(1,.loc 1 0),(2,I v.1),(3,.lst true (.t9 v.2.1)),(4,lv (.t48 r1)),(5,I Aj),(6,I v.2.2),(8,.any),(9,.any),(10,.any),(11,.any),(12,.any)],[(1,(Af a0))],0⟩
def Aid [An A (Nat×Tu9)](r1:List (List ByteArray))(Aj:Int)(a0:Aa)(rec:Int→List ByteArray→Int→A)(Bo:Int)(Bt:List ByteArray)(Ub:Int):A:=
 (gi Aj r1
 (cn (decide (Ub < ((r1.getD (Int.toNat Aj) default).length:Int)))
 (gi Aj r1
 (gi Ub (r1.getD (Int.toNat Aj) default)
 (bd (Oz L ((r1.getD (Int.toNat Aj) default).getD (Int.toNat Ub) default) Bt) fun r3=>
 (bd (Dg L a0 Aj Ub) fun r4=>
 (bd (C8 L r3 r4) fun r5=>
 (cn (r5 != 0)
 (lf (0,r5,Bt,Ub))
 (gi Aj r1
 (gi Ub (r1.getD (Int.toNat Aj) default)
 (gq ((Bt.length+ [((r1.getD (Int.toNat Aj) default).getD (Int.toNat Ub) default)].length)*16≤140737488355328)
 (gq (Bt.length+ [((r1.getD (Int.toNat Aj) default).getD (Int.toNat Ub) default)].length≤maxLen)
 (rec Bo (Bt++ [((r1.getD (Int.toNat Aj) default).getD (Int.toNat Ub) default)]) (B7 (Ub+1)))))))))))))
 (lf (1,Bo,Bt,Ub))))
def Pq(L:Nat)(r1:List (List ByteArray))(Aj:Int)(a0:Aa):Nat→Int→List ByteArray→Int→Option (Nat×Tu9)
 |0,_,_,_=>none
 |n+1,Bo,Bt,Ub=>Aid L r1 Aj a0 (Pq L r1 Aj a0 n) Bo Bt Ub
theorem Cdo(r1:List (List ByteArray))(Aj:Int)(a0:Aa):LP (EV (O85 L) L 9 c85.w.u.l.u.l.l.u.l.l.w.l.l) [0,1,2,3,4,5,6,8,9,10,11,12] [1] (By8 r1 Aj a0) [.ret,.exit 2] (fun n v=>Pq L r1 Aj a0 n v.1 v.2.1 v.2.2) K:=lE (fun _=>rfl) fun n v ih=>eE (Aid L r1 Aj a0 (fun Bo Bt Ub=>re (ih (Bo,Bt,Ub))) v.1 v.2.1 v.2.2)
def Bk6(r1:List (List ByteArray))(a0:Aa)(v:Tu9):St:=⟨[(0,.any),(1,.loc 1 0),(2,I v.1),(3,.lst true (.t9 v.2.1)),(4,lv (.t48 r1)),(5,I v.2.2),(8,.any),(9,.any),(10,.any),(11,.any),(12,.any)],[(1,(Af a0))],0⟩
def Aa4 [An A (Nat×Tu9)](L:Nat)(Aj:Int)(rec:Int→List ByteArray→Int→A)(o6:Nat×Tu9):A:=
 (sl o6.1 [(lf (0,o6.2.1,o6.2.2.1,Aj)),
 (rec o6.2.1 o6.2.2.1 (B7 (Aj+1)))])
def Aiv [An A (Nat×Tu9)](L:Nat)(r1:List (List ByteArray))(a0:Aa)(rec:Int→List ByteArray→Int→A)(Al:Int)(Ai:List ByteArray)(Aj:Int)(nx1:Int→Int→(List ByteArray)→A):A:=
 (lw Aj r1
 (jb (.cn (decide (((r1.getD (Int.toNat Aj) default).length:Int) > 32))
 (.lf true)
 (.cn (Aj == 9)
 (.gq (0≤Aj)
 (.gq (Aj < (r1.length:Int))
 (.lf (decide (((r1.getD (Int.toNat Aj) default).length:Int) > 16)))))
 (.lf false))) (fun b2=>
 (cn b2
 (lf (0,6,Ai,Aj))
 (nx1 Aj Al Ai))))
 (lf (1,Al,Ai,Aj)))
def Aon [An A (Nat×Tu9)](r1:List (List ByteArray))(a0:Aa)(rec:Int→List ByteArray→Int→A)(Al:Int)(Ai:List ByteArray)(Aj:Int):A:=Aiv L r1 a0 rec Al Ai Aj (fun Aj Al Ai=>bd (Pq L r1 Aj a0 L Al Ai 0) fun o6=>Aa4 L Aj rec o6)
def Ph(L:Nat)(r1:List (List ByteArray))(a0:Aa):Nat→Int→List ByteArray→Int→Option (Nat×Tu9)
 |0,_,_,_=>none
 |n+1,Al,Ai,Aj=>Aon L r1 a0 (Ph L r1 a0 n) Al Ai Aj
def Bt7(r1:List (List ByteArray))(a0:Aa):Prop:=LI (EV (O85 L) L 9 c85.w.u.l.u.l.l) [0,1,2,3,4,5,8,9,10,11,12] [1] (Bk6 r1 a0) [.ret,.exit 0] (fun n v=>Ph L r1 a0 n v.1 v.2.1 v.2.2) K n
def Bw4:Ba:=(Av 2 (Av 1 (Be (EV (O85 L) L 9 c85.w.u.l.u.l.l.u.r) (Hh (Jj (EV (O85 L) L 9 c85.w.u.l.u.l.l) [0,1,2,3,4,5,8,9,10,11,12] [1] n) [0,1,2,3,4,5,8,9,10,11,12] [1] K))))
theorem Cnk(r1:List (List ByteArray))(Aj:Int)(a0:Aa)(ih:Bt7 L n K r1 a0)(o6:Nat×Tu9):kX [.ret,.exit 2] (By8 r1 Aj a0) (Bw4 L n K) o6=ob (Aa4 L Aj (Ph L r1 a0 n) o6) (kX [.ret,.exit 0] (Bk6 r1 a0) K):=eE (Aa4 L Aj (fun Al Ai Aj=>re (ih (Al,Ai,Aj))) o6)
theorem Cdn(r1:List (List ByteArray))(a0:Aa):∀n,Bt7 L n K r1 a0:=lE (fun _=>rfl) fun n v ih=>eE (Aiv L r1 a0 (fun Al Ai Aj=>re (ih (Al,Ai,Aj))) v.1 v.2.1 v.2.2 (fun Aj Al Ai=>ho (Cdo L (Bw4 L n K) r1 Aj a0 L (Al,Ai,0)) fun o6=>Cnk L n K r1 Aj a0 ih o6))
def By9(a0:Aa)(v:Cs):St:=⟨[(0,.any),(1,.loc 1 0),(2,I v.1),(3,.any),(4,.any),(5,.any),(6,.any),(7,.any),(8,I v.2),(10,.any),(11,.any),(12,.any)],[(1,(Af a0))],0⟩
def Aie [An A Cm](a0:Aa)(rec:Int→Int→A)(D6:Int)(Ef:Int):A:=
 (lw Ef a0.Starts
 (bd (Acl L a0 (a0.Starts.getD (Int.toNat Ef) default)) fun r8=>
 (cn (r8 != 0)
 (lf (0,r8,Ef))
 (rec D6 (B7 (Ef+1)))))
 (lf (1,D6,Ef)))
def Ts(L:Nat)(a0:Aa):Nat→Int→Int→Option Cm
 |0,_,_=>none
 |n+1,D6,Ef=>Aie L a0 (Ts L a0 n) D6 Ef
theorem Cdp(a0:Aa):LP (EV (O85 L) L 9 c85.x.u.l.u.l.l) [0,1,2,3,4,5,6,7,8,10,11,12] [1] (By9 a0) [.ret,.exit 4] (fun n v=>Ts L a0 n v.1 v.2) K:=lE (fun _=>rfl) fun n v ih=>eE (Aie L a0 (fun D6 Ef=>re (ih (D6,Ef))) v.1 v.2)
def Bza(a0:Aa)(v:Tu9):St:=⟨[(0,.any),(1,.loc 1 0),(2,I v.1),(3,.any),(4,.any),(5,.any),(6,.any),(7,.any),(8,.any),(9,.any),(10,.lst true (.t9 v.2.1)),(11,I v.2.2)],[(1,(Af a0))],0⟩
def Aif [An A (Nat×Tu9)](a0:Aa)(rec:Int→List ByteArray→Int→A)(He:Int)(Cq:List ByteArray)(A2j:Int):A:=
 (lw A2j a0.Laws
 (bd (Apa L a0 (a0.Laws.getD (Int.toNat A2j) default) Cq) fun r10=>
 (cn (r10 != 0)
 (lf (0,r10,Cq,A2j))
 (gi A2j a0.Laws
 (gq ((Cq.length+ [(a0.Laws.getD (Int.toNat A2j) default).Name].length)*16≤140737488355328)
 (gq (Cq.length+ [(a0.Laws.getD (Int.toNat A2j) default).Name].length≤maxLen)
 (rec He (Cq++ [(a0.Laws.getD (Int.toNat A2j) default).Name]) (B7 (A2j+1))))))))
 (lf (1,He,Cq,A2j)))
def Tt(L:Nat)(a0:Aa):Nat→Int→List ByteArray→Int→Option (Nat×Tu9)
 |0,_,_,_=>none
 |n+1,He,Cq,A2j=>Aif L a0 (Tt L a0 n) He Cq A2j
theorem Cdq(a0:Aa):LP (EV (O85 L) L 9 c85.x.x.l.u.l.l) [0,1,2,3,4,5,6,7,8,9,10,11] [1] (Bza a0) [.ret,.exit 6] (fun n v=>Tt L a0 n v.1 v.2.1 v.2.2) K:=lE (fun _=>rfl) fun n v ih=>eE (Aif L a0 (fun He Cq A2j=>re (ih (He,Cq,A2j))) v.1 v.2.1 v.2.2)
def Aa5 [An A Int](L:Nat)(o11:Nat×Tu9):A:=
 (sl o11.1 [(lf o11.2.1),
 (lf 0)])
def Bw7:Ba:=(Av 6 (Be (EV (O85 L) L 9 c85.x.x.r) (Cp Tryz.prog (RS Tryz.f85) kk)))
theorem Cnn(a0:Aa)(o11:Nat×Tu9):kX [.ret,.exit 6] (Bza a0) (Bw7 L kk) o11=ob (Aa5 L o11) (kQ I kk):=eE (Aa5 L o11)
def Aiy [An A Int](L:Nat)(a0:Aa)(o9:Nat×Cs)(nx4:Cm→A):A:=
 (sl o9.1 [(lf o9.2.1),
 (cn (decide ((a0.Laws.length:Int) > 32))
 (lf 6)
 (nx4 o9))])
def Aim [An A Int](a0:Aa)(o9:Nat×Cs):A:=Aiy L a0 o9 (fun o9=>bd (Tt L a0 L o9.2.1 [] 0) fun o11=>Aa5 L o11)
def Bw6:Ba:=(Av 4 (Be (EV (O85 L) L 9 c85.x.u.r) (Cp Tryz.prog (RS Tryz.f85) kk)))
theorem Cnm(a0:Aa)(o9:Nat×Cs):kX [.ret,.exit 4] (By9 a0) (Bw6 L kk) o9=ob (Aim L a0 o9) (kQ I kk):=eE (Aiy L a0 o9 (fun o9=>ho (Cdq L (Bw7 L kk) a0 L (o9.2.1,[],0)) fun o11=>Cnn L kk a0 o11))
def Aix [An A Int](L:Nat)(a0:Aa)(o7:Nat×Tu9)(nx3:(Nat×Tu9)→A):A:=
 (sl o7.1 [(lf o7.2.1),
 (cn (decide ((a0.Starts.length:Int) > 32))
 (lf 6)
 (nx3 o7))])
def Ail [An A Int](a0:Aa)(o7:Nat×Tu9):A:=Aix L a0 o7 (fun o7=>bd (Ts L a0 L o7.2.1 0) fun o9=>Aim L a0 o9)
def Bw5:Ba:=(Av 0 (Be (EV (O85 L) L 9 c85.w.u.r) (Cp Tryz.prog (RS Tryz.f85) kk)))
theorem Cnl(r1:List (List ByteArray))(a0:Aa)(o7:Nat×Tu9):kX [.ret,.exit 0] (Bk6 r1 a0) (Bw5 L kk) o7=ob (Ail L a0 o7) (kQ I kk):=eE (Aix L a0 o7 (fun o7=>ho (Cdp L (Bw6 L kk) a0 L (o7.2.1,0)) fun o9=>Cnm L kk a0 o9))
def Aiw [An A Int](a0:Aa)(nx2:(List (List ByteArray))→A):A:=
 (bd (Ack L a0) fun r1=>
 (nx2 r1))
def A6z [An A Int](a0:Aa):A:=Aiw L a0 (fun r1=>bd (Ph L r1 a0 L 0 [] 0) fun o7=>Ail L a0 o7)
def Alw(a0:Aa):Option Int:=A6z L a0
def X85:F7:=E1 I 85 Cn (Alw L) fun a0 r h=>hF Tryz.func85 (C:=O85 L) (oS _) L (fun kk=>eE (Aiw L a0 (fun r1=>ho (Cdn L (Bw5 L kk) r1 a0 L (0,[],0)) fun o7=>Cnl L kk r1 a0 o7))) h
end
end Go.Proofs.YtofcpkmnhmnfcaaGreatR.Ev
