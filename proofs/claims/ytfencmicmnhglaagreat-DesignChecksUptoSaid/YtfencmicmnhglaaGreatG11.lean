import Derived.Test.YtfencmicmnhglaaGreatG2
import Derived.Test.YtfencmicmnhglaaGreatG10
namespace Go.Proofs.YtfencmicmnhglaaGreat.Ev
open Go An
set_option maxRecDepth 100000
set_option maxHeartbeats 4000000
set_option linter.unusedVariables false
set_option linter.unusedSimpArgs false
set_option linter.unnecessarySimpa false
noncomputable section
variable {A:Type} (L n:Nat) (kk:Dm) (K:Be) (k:Bx)
def Bl6(F:Ab→Bool→Option Int):Prop:=∀y0 y1 r,F y0 y1=some r→Ho Tryz.prog 235 [Bu.en y0,cB.en y1] I r
def Akn:=CC Tryz.f235
def Aoy(Bh:Ab→Bool→Option Int)(L:Nat):Bi:=(orc 235 (A2 I Bu cB Bh) (oL [X70 L,X78 L,Caf L,Cag L,Cah L]))
theorem Crg(Bh:Ab→Bool→Option Int)(Bv9:Bl6 Bh)(L:Nat):Er Tryz.prog (Aoy Bh L):=(Hk (a2 _ Bv9) (oS [X70 L,X78 L,Caf L,Cag L,Cah L]))
def Br9(a1:Bool)(a0:Ab)(v:Cp):St:=⟨[(0,.any),(1,B a1),(2,.loc 2 0),(4,I v.1),(5,.any),(6,.any),(7,.any),(8,.any),(9,.any),(10,I v.2)],[(2,(Dd a0))],0⟩
def Af4 [An A B8](Bh:Ab→Bool→Option Int)(L:Nat)(a1:Bool)(a0:Ab)(rec:Int→Int→A)(Ag:Int)(Aj:Int):A:=
 (lw Aj a0.Kids
 (bd (Bh (Ab.cp (a0.Kids.getD (Int.toNat Aj) default)) a1) fun r22=>
 (cn (r22 != 0)
 (lf (0,r22,Aj))
 (rec Ag (Cq (Aj+1)))))
 (lf (1,Ag,Aj)))
def N7(Bh:Ab→Bool→Option Int)(L:Nat)(a1:Bool)(a0:Ab):Nat→Int→Int→Option B8
 |0,_,_=>none
 |n+1,Ag,Aj=>Af4 Bh L a1 a0 (N7 Bh L a1 a0 n) Ag Aj
theorem B5p(Bh:Ab→Bool→Option Int)(L:Nat)(K:Be)(a1:Bool)(a0:Ab):LP (EV (Aoy Bh L) L 9 Akn.x.x.u.l.u.l.l) [0,1,2,4,5,6,7,8,9,10] [2] (Br9 a1 a0) [.ret,.exit 0] (fun n v=>N7 Bh L a1 a0 n v.1 v.2) K:=lE (fun _=>rfl) fun n v ih=>eE (Af4 Bh L a1 a0 (fun Ag Aj=>re (ih (Ag,Aj))) v.1 v.2)
def Bqn(a1:Bool)(b3:Bool)(a0:Ab):St:=⟨[(1,B a1),(2,.loc 2 0),(4,I 0),(7,B b3)],[(2,(Dd a0))],0⟩
def Bp8(Bh:Ab→Bool→Option Int)(L:Nat)(kk:Dm):Be:=(C0 Tryz.prog (RS Tryz.f235) kk)
def m8 [An A Int](Bh:Ab→Bool→Option Int)(L:Nat)(o23:Nat×Cp):A:=
 (sl o23.1 [(lf o23.2.1),
 (lf 0)])
def Bo9(Bh:Ab→Bool→Option Int)(L:Nat)(kk:Dm):Be:=(Ax 0 (Bk (EV (Aoy Bh L) L 9 Akn.x.x.u.r) (C0 Tryz.prog (RS Tryz.f235) kk)))
theorem Cfj(Bh:Ab→Bool→Option Int)(L:Nat)(kk:Dm)(a1:Bool)(a0:Ab)(o23:Nat×Cp):kX [.ret,.exit 0] (Br9 a1 a0) (Bo9 Bh L kk) o23=ob (m8 Bh L o23) (kQ I kk):=eE (m8 Bh L o23)
def Agk [An A Int](Bh:Ab→Bool→Option Int)(L:Nat)(a1:Bool)(b3:Bool)(a0:Ab)(nx1:A):A:=
 (jb (.cn b3
 (.bd (Q0 L a0.Name) fun r20=>
 (.lf (r20 != 0)))
 (.lf false)) (fun b19=>
 (cn b19
 (bd (Q0 L a0.Name) fun r21=>
 (lf r21))
 nx1)))
def Ams [An A Int](Bh:Ab→Bool→Option Int)(L:Nat)(a1:Bool)(b3:Bool)(a0:Ab):A:=Agk Bh L a1 b3 a0 (bd (N7 Bh L a1 a0 L 0 0) fun o23=>m8 Bh L o23)
theorem B1k(Bh:Ab→Bool→Option Int)(L:Nat)(kk:Dm)(a1:Bool)(b3:Bool)(a0:Ab):EV (Aoy Bh L) L 9 Akn.x.x (Bqn a1 b3 a0) (Bp8 Bh L kk)=ob (Ams Bh L a1 b3 a0) (kQ I kk):=eE (Agk Bh L a1 b3 a0 (ho (B5p Bh L (Bo9 Bh L kk) a1 a0 L (0,0)) fun o23=>Cfj Bh L kk a1 a0 o23))
def A40(a1:Bool)(b3:Bool)(b5:Bool)(a0:Ab):St:=⟨[(1,B a1),(2,.loc 2 0),(4,I 0),(7,B b3),(8,B b5)],[(2,(Dd a0))],0⟩
def A4h(Bh:Ab→Bool→Option Int)(L:Nat)(kk:Dm):Be:=(C0 Tryz.prog (RS Tryz.f235) kk)
def sx_R09_node_3 [An A Int](Bh:Ab→Bool→Option Int)(L:Nat)(a1:Bool)(b3:Bool)(b5:Bool)(a0:Ab)(nx4:Bool→Bool→Ab→A):A:=
 (cn (a0.Op == 1)
 (bd (Amz L a0.N) fun r12=>
 (cn (!r12)
 (lf 2)
 (cn (a0.Op == 2)
 (cn (a0.N != 0)
 (cn (a0.N != 1)
 (lf 2)
 (cn b5
 (cn (decide (a0.N < 0))
 (lf 2)
 (bd (Uj L a0.Op) fun r13=>
 (cn (decide (a0.N > r13))
 (lf 2)
 (nx4 a1 b3 a0))))
 (nx4 a1 b3 a0)))
 (cn b5
 (cn (decide (a0.N < 0))
 (lf 2)
 (bd (Uj L a0.Op) fun r14=>
 (cn (decide (a0.N > r14))
 (lf 2)
 (nx4 a1 b3 a0))))
 (nx4 a1 b3 a0)))
 (cn b5
 (cn (decide (a0.N < 0))
 (lf 2)
 (bd (Uj L a0.Op) fun r15=>
 (cn (decide (a0.N > r15))
 (lf 2)
 (nx4 a1 b3 a0))))
 (nx4 a1 b3 a0)))))
 (cn (a0.Op == 2)
 (cn (a0.N != 0)
 (cn (a0.N != 1)
 (lf 2)
 (cn b5
 (cn (decide (a0.N < 0))
 (lf 2)
 (bd (Uj L a0.Op) fun r16=>
 (cn (decide (a0.N > r16))
 (lf 2)
 (nx4 a1 b3 a0))))
 (nx4 a1 b3 a0)))
 (cn b5
 (cn (decide (a0.N < 0))
 (lf 2)
 (bd (Uj L a0.Op) fun r17=>
 (cn (decide (a0.N > r17))
 (lf 2)
 (nx4 a1 b3 a0))))
 (nx4 a1 b3 a0)))
 (cn b5
 (cn (decide (a0.N < 0))
 (lf 2)
 (bd (Uj L a0.Op) fun r18=>
 (cn (decide (a0.N > r18))
 (lf 2)
 (nx4 a1 b3 a0))))
 (nx4 a1 b3 a0))))
def Amr [An A Int](Bh:Ab→Bool→Option Int)(L:Nat)(a1:Bool)(b3:Bool)(b5:Bool)(a0:Ab):A:=sx_R09_node_3 Bh L a1 b3 b5 a0 (fun a1 b3 a0=>Ams Bh L a1 b3 a0)
theorem B2a(Bh:Ab→Bool→Option Int)(L:Nat)(kk:Dm)(a1:Bool)(b3:Bool)(b5:Bool)(a0:Ab)(z4:EC):EV (Aoy Bh L) L 9 (EC.put (rl [2]) z4 Akn.x.w.u) (A40 a1 b3 b5 a0) (A4h Bh L kk)= @sx_R09_node_3 Prop (anP (kQ I kk)) Bh L a1 b3 b5 a0 (fun a1 b3 a0=>EV (Aoy Bh L) L 9 z4 (Bqn a1 b3 a0) (Bp8 Bh L kk)):=by kernel_rfl
theorem B1j(Bh:Ab→Bool→Option Int)(L:Nat)(kk:Dm)(a1:Bool)(b3:Bool)(b5:Bool)(a0:Ab):EV (Aoy Bh L) L 9 Akn.x.w.u (A40 a1 b3 b5 a0) (A4h Bh L kk)=ob (Amr Bh L a1 b3 b5 a0) (kQ I kk):=Eq.trans (b:=EV (Aoy Bh L) L 9 (EC.put (rl [2]) Akn.x.x Akn.x.w.u) (A40 a1 b3 b5 a0) (A4h Bh L kk)) (by kernel_rfl) ((B2a Bh L kk a1 b3 b5 a0 Akn.x.x).trans (eE (sx_R09_node_3 Bh L a1 b3 b5 a0 (fun a1 b3 a0=>re (B1k Bh L kk a1 b3 a0)))))
def A4z(a1:Bool)(r1:Int)(b2:Bool)(b3:Bool)(b5:Bool)(b8:Bool)(a0:Ab):St:=⟨[(1,B a1),(2,.loc 2 0),(4,I 0),(5,I r1),(6,B b2),(7,B b3),(8,B b5),(9,B b8)],[(2,(Dd a0))],0⟩
def A4g(Bh:Ab→Bool→Option Int)(L:Nat)(kk:Dm):Be:=(C0 Tryz.prog (RS Tryz.f235) kk)
def sx_R09_node_2 [An A Int](Bh:Ab→Bool→Option Int)(L:Nat)(a1:Bool)(r1:Int)(b2:Bool)(b3:Bool)(b5:Bool)(b8:Bool)(a0:Ab)(nx3:Bool→Bool→Bool→Ab→A):A:=
 (jp (.cn (!b2)
 (.lf true)
 (.cn (!b3)
 (.lf (!(a0.Name.toList == (⟨#[]⟩:ByteArray).toList)))
 (.lf false))) (fun b9=>
 (jp (.cn b9
 (.lf true)
 (.cn (!b8)
 (.lf (a0.N != 0))
 (.lf false))) (fun b10=>
 (jp (.cn b10
 (.lf true)
 (.lf ((a0.Kids.length:Int) != r1))) (fun b11=>
 (cn b11
 (lf 1)
 (nx3 a1 b3 b5 a0))))))))
def Amq [An A Int](Bh:Ab→Bool→Option Int)(L:Nat)(a1:Bool)(r1:Int)(b2:Bool)(b3:Bool)(b5:Bool)(b8:Bool)(a0:Ab):A:=sx_R09_node_2 Bh L a1 r1 b2 b3 b5 b8 a0 (fun a1 b3 b5 a0=>Amr Bh L a1 b3 b5 a0)
theorem B19(Bh:Ab→Bool→Option Int)(L:Nat)(kk:Dm)(a1:Bool)(r1:Int)(b2:Bool)(b3:Bool)(b5:Bool)(b8:Bool)(a0:Ab)(z3:EC):EV (Aoy Bh L) L 9 (EC.put (rl [2]) z3 Akn.x.w) (A4z a1 r1 b2 b3 b5 b8 a0) (A4g Bh L kk)= @sx_R09_node_2 Prop (anP (kQ I kk)) Bh L a1 r1 b2 b3 b5 b8 a0 (fun a1 b3 b5 a0=>EV (Aoy Bh L) L 9 z3 (A40 a1 b3 b5 a0) (A4h Bh L kk)):=by kernel_rfl
theorem B1i(Bh:Ab→Bool→Option Int)(L:Nat)(kk:Dm)(a1:Bool)(r1:Int)(b2:Bool)(b3:Bool)(b5:Bool)(b8:Bool)(a0:Ab):EV (Aoy Bh L) L 9 Akn.x.w (A4z a1 r1 b2 b3 b5 b8 a0) (A4g Bh L kk)=ob (Amq Bh L a1 r1 b2 b3 b5 b8 a0) (kQ I kk):=Eq.trans (b:=EV (Aoy Bh L) L 9 (EC.put (rl [2]) Akn.x.w.u Akn.x.w) (A4z a1 r1 b2 b3 b5 b8 a0) (A4g Bh L kk)) (by kernel_rfl) ((B19 Bh L kk a1 r1 b2 b3 b5 b8 a0 Akn.x.w.u).trans (eE (sx_R09_node_2 Bh L a1 r1 b2 b3 b5 b8 a0 (fun a1 b3 b5 a0=>re (B1j Bh L kk a1 b3 b5 a0)))))
def A4y(a1:Bool)(r1:Int)(b2:Bool)(b3:Bool)(a0:Ab):St:=⟨[(1,B a1),(2,.loc 2 0),(4,I 0),(5,I r1),(6,B b2),(7,B b3)],[(2,(Dd a0))],0⟩
def A4f(Bh:Ab→Bool→Option Int)(L:Nat)(kk:Dm):Be:=(C0 Tryz.prog (RS Tryz.f235) kk)
def sx_R09_node_1 [An A Int](Bh:Ab→Bool→Option Int)(L:Nat)(a1:Bool)(r1:Int)(b2:Bool)(b3:Bool)(a0:Ab)(nx2:Bool→Int→Bool→Bool→Bool→Bool→Ab→A):A:=
 (jb (.cn a1
 (.bd (Aa2 L a0.Op) fun r6=>
 (.cn r6
 (.lf true)
 (.cn (a0.Op == 25)
 (.lf true)
 (.lf (a0.Op == 26)))))
 (.lf false)) (fun b5=>
 (jp (.cn (a0.Op == 1)
 (.lf true)
 (.lf (a0.Op == 2))) (fun b7=>
 (jp (.cn b7
 (.lf true)
 (.lf b5)) (fun b8=>
 (nx2 a1 r1 b2 b3 b5 b8 a0)))))))
def Amp [An A Int](Bh:Ab→Bool→Option Int)(L:Nat)(a1:Bool)(r1:Int)(b2:Bool)(b3:Bool)(a0:Ab):A:=sx_R09_node_1 Bh L a1 r1 b2 b3 a0 (fun a1 r1 b2 b3 b5 b8 a0=>Amq Bh L a1 r1 b2 b3 b5 b8 a0)
theorem B18(Bh:Ab→Bool→Option Int)(L:Nat)(kk:Dm)(a1:Bool)(r1:Int)(b2:Bool)(b3:Bool)(a0:Ab)(z2:EC):EV (Aoy Bh L) L 9 (EC.put (rl [4]) z2 Akn.x) (A4y a1 r1 b2 b3 a0) (A4f Bh L kk)= @sx_R09_node_1 Prop (anP (kQ I kk)) Bh L a1 r1 b2 b3 a0 (fun a1 r1 b2 b3 b5 b8 a0=>EV (Aoy Bh L) L 9 z2 (A4z a1 r1 b2 b3 b5 b8 a0) (A4g Bh L kk)):=by kernel_rfl
theorem B1h(Bh:Ab→Bool→Option Int)(L:Nat)(kk:Dm)(a1:Bool)(r1:Int)(b2:Bool)(b3:Bool)(a0:Ab):EV (Aoy Bh L) L 9 Akn.x (A4y a1 r1 b2 b3 a0) (A4f Bh L kk)=ob (Amp Bh L a1 r1 b2 b3 a0) (kQ I kk):=Eq.trans (b:=EV (Aoy Bh L) L 9 (EC.put (rl [4]) Akn.x.w Akn.x) (A4y a1 r1 b2 b3 a0) (A4f Bh L kk)) (by kernel_rfl) ((B18 Bh L kk a1 r1 b2 b3 a0 Akn.x.w).trans (eE (sx_R09_node_1 Bh L a1 r1 b2 b3 a0 (fun a1 r1 b2 b3 b5 b8 a0=>re (B1i Bh L kk a1 r1 b2 b3 b5 b8 a0)))))
def sx_R09_node_0 [An A Int](Bh:Ab→Bool→Option Int)(L:Nat)(a0:Ab)(a1:Bool)(nx1:Bool→Int→Bool→Bool→Ab→A):A:=
 (bd (Akw L a0.Op) fun r1=>
 (jp (.cn (decide (r1≥0))
 (.cn a1
 (.cn (a0.Op != 3)
 (.lf true)
 (.cn (!a1)
 (.lf (decide (a0.Op≤24)))
 (.lf false)))
 (.cn (!a1)
 (.lf (decide (a0.Op≤24)))
 (.lf false)))
 (.lf false)) (fun b2=>
 (jb (.cn (!a1)
 (.cn (a0.Op == 3)
 (.lf true)
 (.bd (Aa2 L a0.Op) fun r4=>
 (.lf r4)))
 (.lf false)) (fun b3=>
 (nx1 a1 r1 b2 b3 a0))))))
def A5b [An A Int](Bh:Ab→Bool→Option Int)(L:Nat)(a0:Ab)(a1:Bool):A:=sx_R09_node_0 Bh L a0 a1 (fun a1 r1 b2 b3 a0=>Amp Bh L a1 r1 b2 b3 a0)
theorem B17(Bh:Ab→Bool→Option Int)(L:Nat)(kk:Dm)(a0:Ab)(a1:Bool)(z1:EC):EW (Aoy Bh L) L 9 (RS Tryz.f235) (EC.put (rl [8]) z1 Akn) [.agg (Dd a0),B a1] kk= @sx_R09_node_0 Prop (anP (kQ I kk)) Bh L a0 a1 (fun a1 r1 b2 b3 a0=>EV (Aoy Bh L) L 9 z1 (A4y a1 r1 b2 b3 a0) (A4f Bh L kk)):=by kernel_rfl
def Auu(Bh:Ab→Bool→Option Int)(L:Nat)(a0:Ab)(a1:Bool):Option Int:=A5b Bh L a0 a1
theorem Cp0(Bh:Ab→Bool→Option Int)(Bv9:Bl6 Bh)(L:Nat):Bl6 (Auu Bh L):=fun a0 a1 r h=>hF Tryz.func235 (Crg Bh Bv9 L) L (fun kk=>Eq.trans (b:=EW (Aoy Bh L) L 9 (RS Tryz.f235) (EC.put (rl [8]) Akn.x Akn) [.agg (Dd a0),B a1] kk) (by kernel_rfl) ((B17 Bh L kk a0 a1 Akn.x).trans (eE (sx_R09_node_0 Bh L a0 a1 (fun a1 r1 b2 b3 a0=>re (B1h Bh L kk a1 r1 b2 b3 a0)))))) h
def Sc:Nat→Ab→Bool→Option Int
 |0,_,_=>none
 |L+1,a0,a1=>Auu (Sc L) L a0 a1
theorem B2v(L:Nat):Bl6 (Sc L):=by
 induction L with
 |zero=>exact fun _ _ _ h=>(by cases h)
 |succ L ih=>
  have i235:=ih
  exact Cp0 (Sc L) i235 L
def Ciu(L:Nat):Gh:=E2 I 235 Bu cB (Sc L) (B2v L)
def Ard [An A Int](a0:Ab)(a1:Bool):A:=
 (bd (Gx L (Ab.cp a0)) fun r1=>
 (cn (decide (r1 > 60))
 (lf 6)
 (bd (Rb L (Ab.cp a0)) fun r2=>
 (cn (decide (r2 > 12))
 (lf 11)
 (bd (Sc L (Ab.cp a0) a1) fun r3=>
 (lf r3))))))
def Akx(a0:Ab)(a1:Bool):Option Int:=Ard L a0 a1
def Cis:Gh:=E2 I 228 Bu cB (Akx L) fun a0 a1 r h=>hF Tryz.func228 (oS [X41 L,Cit L,Ciu L]) L (fun kk=>eE (Ard L a0 a1)) h
def Arc [An A Int](a0:Ab):A:=
 (bd (Akx L (Ab.cp a0) false) fun r1=>
 (lf r1))
def Ra(a0:Ab):Option Int:=Arc L a0
def B94:Gh:=E1 I 212 Bu (Ra L) fun a0 r h=>hF Tryz.func212 (oS [Cis L]) L (fun kk=>eE (Arc L a0)) h
def Cks:=CC Tryz.f193
def B87:Bi:=oL [B94 L]
def Ali:Be:=(Ax 0 (Bk (EV (B87 L) L 9 Cks.x.u.r) (C0 Tryz.prog (RS Tryz.f193) kk)))
def Ai6(a0:Ac)(a1:Cn)(v:Cp):St:=⟨[(0,.any),(1,.any),(2,.loc 2 0),(3,.any),(4,I 0),(5,I v.1),(6,I v.2)],[(2,(C5 a0)),(3,(Aed a1))],0⟩
def Xa [An A B8](a0:Ac)(a1:Cn)(rec:Int→Int→A)(Ag:Int)(Aj:Int):A:=
 (jp (.cn (Ag == 0)
 (.lf (decide (Aj < (a0.Args.length:Int))))
 (.lf false)) (fun b5=>
 (cn b5
 (gi Aj a0.Args
 (bd (Ra L (Ab.cp (a0.Args.getD (Int.toNat Aj) default))) fun r6=>
 (rec r6 (Cq (Aj+1)))))
 (lf (0,Ag,Aj)))))
def Dw(L:Nat)(a0:Ac)(a1:Cn):Nat→Int→Int→Option B8
 |0,_,_=>none
 |n+1,Ag,Aj=>Xa L a0 a1 (Dw L a0 a1 n) Ag Aj
theorem Alk(a0:Ac)(a1:Cn):LP (EV (B87 L) L 9 Cks.x.u.l.u.l.l) [0,1,2,3,4,5,6] [2,3] (Ai6 a0 a1) [.exit 0] (fun n v=>Dw L a0 a1 n v.1 v.2) K:=lE (fun _=>rfl) fun n v ih=>eE (Xa L a0 a1 (fun Ag Aj=>re (ih (Ag,Aj))) v.1 v.2)
def Xl [An A Int](L:Nat)(o10:Nat×Cp):A:=
 (sl o10.1 [(lf o10.2.1)])
def Boh:Be:=(Ali L kk)
theorem Ces(a0:Ac)(a1:Cn)(o10:Nat×Cp):kX [.exit 0] (Ai6 a0 a1) (Boh L kk) o10=ob (Xl L o10) (kQ I kk):=eE (Xl L o10)
def Xm [An A Int](L:Nat)(o11:Nat×Cp):A:=
 (sl o11.1 [(lf o11.2.1)])
def Boi:Be:=(Ali L kk)
theorem Cet(a0:Ac)(a1:Cn)(o11:Nat×Cp):kX [.exit 0] (Ai6 a0 a1) (Boi L kk) o11=ob (Xm L o11) (kQ I kk):=eE (Xm L o11)
def Xn [An A Int](L:Nat)(o12:Nat×Cp):A:=
 (sl o12.1 [(lf o12.2.1)])
def Boj:Be:=(Ali L kk)
theorem Ceu(a0:Ac)(a1:Cn)(o12:Nat×Cp):kX [.exit 0] (Ai6 a0 a1) (Boj L kk) o12=ob (Xn L o12) (kQ I kk):=eE (Xn L o12)
def Xo [An A Int](L:Nat)(o13:Nat×Cp):A:=
 (sl o13.1 [(lf o13.2.1)])
def Bok:Be:=(Ali L kk)
theorem Cev(a0:Ac)(a1:Cn)(o13:Nat×Cp):kX [.exit 0] (Ai6 a0 a1) (Bok L kk) o13=ob (Xo L o13) (kQ I kk):=eE (Xo L o13)
def Xp [An A Int](L:Nat)(o14:Nat×Cp):A:=
 (sl o14.1 [(lf o14.2.1)])
def Bol:Be:=(Ali L kk)
theorem Cew(a0:Ac)(a1:Cn)(o14:Nat×Cp):kX [.exit 0] (Ai6 a0 a1) (Bol L kk) o14=ob (Xp L o14) (kQ I kk):=eE (Xp L o14)
def Xq [An A Int](L:Nat)(o15:Nat×Cp):A:=
 (sl o15.1 [(lf o15.2.1)])
def Bom:Be:=(Ali L kk)
theorem Cex(a0:Ac)(a1:Cn)(o15:Nat×Cp):kX [.exit 0] (Ai6 a0 a1) (Bom L kk) o15=ob (Xq L o15) (kQ I kk):=eE (Xq L o15)
def Xr [An A Int](L:Nat)(o16:Nat×Cp):A:=
 (sl o16.1 [(lf o16.2.1)])
def Bon:Be:=(Ali L kk)
theorem Cey(a0:Ac)(a1:Cn)(o16:Nat×Cp):kX [.exit 0] (Ai6 a0 a1) (Bon L kk) o16=ob (Xr L o16) (kQ I kk):=eE (Xr L o16)
def Xs [An A Int](L:Nat)(o17:Nat×Cp):A:=
 (sl o17.1 [(lf o17.2.1)])
def Boo:Be:=(Ali L kk)
theorem Cez(a0:Ac)(a1:Cn)(o17:Nat×Cp):kX [.exit 0] (Ai6 a0 a1) (Boo L kk) o17=ob (Xs L o17) (kQ I kk):=eE (Xs L o17)
def Adc [An A Int](a0:Ac)(a1:Cn)(nx1:A)(nx2:Int→A)(nx3:A)(nx4:Int→A)(nx5:A)(nx6:Int→A)(nx7:A)(nx8:A):A:=
 (cn a1.E
 (bd (Ra L (Ab.cp a0.E)) fun r1=>
 (jp (.cn (r1 == 0)
 (.lf a1.F)
 (.lf false)) (fun b2=>
 (cn b2
 (bd (Ra L (Ab.cp a0.F)) fun r3=>
 (jp (.cn (r3 == 0)
 (.lf (decide ((a0.Args.length:Int) > 6)))
 (.lf false)) (fun b4=>
 (cn b4
 nx1
 (nx2 r3)))))
 (jp (.cn (r1 == 0)
 (.lf (decide ((a0.Args.length:Int) > 6)))
 (.lf false)) (fun b7=>
 (cn b7
 nx3
 (nx4 r1))))))))
 (nq (cn a1.F
 (bd (Ra L (Ab.cp a0.F)) fun r8=>
 (jp (.cn (r8 == 0)
 (.lf (decide ((a0.Args.length:Int) > 6)))
 (.lf false)) (fun b9=>
 (cn b9
 nx5
 (nx6 r8)))))
 (nq (cn (decide ((a0.Args.length:Int) > 6))
 nx7
 nx8)))))
def A04 [An A Int](a0:Ac)(a1:Cn):A:=Adc L a0 a1 (bd (Dw L a0 a1 L 6 0) fun o10=>Xl L o10) (fun r3=>bd (Dw L a0 a1 L r3 0) fun o11=>Xm L o11) (bd (Dw L a0 a1 L 6 0) fun o12=>Xn L o12) (fun r1=>bd (Dw L a0 a1 L r1 0) fun o13=>Xo L o13) (bd (Dw L a0 a1 L 6 0) fun o14=>Xp L o14) (fun r8=>bd (Dw L a0 a1 L r8 0) fun o15=>Xq L o15) (bd (Dw L a0 a1 L 6 0) fun o16=>Xr L o16) (bd (Dw L a0 a1 L 0 0) fun o17=>Xs L o17)
def Aky(a0:Ac)(a1:Cn):Option Int:=A04 L a0 a1
def Cid:Gh:=E2 I 193 H3 Bfk (Aky L) fun a0 a1 r h=>hF Tryz.func193 (C:=B87 L) (oS _) L (fun kk=>eE (Adc L a0 a1 (ho (Alk L (Boh L kk) a0 a1 L (6,0)) fun o10=>Ces L kk a0 a1 o10) (fun r3=>ho (Alk L (Boi L kk) a0 a1 L (r3,0)) fun o11=>Cet L kk a0 a1 o11) (ho (Alk L (Boj L kk) a0 a1 L (6,0)) fun o12=>Ceu L kk a0 a1 o12) (fun r1=>ho (Alk L (Bok L kk) a0 a1 L (r1,0)) fun o13=>Cev L kk a0 a1 o13) (ho (Alk L (Bol L kk) a0 a1 L (6,0)) fun o14=>Cew L kk a0 a1 o14) (fun r8=>ho (Alk L (Bom L kk) a0 a1 L (r8,0)) fun o15=>Cex L kk a0 a1 o15) (ho (Alk L (Bon L kk) a0 a1 L (6,0)) fun o16=>Cey L kk a0 a1 o16) (ho (Alk L (Boo L kk) a0 a1 L (0,0)) fun o17=>Cez L kk a0 a1 o17))) h
def Ayr [An A Int](a0:Ac):A:=
 (bd (Aq5 L a0.Op) fun r1=>
 (bd (Aii L (Ac.cp a0)) fun r2=>
 (cn (!r2)
 (lf 1)
 (jb (.cn r1.1.Name
 (.bd (Q0 L a0.Name) fun r4=>
 (.lf (r4 != 0)))
 (.lf false)) (fun b3=>
 (jb (.cn b3
 (.lf true)
 (.cn r1.1.Of
 (.bd (Q0 L a0.Of) fun r6=>
 (.lf (r6 != 0)))
 (.lf false))) (fun b5=>
 (cn b5
 (lf 3)
 (bd (Aky L (Ac.cp a0) r1.1) fun r7=>
 (jp (.cn (r7 == 0)
 (.lf r1.1.Dist)
 (.lf false)) (fun b8=>
 (cn b8
 (bd (Aal L a0.Dist) fun r9=>
 (lf r9))
 (lf r7)))))))))))))
def Am1(a0:Ac):Option Int:=Ayr L a0
def B9w:Gh:=E1 I 164 H3 (Am1 L) fun a0 r h=>hF Tryz.func164 (oS [X70 L,B90 L,B91 L,Cic L,Cid L]) L (fun kk=>eE (Ayr L a0)) h
def Bly(F:(List Ac)→Option Int):Prop:=∀y0 r,F y0=some r→Ho Tryz.prog 133 [Aae.en y0] I r
def Cj9:=CC Tryz.f133
def B8u(D9:(List Ac)→Option Int)(L:Nat):Bi:=(orc 133 (A1 I Aae D9) (oL [B9w L]))
theorem Cq8(D9:(List Ac)→Option Int)(Bv1:Bly D9)(L:Nat):Er Tryz.prog (B8u D9 L):=(Hk (a1 _ Bv1) (oS [B9w L]))
def Bq5(a0:List Ac)(v:Cp):St:=⟨[(0,lv (.t99 a0)),(2,I v.1),(3,I v.2)],[],0⟩
def Af6 [An A B8](D9:(List Ac)→Option Int)(L:Nat)(a0:List Ac)(rec:Int→Int→A)(Ag:Int)(Aj:Int):A:=
 (lw Aj a0
 (bd (Am1 L (Ac.cp (a0.getD (Int.toNat Aj) default))) fun r1=>
 (cn (r1 == 0)
 (gi Aj a0
 (bd (D9 ((a0.getD (Int.toNat Aj) default).Body)) fun r2=>
 (cn (r2 == 0)
 (gi Aj a0
 (bd (D9 ((a0.getD (Int.toNat Aj) default).Else)) fun r3=>
 (cn (r3 != 0)
 (lf (0,r3,Aj))
 (rec Ag (Cq (Aj+1))))))
 (cn (r2 != 0)
 (lf (0,r2,Aj))
 (rec Ag (Cq (Aj+1)))))))
 (cn (r1 == 0)
 (gi Aj a0
 (bd (D9 ((a0.getD (Int.toNat Aj) default).Else)) fun r4=>
 (cn (r4 != 0)
 (lf (0,r4,Aj))
 (rec Ag (Cq (Aj+1))))))
 (cn (r1 != 0)
 (lf (0,r1,Aj))
 (rec Ag (Cq (Aj+1)))))))
 (lf (1,Ag,Aj)))
def Sh(D9:(List Ac)→Option Int)(L:Nat)(a0:List Ac):Nat→Int→Int→Option B8
 |0,_,_=>none
 |n+1,Ag,Aj=>Af6 D9 L a0 (Sh D9 L a0 n) Ag Aj
theorem B4l(D9:(List Ac)→Option Int)(L:Nat)(K:Be)(a0:List Ac):LP (EV (B8u D9 L) L 9 Cj9.u.l.u.l.l) [0,2,3] [] (Bq5 a0) [.ret,.exit 0] (fun n v=>Sh D9 L a0 n v.1 v.2) K:=lE (fun _=>rfl) fun n v ih=>eE (Af6 D9 L a0 (fun Ag Aj=>re (ih (Ag,Aj))) v.1 v.2)
def n6 [An A Int](D9:(List Ac)→Option Int)(L:Nat)(o5:Nat×Cp):A:=
 (sl o5.1 [(lf o5.2.1),
 (lf 0)])
def Bnk(D9:(List Ac)→Option Int)(L:Nat)(kk:Dm):Be:=(Ax 0 (Bk (EV (B8u D9 L) L 9 Cj9.u.r) (C0 Tryz.prog (RS Tryz.f133) kk)))
theorem Cdv(D9:(List Ac)→Option Int)(L:Nat)(kk:Dm)(a0:List Ac)(o5:Nat×Cp):kX [.ret,.exit 0] (Bq5 a0) (Bnk D9 L kk) o5=ob (n6 D9 L o5) (kQ I kk):=eE (n6 D9 L o5)
def A5d [An A Int](D9:(List Ac)→Option Int)(L:Nat)(a0:List Ac):A:=(bd (Sh D9 L a0 L 0 0) fun o5=>n6 D9 L o5)
def Auw(D9:(List Ac)→Option Int)(L:Nat)(a0:List Ac):Option Int:=A5d D9 L a0
theorem Cps(D9:(List Ac)→Option Int)(Bv1:Bly D9)(L:Nat):Bly (Auw D9 L):=fun a0 r h=>hF Tryz.func133 (Cq8 D9 Bv1 L) L (fun kk=>eE ((ho (B4l D9 L (Bnk D9 L kk) a0 L (0,0)) fun o5=>Cdv D9 L kk a0 o5))) h
def Uk:Nat→(List Ac)→Option Int
 |0,_=>none
 |L+1,a0=>Auw (Uk L) L a0
theorem B2n(L:Nat):Bly (Uk L):=by
 induction L with
 |zero=>exact fun _ _ h=>(by cases h)
 |succ L ih=>
  have i133:=ih
  exact Cps (Uk L) i133 L
def Chq(L:Nat):Gh:=E1 I 133 Aae (Uk L) (B2n L)
def Are [An A Int](a0:List Ac):A:=
 (bd (Rc L a0) fun r1=>
 (cn (decide (r1 > 200))
 (lf 6)
 (bd (Re L a0) fun r2=>
 (cn (decide (r2 > 12))
 (lf 11)
 (bd (Uk L a0) fun r3=>
 (lf r3))))))
def Agt(a0:List Ac):Option Int:=Are L a0
def X76:Gh:=E1 I 76 Aae (Agt L) fun a0 r h=>hF Tryz.func76 (oS [Cho L,Chp L,Chq L]) L (fun kk=>eE (Are L a0)) h
def Ckg:=CC Tryz.f161
def B8y:Bi:=oL [X69 L,X71 L,X73 L,X76 L,Bz7 L]
def Brh(a0:Ak)(v:Tu7):St:=⟨[(0,.any),(1,.loc 1 0),(2,I v.1),(3,.lst true (.t9 v.2.1)),(4,.lst true (.t190 (a0.Params++a0.Locals))),(5,I v.2.2)],[(1,(B5 a0))],0⟩
def Ys [An A (Nat×Tu7)](a0:Ak)(rec:Int→List ByteArray→Int→A)(Ao:Int)(Ag:List ByteArray)(Ai:Int):A:=
 (lw Ai (a0.Params++a0.Locals)
 (bd (N1 L (((a0.Params++a0.Locals).getD (Int.toNat Ai) default).Name) Ag) fun r2=>
 (gi Ai (a0.Params++a0.Locals)
 (bd (Wz L (((a0.Params++a0.Locals).getD (Int.toNat Ai) default).Type_)) fun r3=>
 (bd (Co L r3 1) fun r4=>
 (bd (C9 L r2 r4) fun r5=>
 (cn (r5 != 0)
 (lf (0,r5,Ag,Ai))
 (gi Ai (a0.Params++a0.Locals)
 (gq ((Ag.length+ [((a0.Params++a0.Locals).getD (Int.toNat Ai) default).Name].length)*16≤140737488355328)
 (gq (Ag.length+ [((a0.Params++a0.Locals).getD (Int.toNat Ai) default).Name].length≤maxLen)
 (rec Ao (Ag++ [((a0.Params++a0.Locals).getD (Int.toNat Ai) default).Name]) (Cq (Ai+1))))))))))))
 (lf (1,Ao,Ag,Ai)))
def Kt(L:Nat)(a0:Ak):Nat→Int→List ByteArray→Int→Option (Nat×Tu7)
 |0,_,_,_=>none
 |n+1,Ao,Ag,Ai=>Ys L a0 (Kt L a0 n) Ao Ag Ai
theorem B4x(a0:Ak):LP (EV (B8y L) L 9 Ckg.x.l.u.l.l) [0,1,2,3,4,5] [1] (Brh a0) [.ret,.exit 0] (fun n v=>Kt L a0 n v.1 v.2.1 v.2.2) K:=lE (fun _=>rfl) fun n v ih=>eE (Ys L a0 (fun Ao Ag Ai=>re (ih (Ao,Ag,Ai))) v.1 v.2.1 v.2.2)
def Tu [An A Int](a0:Ak)(o6:Nat×Tu7):A:=
 (sl o6.1 [(lf o6.2.1),
 (bd (Agt L a0.Body) fun r7=>
 (lf r7))])
def Bn4:Be:=(Ax 0 (Bk (EV (B8y L) L 9 Ckg.x.r) (C0 Tryz.prog (RS Tryz.f161) kk)))
theorem Cef(a0:Ak)(o6:Nat×Tu7):kX [.ret,.exit 0] (Brh a0) (Bn4 L kk) o6=ob (Tu L a0 o6) (kQ I kk):=eE (Tu L a0 o6)
def Zl [An A Int](L:Nat)(a0:Ak)(nx1:A):A:=
 (jp (.cn (decide ((a0.Params.length:Int) > 6))
 (.lf true)
 (.lf (decide ((Cq ((a0.Params.length:Int)+(a0.Locals.length:Int))) > 16)))) (fun b1=>
 (cn b1
 (lf 6)
 (gq ((0+a0.Params.length)*24≤140737488355328)
 (gq (0+a0.Params.length≤maxLen)
 (gq ((a0.Params.length+a0.Locals.length)*24≤140737488355328)
 (gq (a0.Params.length+a0.Locals.length≤maxLen)
 nx1)))))))
def At4 [An A Int](a0:Ak):A:=Zl L a0 (bd (Kt L a0 L 0 [] 0) fun o6=>Tu L a0 o6)
def Afr(a0:Ak):Option Int:=At4 L a0
def Chz:Gh:=E1 I 161 Abk (Afr L) fun a0 r h=>hF Tryz.func161 (C:=B8y L) (oS _) L (fun kk=>eE (Zl L a0 (ho (B4x L (Bn4 L kk) a0 L (0,[],0)) fun o6=>Cef L kk a0 o6))) h
def Lu [An A Int](a0:Aa)(a1:Int)(a2:Int):A:=
 (cn (a1 == 0)
 (gi a2 a0.Vars
 (bd (Wz L ((a0.Vars.getD (Int.toNat a2) default).Type_)) fun r1=>
 (bd (Co L r1 1) fun r2=>
 (gi a2 a0.Vars
 (gi a2 a0.Vars
 (bd (Ul L ((a0.Vars.getD (Int.toNat a2) default).Type_) ((a0.Vars.getD (Int.toNat a2) default).N)) fun r3=>
 (bd (Co L r3 2) fun r4=>
 (bd (C9 L r2 r4) fun r5=>
 (lf r5)))))))))
 (cn (a1 == 1)
 (gi a2 a0.Resources
 (bd (W0 L a0 (⟨(a0.Resources.getD (Int.toNat a2) default).Name,(a0.Resources.getD (Int.toNat a2) default).Units,(a0.Resources.getD (Int.toNat a2) default).Shift,(a0.Resources.getD (Int.toNat a2) default).Cycle,(⟨((a0.Resources.getD (Int.toNat a2) default).Fault).Stream,(((a0.Resources.getD (Int.toNat a2) default).Fault).Up),(((a0.Resources.getD (Int.toNat a2) default).Fault).Down)⟩:Gu)⟩:Af)) fun r6=>
 (lf r6)))
 (cn (a1 == 2)
 (gi a2 a0.Stores
 (gi a2 a0.Stores
 (bd (D2 L ((a0.Stores.getD (Int.toNat a2) default).Room) 1 1000) fun r7=>
 (bd (Co L r7 2) fun r8=>
 (jp (.cn (decide ((a0.Stores.getD (Int.toNat a2) default).Policy≥1))
 (.lf (decide ((a0.Stores.getD (Int.toNat a2) default).Policy≤3)))
 (.lf false)) (fun b9=>
 (bd (Co L b9 1) fun r10=>
 (bd (C9 L r8 r10) fun r11=>
 (lf r11)))))))))
 (cn (a1 == 3)
 (gi a2 a0.Belts
 (bd (D2 L ((a0.Belts.getD (Int.toNat a2) default).Length) 1 1000) fun r12=>
 (jb (.cn r12
 (.gq (0≤a2)
 (.gq (a2 < (a0.Belts.length:Int))
 (.bd (D2 L ((a0.Belts.getD (Int.toNat a2) default).Step) 1 1000) fun r14=>
 (.lf r14))))
 (.lf false)) (fun b13=>
 (bd (Co L b13 2) fun r15=>
 (lf r15))))))
 (cn (a1 == 9)
 (gi a2 a0.Routines
 (bd (Afr L (a0.Routines.getD (Int.toNat a2) default)) fun r16=>
 (lf r16)))
 (lf 0))))))
def Dt(a0:Aa)(a1:Int)(a2:Int):Option Int:=Lu L a0 a1 a2
def Chl:Gh:=E3 I 127 C3 (cI .i64) (cI .i64) (Dt L) fun a0 a1 a2 r h=>hF Tryz.func127 (oS [X51 L,X69 L,X71 L,X79 L,Bz7 L,Chy L,Chz L]) L (fun kk=>eE (Lu L a0 a1 a2)) h
def Al0 [An A Int](a0:Aa)(a1:ByteArray):A:=
 (bd (Aam L a0) fun r1=>
 (gi 9 r1
 (bd (Mn L (r1.getD 9 default) a1) fun r2=>
 (lf r2))))
def Se(a0:Aa)(a1:ByteArray):Option Int:=Al0 L a0 a1
def B9v:Gh:=E2 I 162 C3 cS (Se L) fun a0 a1 r h=>hF Tryz.func162 (oS [Bsm L,Bz8 L]) L (fun kk=>eE (Al0 L a0 a1)) h
def Cj4:=CC Tryz.f128
def B8p:Bi:=oL [X51 L,X71 L,X79 L,B9v L]
def Bq0(a0:Aa)(r1:Int)(a1:Bm)(v:Cp):St:=⟨[(0,.any),(1,.any),(2,.any),(3,.loc 3 0),(4,I v.1),(5,.any),(6,lv (.t190 ((a0.Routines.getD (Int.toNat r1) default).Params))),(7,I v.2),(8,.any)],[(2,(Ae a0)),(3,(N4 a1))],0⟩
def Ab7 [An A B8](a0:Aa)(r1:Int)(a1:Bm)(rec:Int→Int→A)(Ao:Int)(Aj:Int):A:=
 (lw Aj ((a0.Routines.getD (Int.toNat r1) default).Params)
 (gi Aj a1.Args
 (bd (Ul L ((((a0.Routines.getD (Int.toNat r1) default).Params).getD (Int.toNat Aj) default).Type_) (a1.Args.getD (Int.toNat Aj) default)) fun r2=>
 (cn (!r2)
 (lf (0,2,Aj))
 (rec Ao (Cq (Aj+1))))))
 (lf (1,Ao,Aj)))
def Pu(L:Nat)(a0:Aa)(r1:Int)(a1:Bm):Nat→Int→Int→Option B8
 |0,_,_=>none
 |n+1,Ao,Aj=>Ab7 L a0 r1 a1 (Pu L a0 r1 a1 n) Ao Aj
theorem B4g(a0:Aa)(r1:Int)(a1:Bm):LP (EV (B8p L) L 9 Cj4.x.u.l.u.l.l) [0,1,2,3,4,5,6,7,8] [2,3] (Bq0 a0 r1 a1) [.ret,.exit 0] (fun n v=>Pu L a0 r1 a1 n v.1 v.2) K:=lE (fun _=>rfl) fun n v ih=>eE (Ab7 L a0 r1 a1 (fun Ao Aj=>re (ih (Ao,Aj))) v.1 v.2)
def Xx [An A Int](a1:Bm)(o3:Nat×Cp):A:=
 (sl o3.1 [(lf o3.2.1),
 (bd (D2 L a1.At 0 1000000000) fun r4=>
 (jb (.cn r4
 (.bd (D2 L a1.Every 0 1000000000) fun r6=>
 (.lf r6))
 (.lf false)) (fun b5=>
 (jb (.cn b5
 (.bd (D2 L a1.Until 0 1000000000) fun r8=>
 (.lf r8))
 (.lf false)) (fun b7=>
 (jp (.cn b7
 (.cn (a1.Every != 0)
 (.lf true)
 (.lf (a1.Until == 0)))
 (.lf false)) (fun b9=>
 (bd (Co L b9 2) fun r10=>
 (lf r10)))))))))])
def Bnf:Be:=(Ax 0 (Bk (EV (B8p L) L 9 Cj4.x.u.r) (C0 Tryz.prog (RS Tryz.f128) kk)))
theorem Cdq(a0:Aa)(r1:Int)(a1:Bm)(o3:Nat×Cp):kX [.ret,.exit 0] (Bq0 a0 r1 a1) (Bnf L kk) o3=ob (Xx L a1 o3) (kQ I kk):=eE (Xx L a1 o3)
def Adm [An A Int](a0:Aa)(a1:Bm)(nx1:Int→A):A:=
 (bd (Se L a0 a1.Routine) fun r1=>
 (cn (decide (r1 < 0))
 (lf 5)
 (gi r1 a0.Routines
 (cn ((a1.Args.length:Int) != (((a0.Routines.getD (Int.toNat r1) default).Params).length:Int))
 (lf 8)
 (nx1 r1)))))
def A08 [An A Int](a0:Aa)(a1:Bm):A:=Adm L a0 a1 (fun r1=>bd (Pu L a0 r1 a1 L 0 0) fun o3=>Xx L a1 o3)
def Aan(a0:Aa)(a1:Bm):Option Int:=A08 L a0 a1
def Chm:Gh:=E2 I 128 C3 Aw0 (Aan L) fun a0 a1 r h=>hF Tryz.func128 (C:=B8p L) (oS _) L (fun kk=>eE (Adm L a0 a1 (fun r1=>ho (B4g L (Bnf L kk) a0 r1 a1 L (0,0)) fun o3=>Cdq L kk a0 r1 a1 o3))) h
def Ckh:=CC Tryz.f166
def B8z:Bi:=oL [Bsm L,Bz8 L]
def Bri(a1:ByteArray)(r1:List (List ByteArray))(a0:Aa)(v:ByteArray×Int):St:=⟨[(0,.any),(1,S a1),(2,.any),(4,S v.1),(5,lv (.t50 r1)),(6,.lst true (.t9 [(⟨#[118,97,114]⟩:ByteArray),(⟨#[114,101,115,111,117,114,99,101]⟩:ByteArray),(⟨#[115,116,111,114,101]⟩:ByteArray),(⟨#[98,101,108,116]⟩:ByteArray),(⟨#[113,117,101,117,101]⟩:ByteArray),(⟨#[115,116,114,101,97,109]⟩:ByteArray),(⟨#[116,97,108,108,121]⟩:ByteArray),(⟨#[108,101,118,101,108]⟩:ByteArray),(⟨#[99,111,117,110,116]⟩:ByteArray),(⟨#[114,111,117,116,105,110,101]⟩:ByteArray)])),(7,I v.2)],[(2,(Ae a0))],0⟩
def Af7 [An A (Nat×ByteArray×Int)](a1:ByteArray)(r1:List (List ByteArray))(a0:Aa)(rec:ByteArray→Int→A)(Ag:ByteArray)(Bg:Int):A:=
 (lw Bg r1
 (bd (Mn L (r1.getD (Int.toNat Bg) default) a1) fun r2=>
 (cn (decide (r2≥0))
 (gq (0≤Bg)
 (gq (Bg < (([(⟨#[118,97,114]⟩:ByteArray),(⟨#[114,101,115,111,117,114,99,101]⟩:ByteArray),(⟨#[115,116,111,114,101]⟩:ByteArray),(⟨#[98,101,108,116]⟩:ByteArray),(⟨#[113,117,101,117,101]⟩:ByteArray),(⟨#[115,116,114,101,97,109]⟩:ByteArray),(⟨#[116,97,108,108,121]⟩:ByteArray),(⟨#[108,101,118,101,108]⟩:ByteArray),(⟨#[99,111,117,110,116]⟩:ByteArray),(⟨#[114,111,117,116,105,110,101]⟩:ByteArray)].length:Nat):Int))
 (lf (0,(([(⟨#[118,97,114]⟩:ByteArray),(⟨#[114,101,115,111,117,114,99,101]⟩:ByteArray),(⟨#[115,116,111,114,101]⟩:ByteArray),(⟨#[98,101,108,116]⟩:ByteArray),(⟨#[113,117,101,117,101]⟩:ByteArray),(⟨#[115,116,114,101,97,109]⟩:ByteArray),(⟨#[116,97,108,108,121]⟩:ByteArray),(⟨#[108,101,118,101,108]⟩:ByteArray),(⟨#[99,111,117,110,116]⟩:ByteArray),(⟨#[114,111,117,116,105,110,101]⟩:ByteArray)].getD (Int.toNat Bg) default),Bg)))))
 (rec Ag (Cq (Bg+1)))))
 (lf (1,Ag,Bg)))
def Si(L:Nat)(a1:ByteArray)(r1:List (List ByteArray))(a0:Aa):Nat→ByteArray→Int→Option (Nat×ByteArray×Int)
 |0,_,_=>none
 |n+1,Ag,Bg=>Af7 L a1 r1 a0 (Si L a1 r1 a0 n) Ag Bg
theorem B4y(a1:ByteArray)(r1:List (List ByteArray))(a0:Aa):LP (EV (B8z L) L 9 Ckh.w.u.l.u.l.l) [0,1,2,4,5,6,7] [2] (Bri a1 r1 a0) [.ret,.exit 0] (fun n v=>Si L a1 r1 a0 n v.1 v.2) K:=lE (fun _=>rfl) fun n v ih=>eE (Af7 L a1 r1 a0 (fun Ag Bg=>re (ih (Ag,Bg))) v.1 v.2)
def n7 [An A ByteArray](L:Nat)(o3:Nat×ByteArray×Int):A:=
 (sl o3.1 [(lf o3.2.1),
 (lf (⟨#[]⟩:ByteArray))])
def Bn5:Be:=(Ax 0 (Bk (EV (B8z L) L 9 Ckh.w.u.r) (C0 Tryz.prog (RS Tryz.f166) kk)))
theorem Ceg(a1:ByteArray)(r1:List (List ByteArray))(a0:Aa)(o3:Nat×ByteArray×Int):kX [.ret,.exit 0] (Bri a1 r1 a0) (Bn5 L kk) o3=ob (n7 L o3) (kQ S kk):=eE (n7 L o3)
def Agm [An A ByteArray](a0:Aa)(a1:ByteArray)(nx1:(List (List ByteArray))→A):A:=
 (bd (Aam L a0) fun r1=>
 (nx1 r1))
def A5e [An A ByteArray](a0:Aa)(a1:ByteArray):A:=Agm L a0 a1 (fun r1=>bd (Si L a1 r1 a0 L (⟨#[]⟩:ByteArray) 0) fun o3=>n7 L o3)
def Aab(a0:Aa)(a1:ByteArray):Option ByteArray:=A5e L a0 a1
def Bu0:Gh:=E2 S 166 C3 cS (Aab L) fun a0 a1 r h=>hF Tryz.func166 (C:=B8z L) (oS _) L (fun kk=>eE (Agm L a0 a1 (fun r1=>ho (B4y L (Bn5 L kk) a1 r1 a0 L ((⟨#[]⟩:ByteArray),0)) fun o3=>Ceg L kk a1 r1 a0 o3))) h
def Ahq:=CC Tryz.f163
def Atr:Bi:=oL [X69 L,X71 L,X79 L,Bu0 L]
def Bey(a0:Aa)(a1:Av)(p801_1:ByteArray):St:=⟨[(2,.loc 2 0),(3,.loc 3 0),(4,I 0),(5,S p801_1)],[(2,(Ae a0)),(3,(Ef a1))],0⟩
def Bdn(L:Nat)(kk:Dm):Be:=(C0 Tryz.prog (RS Tryz.f163) kk)
def S1 [An A Int](a0:Aa)(a1:Av)(p801_1:ByteArray):A:=
 (bd (Co L (!(p801_1.toList == (⟨#[]⟩:ByteArray).toList)) 1) fun r1=>
 (bd (Aab L a0 a1.Name) fun r2=>
 (bd (Co L (r2.toList == p801_1.toList) 5) fun r3=>
 (bd (C9 L r1 r3) fun r4=>
 (bd (D2 L a1.Coef (-1000) 1000) fun r5=>
 (jp (.cn r5
 (.lf (a1.Coef != 0))
 (.lf false)) (fun b6=>
 (bd (Co L b6 2) fun r7=>
 (bd (C9 L r4 r7) fun r8=>
 (lf r8))))))))))
theorem Bmw(a0:Aa)(a1:Av)(p801_1:ByteArray):EV (Atr L) L 9 Ahq.w.u (Bey a0 a1 p801_1) (Bdn L kk)=ob (S1 L a0 a1 p801_1) (kQ I kk):=eE (S1 L a0 a1 p801_1)
def A4p(a1:Av)(a0:Aa)(p803_3:Bool):St:=⟨[(2,.loc 2 0),(3,.loc 3 0),(4,I 0),(5,S (⟨#[]⟩:ByteArray)),(8,S a1.What),(13,B p803_3)],[(2,(Ae a0)),(3,(Ef a1))],0⟩
def A36(e0:EC):Be:=(Ax 0 (Bk (EV (Atr L) L 9 e0) (C0 Tryz.prog (RS Tryz.f163) kk)))
def sx_R11_term_3 [An A Int](L:Nat)(a1:Av)(a0:Aa)(p803_3:Bool)(nx1:Aa→Av→ByteArray→A):A:=
 (cn p803_3
 (nx1 a0 a1 (⟨#[115,116,111,114,101]⟩:ByteArray))
 (cn (a1.What.toList == (⟨#[99,111,117,110,116,101,100]⟩:ByteArray).toList)
 (nx1 a0 a1 (⟨#[99,111,117,110,116]⟩:ByteArray))
 (nx1 a0 a1 (⟨#[]⟩:ByteArray))))
def Amu [An A Int](a1:Av)(a0:Aa)(p803_3:Bool):A:=sx_R11_term_3 L a1 a0 p803_3 (fun a0 a1 p801_1=>S1 L a0 a1 p801_1)
theorem B1v(a1:Av)(a0:Aa)(p803_3:Bool)(z1:EC):EV (Atr L) L 9 Ahq.w.l.u.l.w.r (A4p a1 a0 p803_3) (A36 L kk (EC.put (rl [1]) z1 Ahq.w.r))= @sx_R11_term_3 Prop (anP (kQ I kk)) L a1 a0 p803_3 (fun a0 a1 p801_1=>EV (Atr L) L 9 z1 (Bey a0 a1 p801_1) (Bdn L kk)):=by kernel_rfl
theorem B04(a1:Av)(a0:Aa)(p803_3:Bool):EV (Atr L) L 9 Ahq.w.l.u.l.w.r (A4p a1 a0 p803_3) (A36 L kk Ahq.w.r)=ob (Amu L a1 a0 p803_3) (kQ I kk):=Eq.trans (b:=EV (Atr L) L 9 Ahq.w.l.u.l.w.r (A4p a1 a0 p803_3) (A36 L kk (EC.put (rl [1]) Ahq.w.u Ahq.w.r))) (by kernel_rfl) ((B1v L kk a1 a0 p803_3 Ahq.w.u).trans (eE (sx_R11_term_3 L a1 a0 p803_3 (fun a0 a1 p801_1=>re (Bmw L kk a0 a1 p801_1)))))
def A4o(a1:Av)(a0:Aa)(p802_3:Bool):St:=⟨[(2,.loc 2 0),(3,.loc 3 0),(4,I 0),(5,S (⟨#[]⟩:ByteArray)),(8,S a1.What),(9,B p802_3)],[(2,(Ae a0)),(3,(Ef a1))],0⟩
def A35(e0:EC):Be:=(Ax 0 (Bk (EV (Atr L) L 9 e0) (C0 Tryz.prog (RS Tryz.f163) kk)))
def sx_R11_term_2 [An A Int](L:Nat)(a1:Av)(a0:Aa)(p802_3:Bool)(nx1:Aa→Av→ByteArray→A)(nx3:Av→Aa→Bool→A):A:=
 (cn p802_3
 (nx1 a0 a1 (⟨#[114,111,117,116,105,110,101]⟩:ByteArray))
 (cn (a1.What.toList == (⟨#[115,116,111,114,101,100]⟩:ByteArray).toList)
 (nx3 a1 a0 (a1.What.toList == (⟨#[115,116,111,114,101,100]⟩:ByteArray).toList))
 (cn (a1.What.toList == (⟨#[101,110,116,101,114,101,100]⟩:ByteArray).toList)
 (nx3 a1 a0 (a1.What.toList == (⟨#[101,110,116,101,114,101,100]⟩:ByteArray).toList))
 (nx3 a1 a0 (a1.What.toList == (⟨#[108,101,102,116]⟩:ByteArray).toList)))))
def Amt [An A Int](a1:Av)(a0:Aa)(p802_3:Bool):A:=sx_R11_term_2 L a1 a0 p802_3 (fun a0 a1 p801_1=>S1 L a0 a1 p801_1) (fun a1 a0 p803_3=>Amu L a1 a0 p803_3)
theorem B1u(a1:Av)(a0:Aa)(p802_3:Bool)(z1 z3:EC):EV (Atr L) L 9 (EC.put (rl [3]) z3 Ahq.w.l.u.l.u) (A4o a1 a0 p802_3) (A35 L kk (EC.put (rl [1]) z1 Ahq.w.r))= @sx_R11_term_2 Prop (anP (kQ I kk)) L a1 a0 p802_3 (fun a0 a1 p801_1=>EV (Atr L) L 9 z1 (Bey a0 a1 p801_1) (Bdn L kk)) (fun a1 a0 p803_3=>EV (Atr L) L 9 z3 (A4p a1 a0 p803_3) (A36 L kk (EC.put (rl [1]) z1 Ahq.w.r))):=by kernel_rfl
theorem B03(a1:Av)(a0:Aa)(p802_3:Bool):EV (Atr L) L 9 Ahq.w.l.u.l.u (A4o a1 a0 p802_3) (A35 L kk Ahq.w.r)=ob (Amt L a1 a0 p802_3) (kQ I kk):=Eq.trans (b:=EV (Atr L) L 9 (EC.put (rl [3]) Ahq.w.l.u.l.w.r Ahq.w.l.u.l.u) (A4o a1 a0 p802_3) (A35 L kk (EC.put (rl [1]) Ahq.w.u Ahq.w.r))) (by kernel_rfl) ((B1u L kk a1 a0 p802_3 Ahq.w.u Ahq.w.l.u.l.w.r).trans (eE (sx_R11_term_2 L a1 a0 p802_3 (fun a0 a1 p801_1=>re (Bmw L kk a0 a1 p801_1)) (fun a1 a0 p803_3=>re (B04 L kk a1 a0 p803_3)))))
def sx_R11_term_0 [An A Int](L:Nat)(a0:Aa)(a1:Av)(nx2:Av→Aa→Bool→A):A:=
 (cn (a1.What.toList == (⟨#[99,114,101,97,116,101,100]⟩:ByteArray).toList)
 (nx2 a1 a0 (a1.What.toList == (⟨#[99,114,101,97,116,101,100]⟩:ByteArray).toList))
 (cn (a1.What.toList == (⟨#[101,110,100,101,100]⟩:ByteArray).toList)
 (nx2 a1 a0 (a1.What.toList == (⟨#[101,110,100,101,100]⟩:ByteArray).toList))
 (nx2 a1 a0 (a1.What.toList == (⟨#[105,110,115,105,100,101]⟩:ByteArray).toList))))
def A5i [An A Int](a0:Aa)(a1:Av):A:=sx_R11_term_0 L a0 a1 (fun a1 a0 p802_3=>Amt L a1 a0 p802_3)
theorem B1t(a0:Aa)(a1:Av)(z2:EC):EW (Atr L) L 9 (RS Tryz.f163) (EC.put (rl [4,1,2,1,2]) z2 Ahq) [.agg (Ae a0),.agg (Ef a1)] kk= @sx_R11_term_0 Prop (anP (kQ I kk)) L a0 a1 (fun a1 a0 p802_3=>EV (Atr L) L 9 z2 (A4o a1 a0 p802_3) (A35 L kk Ahq.w.r)):=by kernel_rfl
def Ajj(a0:Aa)(a1:Av):Option Int:=A5i L a0 a1
def Ch0:Gh:=E2 I 163 C3 A1j (Ajj L) fun a0 a1 r h=>hF Tryz.func163 (C:=Atr L) (oS _) L (fun kk=>Eq.trans (b:=EW (Atr L) L 9 (RS Tryz.f163) (EC.put (rl [4,1,2,1,2]) Ahq.w.l.u.l.u Ahq) [.agg (Ae a0),.agg (Ef a1)] kk) (by kernel_rfl) ((B1t L kk a0 a1 Ahq.w.l.u.l.u).trans (eE (sx_R11_term_0 L a0 a1 (fun a1 a0 p802_3=>re (B03 L kk a1 a0 p802_3)))))) h
def Cj5:=CC Tryz.f129
def B8q:Bi:=oL [X69 L,X71 L,X73 L,X78 L,Ch0 L]
def Bq1(a0:Aa)(a1:Ba)(v:Cp):St:=⟨[(0,.any),(1,.any),(2,.any),(3,.loc 3 0),(4,.loc 4 0),(6,I 0),(7,I v.1),(8,I v.2)],[(3,(Ae a0)),(4,(De a1))],0⟩
def Aiy [An A B8](a0:Aa)(a1:Ba)(rec:Int→Int→A)(Ag:Int)(Aj:Int):A:=
 (lw Aj a1.Terms
 (bd (Ajj L a0 (a1.Terms.getD (Int.toNat Aj) default)) fun r6=>
 (bd (C9 L Ag r6) fun r7=>
 (rec r7 (Cq (Aj+1)))))
 (lf (0,Ag,Aj)))
def Uv(L:Nat)(a0:Aa)(a1:Ba):Nat→Int→Int→Option B8
 |0,_,_=>none
 |n+1,Ag,Aj=>Aiy L a0 a1 (Uv L a0 a1 n) Ag Aj
theorem B4h(a0:Aa)(a1:Ba):LP (EV (B8q L) L 9 Cj5.x.l.u.l.l) [0,1,2,3,4,6,7,8] [3,4] (Bq1 a0 a1) [.exit 0] (fun n v=>Uv L a0 a1 n v.1 v.2) K:=lE (fun _=>rfl) fun n v ih=>eE (Aiy L a0 a1 (fun Ag Aj=>re (ih (Ag,Aj))) v.1 v.2)
def Acv [An A Int](a1:Ba)(o8:Nat×Cp):A:=
 (sl o8.1 [(bd (Amz L a1.Total) fun r9=>
 (bd (Co L r9 2) fun r10=>
 (bd (C9 L o8.2.1 r10) fun r11=>
 (lf r11))))])
def Bng:Be:=(Ax 0 (Bk (EV (B8q L) L 9 Cj5.x.r) (C0 Tryz.prog (RS Tryz.f129) kk)))
theorem Cdr(a0:Aa)(a1:Ba)(o8:Nat×Cp):kX [.exit 0] (Bq1 a0 a1) (Bng L kk) o8=ob (Acv L a1 o8) (kQ I kk):=eE (Acv L a1 o8)
def Ai8 [An A Int](a0:Aa)(a1:Ba)(a2:List ByteArray)(nx1:Int→A):A:=
 (bd (N1 L a1.Name a2) fun r1=>
 (bd (Co L (decide ((a1.Terms.length:Int) > 0)) 7) fun r2=>
 (bd (C9 L r1 r2) fun r3=>
 (bd (Co L (decide ((a1.Terms.length:Int)≤8)) 6) fun r4=>
 (bd (C9 L r3 r4) fun r5=>
 (nx1 r5))))))
def A97 [An A Int](a0:Aa)(a1:Ba)(a2:List ByteArray):A:=Ai8 L a0 a1 a2 (fun r5=>bd (Uv L a0 a1 L r5 0) fun o8=>Acv L a1 o8)
def Am2(a0:Aa)(a1:Ba)(a2:List ByteArray):Option Int:=A97 L a0 a1 a2
def Chn:Gh:=E3 I 129 C3 Bjn cl9 (Am2 L) fun a0 a1 a2 r h=>hF Tryz.func129 (C:=B8q L) (oS _) L (fun kk=>eE (Ai8 L a0 a1 a2 (fun r5=>ho (B4h L (Bng L kk) a0 a1 L (r5,0)) fun o8=>Cdr L kk a0 a1 o8))) h
def c74:=CC Tryz.f74
def O74:Bi:=oL [X69 L,X73 L,Bz8 L,Chl L,Chm L,Chn L]
def Byr(r1:List (List ByteArray))(Ai:Int)(a0:Aa)(v:Tu7):St:=⟨[(0,.any),(1,.loc 1 0),(2,I v.1),(3,.lst true (.t9 v.2.1)),(4,lv (.t50 r1)),(5,I Ai),(6,I v.2.2),(8,.any),(9,.any),(10,.any),(11,.any),(12,.any)],[(1,(Ae a0))],0⟩
def Aga [An A (Nat×Tu7)](r1:List (List ByteArray))(Ai:Int)(a0:Aa)(rec:Int→List ByteArray→Int→A)(Bz:Int)(Ct:List ByteArray)(Yb:Int):A:=
 (gi Ai r1
 (cn (decide (Yb < ((r1.getD (Int.toNat Ai) default).length:Int)))
 (gi Ai r1
 (gi Yb (r1.getD (Int.toNat Ai) default)
 (bd (N1 L ((r1.getD (Int.toNat Ai) default).getD (Int.toNat Yb) default) Ct) fun r3=>
 (bd (Dt L a0 Ai Yb) fun r4=>
 (bd (C9 L r3 r4) fun r5=>
 (cn (r5 != 0)
 (lf (0,r5,Ct,Yb))
 (gi Ai r1
 (gi Yb (r1.getD (Int.toNat Ai) default)
 (gq ((Ct.length+ [((r1.getD (Int.toNat Ai) default).getD (Int.toNat Yb) default)].length)*16≤140737488355328)
 (gq (Ct.length+ [((r1.getD (Int.toNat Ai) default).getD (Int.toNat Yb) default)].length≤maxLen)
 (rec Bz (Ct++ [((r1.getD (Int.toNat Ai) default).getD (Int.toNat Yb) default)]) (Cq (Yb+1)))))))))))))
 (lf (1,Bz,Ct,Yb))))
def Ob(L:Nat)(r1:List (List ByteArray))(Ai:Int)(a0:Aa):Nat→Int→List ByteArray→Int→Option (Nat×Tu7)
 |0,_,_,_=>none
 |n+1,Bz,Ct,Yb=>Aga L r1 Ai a0 (Ob L r1 Ai a0 n) Bz Ct Yb
theorem Ccv(r1:List (List ByteArray))(Ai:Int)(a0:Aa):LP (EV (O74 L) L 9 c74.w.u.l.u.l.l.u.l.l.w.l.l) [0,1,2,3,4,5,6,8,9,10,11,12] [1] (Byr r1 Ai a0) [.ret,.exit 2] (fun n v=>Ob L r1 Ai a0 n v.1 v.2.1 v.2.2) K:=lE (fun _=>rfl) fun n v ih=>eE (Aga L r1 Ai a0 (fun Bz Ct Yb=>re (ih (Bz,Ct,Yb))) v.1 v.2.1 v.2.2)
def Bk5(r1:List (List ByteArray))(a0:Aa)(v:Tu7):St:=⟨[(0,.any),(1,.loc 1 0),(2,I v.1),(3,.lst true (.t9 v.2.1)),(4,lv (.t50 r1)),(5,I v.2.2),(8,.any),(9,.any),(10,.any),(11,.any),(12,.any)],[(1,(Ae a0))],0⟩
def o0 [An A (Nat×Tu7)](L:Nat)(Ai:Int)(rec:Int→List ByteArray→Int→A)(o6:Nat×Tu7):A:=
 (sl o6.1 [(lf (0,o6.2.1,o6.2.2.1,Ai)),
 (rec o6.2.1 o6.2.2.1 (Cq (Ai+1)))])
def Agn [An A (Nat×Tu7)](L:Nat)(r1:List (List ByteArray))(a0:Aa)(rec:Int→List ByteArray→Int→A)(Ao:Int)(Ag:List ByteArray)(Ai:Int)(nx1:Int→Int→(List ByteArray)→A):A:=
 (lw Ai r1
 (jb (.cn (decide (((r1.getD (Int.toNat Ai) default).length:Int) > 32))
 (.lf true)
 (.cn (Ai == 9)
 (.gq (0≤Ai)
 (.gq (Ai < (r1.length:Int))
 (.lf (decide (((r1.getD (Int.toNat Ai) default).length:Int) > 16)))))
 (.lf false))) (fun b2=>
 (cn b2
 (lf (0,6,Ag,Ai))
 (nx1 Ai Ao Ag))))
 (lf (1,Ao,Ag,Ai)))
def Ame [An A (Nat×Tu7)](r1:List (List ByteArray))(a0:Aa)(rec:Int→List ByteArray→Int→A)(Ao:Int)(Ag:List ByteArray)(Ai:Int):A:=Agn L r1 a0 rec Ao Ag Ai (fun Ai Ao Ag=>bd (Ob L r1 Ai a0 L Ao Ag 0) fun o6=>o0 L Ai rec o6)
def Oa(L:Nat)(r1:List (List ByteArray))(a0:Aa):Nat→Int→List ByteArray→Int→Option (Nat×Tu7)
 |0,_,_,_=>none
 |n+1,Ao,Ag,Ai=>Ame L r1 a0 (Oa L r1 a0 n) Ao Ag Ai
def Bup(r1:List (List ByteArray))(a0:Aa):Prop:=LI (EV (O74 L) L 9 c74.w.u.l.u.l.l) [0,1,2,3,4,5,8,9,10,11,12] [1] (Bk5 r1 a0) [.ret,.exit 0] (fun n v=>Oa L r1 a0 n v.1 v.2.1 v.2.2) K n
def Bxe:Be:=(Ax 2 (Ax 1 (Bk (EV (O74 L) L 9 c74.w.u.l.u.l.l.u.r) (Ir (Lh (EV (O74 L) L 9 c74.w.u.l.u.l.l) [0,1,2,3,4,5,8,9,10,11,12] [1] n) [0,1,2,3,4,5,8,9,10,11,12] [1] K))))
theorem Cob(r1:List (List ByteArray))(Ai:Int)(a0:Aa)(ih:Bup L n K r1 a0)(o6:Nat×Tu7):kX [.ret,.exit 2] (Byr r1 Ai a0) (Bxe L n K) o6=ob (o0 L Ai (Oa L r1 a0 n) o6) (kX [.ret,.exit 0] (Bk5 r1 a0) K):=eE (o0 L Ai (fun Ao Ag Ai=>re (ih (Ao,Ag,Ai))) o6)
theorem Ccu(r1:List (List ByteArray))(a0:Aa):∀n,Bup L n K r1 a0:=lE (fun _=>rfl) fun n v ih=>eE (Agn L r1 a0 (fun Ao Ag Ai=>re (ih (Ao,Ag,Ai))) v.1 v.2.1 v.2.2 (fun Ai Ao Ag=>ho (Ccv L (Bxe L n K) r1 Ai a0 L (Ao,Ag,0)) fun o6=>Cob L n K r1 Ai a0 ih o6))
def Bys(a0:Aa)(v:Cp):St:=⟨[(0,.any),(1,.loc 1 0),(2,I v.1),(3,.any),(4,.any),(5,.any),(6,.any),(7,.any),(8,I v.2),(10,.any),(11,.any),(12,.any)],[(1,(Ae a0))],0⟩
def Agb [An A B8](a0:Aa)(rec:Int→Int→A)(Hh:Int)(Jz:Int):A:=
 (lw Jz a0.Starts
 (bd (Aan L a0 (a0.Starts.getD (Int.toNat Jz) default)) fun r8=>
 (cn (r8 != 0)
 (lf (0,r8,Jz))
 (rec Hh (Cq (Jz+1)))))
 (lf (1,Hh,Jz)))
def Sl(L:Nat)(a0:Aa):Nat→Int→Int→Option B8
 |0,_,_=>none
 |n+1,Hh,Jz=>Agb L a0 (Sl L a0 n) Hh Jz
theorem Ccw(a0:Aa):LP (EV (O74 L) L 9 c74.x.u.l.u.l.l) [0,1,2,3,4,5,6,7,8,10,11,12] [1] (Bys a0) [.ret,.exit 4] (fun n v=>Sl L a0 n v.1 v.2) K:=lE (fun _=>rfl) fun n v ih=>eE (Agb L a0 (fun Hh Jz=>re (ih (Hh,Jz))) v.1 v.2)
def Byt(a0:Aa)(v:Tu7):St:=⟨[(0,.any),(1,.loc 1 0),(2,I v.1),(3,.any),(4,.any),(5,.any),(6,.any),(7,.any),(8,.any),(9,.any),(10,.lst true (.t9 v.2.1)),(11,I v.2.2)],[(1,(Ae a0))],0⟩
def Agc [An A (Nat×Tu7)](a0:Aa)(rec:Int→List ByteArray→Int→A)(Lr:Int)(Kf:List ByteArray)(A0t:Int):A:=
 (lw A0t a0.Laws
 (bd (Am2 L a0 (a0.Laws.getD (Int.toNat A0t) default) Kf) fun r10=>
 (cn (r10 != 0)
 (lf (0,r10,Kf,A0t))
 (gi A0t a0.Laws
 (gq ((Kf.length+ [(a0.Laws.getD (Int.toNat A0t) default).Name].length)*16≤140737488355328)
 (gq (Kf.length+ [(a0.Laws.getD (Int.toNat A0t) default).Name].length≤maxLen)
 (rec Lr (Kf++ [(a0.Laws.getD (Int.toNat A0t) default).Name]) (Cq (A0t+1))))))))
 (lf (1,Lr,Kf,A0t)))
def Sm(L:Nat)(a0:Aa):Nat→Int→List ByteArray→Int→Option (Nat×Tu7)
 |0,_,_,_=>none
 |n+1,Lr,Kf,A0t=>Agc L a0 (Sm L a0 n) Lr Kf A0t
theorem Ccx(a0:Aa):LP (EV (O74 L) L 9 c74.x.x.l.u.l.l) [0,1,2,3,4,5,6,7,8,9,10,11] [1] (Byt a0) [.ret,.exit 6] (fun n v=>Sm L a0 n v.1 v.2.1 v.2.2) K:=lE (fun _=>rfl) fun n v ih=>eE (Agc L a0 (fun Lr Kf A0t=>re (ih (Lr,Kf,A0t))) v.1 v.2.1 v.2.2)
def p9 [An A Int](L:Nat)(o11:Nat×Tu7):A:=
 (sl o11.1 [(lf o11.2.1),
 (lf 0)])
def Bxh:Be:=(Ax 6 (Bk (EV (O74 L) L 9 c74.x.x.r) (C0 Tryz.prog (RS Tryz.f74) kk)))
theorem Coe(a0:Aa)(o11:Nat×Tu7):kX [.ret,.exit 6] (Byt a0) (Bxh L kk) o11=ob (p9 L o11) (kQ I kk):=eE (p9 L o11)
def Agq [An A Int](L:Nat)(a0:Aa)(o9:Nat×Cp)(nx4:B8→A):A:=
 (sl o9.1 [(lf o9.2.1),
 (cn (decide ((a0.Laws.length:Int) > 32))
 (lf 6)
 (nx4 o9))])
def Agh [An A Int](a0:Aa)(o9:Nat×Cp):A:=Agq L a0 o9 (fun o9=>bd (Sm L a0 L o9.2.1 [] 0) fun o11=>p9 L o11)
def Bxg:Be:=(Ax 4 (Bk (EV (O74 L) L 9 c74.x.u.r) (C0 Tryz.prog (RS Tryz.f74) kk)))
theorem Cod(a0:Aa)(o9:Nat×Cp):kX [.ret,.exit 4] (Bys a0) (Bxg L kk) o9=ob (Agh L a0 o9) (kQ I kk):=eE (Agq L a0 o9 (fun o9=>ho (Ccx L (Bxh L kk) a0 L (o9.2.1,[],0)) fun o11=>Coe L kk a0 o11))
def Agp [An A Int](L:Nat)(a0:Aa)(o7:Nat×Tu7)(nx3:(Nat×Tu7)→A):A:=
 (sl o7.1 [(lf o7.2.1),
 (cn (decide ((a0.Starts.length:Int) > 32))
 (lf 6)
 (nx3 o7))])
def Agg [An A Int](a0:Aa)(o7:Nat×Tu7):A:=Agp L a0 o7 (fun o7=>bd (Sl L a0 L o7.2.1 0) fun o9=>Agh L a0 o9)
def Bxf:Be:=(Ax 0 (Bk (EV (O74 L) L 9 c74.w.u.r) (C0 Tryz.prog (RS Tryz.f74) kk)))
theorem Coc(r1:List (List ByteArray))(a0:Aa)(o7:Nat×Tu7):kX [.ret,.exit 0] (Bk5 r1 a0) (Bxf L kk) o7=ob (Agg L a0 o7) (kQ I kk):=eE (Agp L a0 o7 (fun o7=>ho (Ccw L (Bxg L kk) a0 L (o7.2.1,0)) fun o9=>Cod L kk a0 o9))
def Ago [An A Int](a0:Aa)(nx2:(List (List ByteArray))→A):A:=
 (bd (Aam L a0) fun r1=>
 (nx2 r1))
def A5h [An A Int](a0:Aa):A:=Ago L a0 (fun r1=>bd (Oa L r1 a0 L 0 [] 0) fun o7=>Agg L a0 o7)
def Aji(a0:Aa):Option Int:=A5h L a0
def X74:Gh:=E1 I 74 C3 (Aji L) fun a0 r h=>hF Tryz.func74 (C:=O74 L) (oS _) L (fun kk=>eE (Ago L a0 (fun r1=>ho (Ccu L (Bxf L kk) r1 a0 L (0,[],0)) fun o7=>Coc L kk r1 a0 o7))) h
end
end Go.Proofs.YtfencmicmnhglaaGreat.Ev
