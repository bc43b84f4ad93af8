import Derived.Test.YtofcpkmnhmnfcaaGreatRG2
import Derived.Test.YtofcpkmnhmnfcaaGreatRG10
namespace Go.Proofs.YtofcpkmnhmnfcaaGreatR.Ev
open Go An
set_option maxRecDepth 100000
set_option maxHeartbeats 4000000
set_option linter.unusedVariables false
set_option linter.unusedSimpArgs false
set_option linter.unnecessarySimpa false
noncomputable section
variable {A:Type} (L n:Nat) (kk:Cz) (K:Ax) (k:Bk)
def Bfo(F:Ab→Bool→Option Int):Prop:=∀y0 y1 r,F y0 y1=some r→Ho Tryz.prog 258 [Bh.en y0,cB.en y1] I r
def Agn:=CC Tryz.f258
def Akg(Bg:Ab→Bool→Option Int)(L:Nat):Ba:=(orc 258 (A2 I Bh cB Bg) (oL [X50 L,X81 L,B4t L,B4u L,B4v L]))
theorem Cl2(Bg:Ab→Bool→Option Int)(Bpj:Bfo Bg)(L:Nat):Dm Tryz.prog (Akg Bg L):=(Dt (a2 _ Bpj) (oS [X50 L,X81 L,B4t L,B4u L,B4v L]))
def Bk1(a1:Bool)(a0:Ab)(v:Co):St:=⟨[(0,.any),(1,B a1),(2,.loc 2 0),(4,I v.1),(5,.any),(6,.any),(7,.any),(8,.any),(9,.any),(10,I v.2)],[(2,(Er a0))],0⟩
def Aqj [An A B7](Bg:Ab→Bool→Option Int)(L:Nat)(a1:Bool)(a0:Ab)(rec:Int→Int→A)(Aj:Int)(Ak:Int):A:=
 (lw Ak a0.Kids
 (bd (Bg (Ab.cp (a0.Kids.getD (Int.toNat Ak) default)) a1) fun r22=>
 (cn (r22 != 0)
 (lf (0,r22,Ak))
 (rec Aj (B6 (Ak+1)))))
 (lf (1,Aj,Ak)))
def Ahz(Bg:Ab→Bool→Option Int)(L:Nat)(a1:Bool)(a0:Ab):Nat→Int→Int→Option B7
 |0,_,_=>none
 |n+1,Aj,Ak=>Aqj Bg L a1 a0 (Ahz Bg L a1 a0 n) Aj Ak
theorem Bzj(Bg:Ab→Bool→Option Int)(L:Nat)(K:Ax)(a1:Bool)(a0:Ab):LP (EV (Akg Bg L) L 9 Agn.x.x.u.l.u.l.l) [0,1,2,4,5,6,7,8,9,10] [2] (Bk1 a1 a0) [.ret,.exit 0] (fun n v=>Ahz Bg L a1 a0 n v.1 v.2) K:=lE (fun _=>rfl) fun n v ih=>eE (Aqj Bg L a1 a0 (fun Aj Ak=>re (ih (Aj,Ak))) v.1 v.2)
def Bjk(a1:Bool)(b3:Bool)(a0:Ab):St:=⟨[(1,B a1),(2,.loc 2 0),(4,I 0),(7,B b3)],[(2,(Er a0))],0⟩
def Bi3(Bg:Ab→Bool→Option Int)(L:Nat)(kk:Cz):Ax:=(Cm Tryz.prog (RS Tryz.f258) kk)
def Aif [An A Int](Bg:Ab→Bool→Option Int)(L:Nat)(o23:Nat×Co):A:=
 (sl o23.1 [(lf o23.2.1),
 (lf 0)])
def Bh2(Bg:Ab→Bool→Option Int)(L:Nat)(kk:Cz):Ax:=(Av 0 (Bb (EV (Akg Bg L) L 9 Agn.x.x.u.r) (Cm Tryz.prog (RS Tryz.f258) kk)))
theorem B9u(Bg:Ab→Bool→Option Int)(L:Nat)(kk:Cz)(a1:Bool)(a0:Ab)(o23:Nat×Co):kX [.ret,.exit 0] (Bk1 a1 a0) (Bh2 Bg L kk) o23=ob (Aif Bg L o23) (kQ I kk):=eE (Aif Bg L o23)
def Are [An A Int](Bg:Ab→Bool→Option Int)(L:Nat)(a1:Bool)(b3:Bool)(a0:Ab)(nx1:A):A:=
 (jb (.cn b3
 (.bd (U9 L a0.Name) fun r20=>
 (.lf (r20 != 0)))
 (.lf false)) (fun b19=>
 (cn b19
 (bd (U9 L a0.Name) fun r21=>
 (lf r21))
 nx1)))
def Aq7 [An A Int](Bg:Ab→Bool→Option Int)(L:Nat)(a1:Bool)(b3:Bool)(a0:Ab):A:=Are Bg L a1 b3 a0 (bd (Ahz Bg L a1 a0 L 0 0) fun o23=>Aif Bg L o23)
theorem Bvt(Bg:Ab→Bool→Option Int)(L:Nat)(kk:Cz)(a1:Bool)(b3:Bool)(a0:Ab):EV (Akg Bg L) L 9 Agn.x.x (Bjk a1 b3 a0) (Bi3 Bg L kk)=ob (Aq7 Bg L a1 b3 a0) (kQ I kk):=eE (Are Bg L a1 b3 a0 (ho (Bzj Bg L (Bh2 Bg L kk) a1 a0 L (0,0)) fun o23=>B9u Bg L kk a1 a0 o23))
def A1b(a1:Bool)(b3:Bool)(b5:Bool)(a0:Ab):St:=⟨[(1,B a1),(2,.loc 2 0),(4,I 0),(7,B b3),(8,B b5)],[(2,(Er a0))],0⟩
def A0t(Bg:Ab→Bool→Option Int)(L:Nat)(kk:Cz):Ax:=(Cm Tryz.prog (RS Tryz.f258) kk)
def sx_R09_node_3 [An A Int](Bg:Ab→Bool→Option Int)(L:Nat)(a1:Bool)(b3:Bool)(b5:Bool)(a0:Ab)(nx4:Bool→Bool→Ab→A):A:=
 (cn (a0.Op == 1)
 (bd (As2 L a0.N) fun r12=>
 (cn (!r12)
 (lf 2)
 (cn (a0.Op == 2)
 (cn (a0.N != 0)
 (cn (a0.N != 1)
 (lf 2)
 (cn b5
 (cn (decide (a0.N < 0))
 (lf 2)
 (bd (Y7 L a0.Op) fun r13=>
 (cn (decide (a0.N > r13))
 (lf 2)
 (nx4 a1 b3 a0))))
 (nx4 a1 b3 a0)))
 (cn b5
 (cn (decide (a0.N < 0))
 (lf 2)
 (bd (Y7 L a0.Op) fun r14=>
 (cn (decide (a0.N > r14))
 (lf 2)
 (nx4 a1 b3 a0))))
 (nx4 a1 b3 a0)))
 (cn b5
 (cn (decide (a0.N < 0))
 (lf 2)
 (bd (Y7 L a0.Op) fun r15=>
 (cn (decide (a0.N > r15))
 (lf 2)
 (nx4 a1 b3 a0))))
 (nx4 a1 b3 a0)))))
 (cn (a0.Op == 2)
 (cn (a0.N != 0)
 (cn (a0.N != 1)
 (lf 2)
 (cn b5
 (cn (decide (a0.N < 0))
 (lf 2)
 (bd (Y7 L a0.Op) fun r16=>
 (cn (decide (a0.N > r16))
 (lf 2)
 (nx4 a1 b3 a0))))
 (nx4 a1 b3 a0)))
 (cn b5
 (cn (decide (a0.N < 0))
 (lf 2)
 (bd (Y7 L a0.Op) fun r17=>
 (cn (decide (a0.N > r17))
 (lf 2)
 (nx4 a1 b3 a0))))
 (nx4 a1 b3 a0)))
 (cn b5
 (cn (decide (a0.N < 0))
 (lf 2)
 (bd (Y7 L a0.Op) fun r18=>
 (cn (decide (a0.N > r18))
 (lf 2)
 (nx4 a1 b3 a0))))
 (nx4 a1 b3 a0))))
def Aq6 [An A Int](Bg:Ab→Bool→Option Int)(L:Nat)(a1:Bool)(b3:Bool)(b5:Bool)(a0:Ab):A:=sx_R09_node_3 Bg L a1 b3 b5 a0 (fun a1 b3 a0=>Aq7 Bg L a1 b3 a0)
theorem Bwj(Bg:Ab→Bool→Option Int)(L:Nat)(kk:Cz)(a1:Bool)(b3:Bool)(b5:Bool)(a0:Ab)(z4:EC):EV (Akg Bg L) L 9 (EC.put (rl [2]) z4 Agn.x.w.u) (A1b a1 b3 b5 a0) (A0t Bg L kk)= @sx_R09_node_3 Prop (anP (kQ I kk)) Bg L a1 b3 b5 a0 (fun a1 b3 a0=>EV (Akg Bg L) L 9 z4 (Bjk a1 b3 a0) (Bi3 Bg L kk)):=by kernel_rfl
theorem Bvs(Bg:Ab→Bool→Option Int)(L:Nat)(kk:Cz)(a1:Bool)(b3:Bool)(b5:Bool)(a0:Ab):EV (Akg Bg L) L 9 Agn.x.w.u (A1b a1 b3 b5 a0) (A0t Bg L kk)=ob (Aq6 Bg L a1 b3 b5 a0) (kQ I kk):=Eq.trans (b:=EV (Akg Bg L) L 9 (EC.put (rl [2]) Agn.x.x Agn.x.w.u) (A1b a1 b3 b5 a0) (A0t Bg L kk)) (by kernel_rfl) ((Bwj Bg L kk a1 b3 b5 a0 Agn.x.x).trans (eE (sx_R09_node_3 Bg L a1 b3 b5 a0 (fun a1 b3 a0=>re (Bvt Bg L kk a1 b3 a0)))))
def A1a(a1:Bool)(r1:Int)(b2:Bool)(b3:Bool)(b5:Bool)(b8:Bool)(a0:Ab):St:=⟨[(1,B a1),(2,.loc 2 0),(4,I 0),(5,I r1),(6,B b2),(7,B b3),(8,B b5),(9,B b8)],[(2,(Er a0))],0⟩
def A0s(Bg:Ab→Bool→Option Int)(L:Nat)(kk:Cz):Ax:=(Cm Tryz.prog (RS Tryz.f258) kk)
def sx_R09_node_2 [An A Int](Bg:Ab→Bool→Option Int)(L:Nat)(a1:Bool)(r1:Int)(b2:Bool)(b3:Bool)(b5:Bool)(b8:Bool)(a0:Ab)(nx3:Bool→Bool→Bool→Ab→A):A:=
 (jp (.cn (!b2)
 (.lf true)
 (.cn (!b3)
 (.lf (!(a0.Name.toList == (⟨#[]⟩:ByteArray).toList)))
 (.lf false))) (fun b9=>
 (jp (.cn b9
 (.lf true)
 (.cn (!b8)
 (.lf (a0.N != 0))
 (.lf false))) (fun b10=>
 (jp (.cn b10
 (.lf true)
 (.lf ((a0.Kids.length:Int) != r1))) (fun b11=>
 (cn b11
 (lf 1)
 (nx3 a1 b3 b5 a0))))))))
def Aq5 [An A Int](Bg:Ab→Bool→Option Int)(L:Nat)(a1:Bool)(r1:Int)(b2:Bool)(b3:Bool)(b5:Bool)(b8:Bool)(a0:Ab):A:=sx_R09_node_2 Bg L a1 r1 b2 b3 b5 b8 a0 (fun a1 b3 b5 a0=>Aq6 Bg L a1 b3 b5 a0)
theorem Bwi(Bg:Ab→Bool→Option Int)(L:Nat)(kk:Cz)(a1:Bool)(r1:Int)(b2:Bool)(b3:Bool)(b5:Bool)(b8:Bool)(a0:Ab)(z3:EC):EV (Akg Bg L) L 9 (EC.put (rl [2]) z3 Agn.x.w) (A1a a1 r1 b2 b3 b5 b8 a0) (A0s Bg L kk)= @sx_R09_node_2 Prop (anP (kQ I kk)) Bg L a1 r1 b2 b3 b5 b8 a0 (fun a1 b3 b5 a0=>EV (Akg Bg L) L 9 z3 (A1b a1 b3 b5 a0) (A0t Bg L kk)):=by kernel_rfl
theorem Bvq(Bg:Ab→Bool→Option Int)(L:Nat)(kk:Cz)(a1:Bool)(r1:Int)(b2:Bool)(b3:Bool)(b5:Bool)(b8:Bool)(a0:Ab):EV (Akg Bg L) L 9 Agn.x.w (A1a a1 r1 b2 b3 b5 b8 a0) (A0s Bg L kk)=ob (Aq5 Bg L a1 r1 b2 b3 b5 b8 a0) (kQ I kk):=Eq.trans (b:=EV (Akg Bg L) L 9 (EC.put (rl [2]) Agn.x.w.u Agn.x.w) (A1a a1 r1 b2 b3 b5 b8 a0) (A0s Bg L kk)) (by kernel_rfl) ((Bwi Bg L kk a1 r1 b2 b3 b5 b8 a0 Agn.x.w.u).trans (eE (sx_R09_node_2 Bg L a1 r1 b2 b3 b5 b8 a0 (fun a1 b3 b5 a0=>re (Bvs Bg L kk a1 b3 b5 a0)))))
def A09(a1:Bool)(r1:Int)(b2:Bool)(b3:Bool)(a0:Ab):St:=⟨[(1,B a1),(2,.loc 2 0),(4,I 0),(5,I r1),(6,B b2),(7,B b3)],[(2,(Er a0))],0⟩
def A0r(Bg:Ab→Bool→Option Int)(L:Nat)(kk:Cz):Ax:=(Cm Tryz.prog (RS Tryz.f258) kk)
def sx_R09_node_1 [An A Int](Bg:Ab→Bool→Option Int)(L:Nat)(a1:Bool)(r1:Int)(b2:Bool)(b3:Bool)(a0:Ab)(nx2:Bool→Int→Bool→Bool→Bool→Bool→Ab→A):A:=
 (jb (.cn a1
 (.bd (Akd L a0.Op) fun r6=>
 (.cn r6
 (.lf true)
 (.cn (a0.Op == 25)
 (.lf true)
 (.lf (a0.Op == 26)))))
 (.lf false)) (fun b5=>
 (jp (.cn (a0.Op == 1)
 (.lf true)
 (.lf (a0.Op == 2))) (fun b7=>
 (jp (.cn b7
 (.lf true)
 (.lf b5)) (fun b8=>
 (nx2 a1 r1 b2 b3 b5 b8 a0)))))))
def Aq4 [An A Int](Bg:Ab→Bool→Option Int)(L:Nat)(a1:Bool)(r1:Int)(b2:Bool)(b3:Bool)(a0:Ab):A:=sx_R09_node_1 Bg L a1 r1 b2 b3 a0 (fun a1 r1 b2 b3 b5 b8 a0=>Aq5 Bg L a1 r1 b2 b3 b5 b8 a0)
theorem Bwh(Bg:Ab→Bool→Option Int)(L:Nat)(kk:Cz)(a1:Bool)(r1:Int)(b2:Bool)(b3:Bool)(a0:Ab)(z2:EC):EV (Akg Bg L) L 9 (EC.put (rl [4]) z2 Agn.x) (A09 a1 r1 b2 b3 a0) (A0r Bg L kk)= @sx_R09_node_1 Prop (anP (kQ I kk)) Bg L a1 r1 b2 b3 a0 (fun a1 r1 b2 b3 b5 b8 a0=>EV (Akg Bg L) L 9 z2 (A1a a1 r1 b2 b3 b5 b8 a0) (A0s Bg L kk)):=by kernel_rfl
theorem Bvp(Bg:Ab→Bool→Option Int)(L:Nat)(kk:Cz)(a1:Bool)(r1:Int)(b2:Bool)(b3:Bool)(a0:Ab):EV (Akg Bg L) L 9 Agn.x (A09 a1 r1 b2 b3 a0) (A0r Bg L kk)=ob (Aq4 Bg L a1 r1 b2 b3 a0) (kQ I kk):=Eq.trans (b:=EV (Akg Bg L) L 9 (EC.put (rl [4]) Agn.x.w Agn.x) (A09 a1 r1 b2 b3 a0) (A0r Bg L kk)) (by kernel_rfl) ((Bwh Bg L kk a1 r1 b2 b3 a0 Agn.x.w).trans (eE (sx_R09_node_1 Bg L a1 r1 b2 b3 a0 (fun a1 r1 b2 b3 b5 b8 a0=>re (Bvq Bg L kk a1 r1 b2 b3 b5 b8 a0)))))
def sx_R09_node_0 [An A Int](Bg:Ab→Bool→Option Int)(L:Nat)(a0:Ab)(a1:Bool)(nx1:Bool→Int→Bool→Bool→Ab→A):A:=
 (bd (Axn L a0.Op) fun r1=>
 (jp (.cn (decide (r1≥0))
 (.cn a1
 (.cn (a0.Op != 3)
 (.lf true)
 (.cn (!a1)
 (.lf (decide (a0.Op≤24)))
 (.lf false)))
 (.cn (!a1)
 (.lf (decide (a0.Op≤24)))
 (.lf false)))
 (.lf false)) (fun b2=>
 (jb (.cn (!a1)
 (.cn (a0.Op == 3)
 (.lf true)
 (.bd (Akd L a0.Op) fun r4=>
 (.lf r4)))
 (.lf false)) (fun b3=>
 (nx1 a1 r1 b2 b3 a0))))))
def Bcs [An A Int](Bg:Ab→Bool→Option Int)(L:Nat)(a0:Ab)(a1:Bool):A:=sx_R09_node_0 Bg L a0 a1 (fun a1 r1 b2 b3 a0=>Aq4 Bg L a1 r1 b2 b3 a0)
theorem Bwg(Bg:Ab→Bool→Option Int)(L:Nat)(kk:Cz)(a0:Ab)(a1:Bool)(z1:EC):EW (Akg Bg L) L 9 (RS Tryz.f258) (EC.put (rl [8]) z1 Agn) [.agg (Er a0),B a1] kk= @sx_R09_node_0 Prop (anP (kQ I kk)) Bg L a0 a1 (fun a1 r1 b2 b3 a0=>EV (Akg Bg L) L 9 z1 (A09 a1 r1 b2 b3 a0) (A0r Bg L kk)):=by kernel_rfl
def A1f(Bg:Ab→Bool→Option Int)(L:Nat)(a0:Ab)(a1:Bool):Option Int:=Bcs Bg L a0 a1
theorem Cka(Bg:Ab→Bool→Option Int)(Bpj:Bfo Bg)(L:Nat):Bfo (A1f Bg L):=fun a0 a1 r h=>hF Tryz.func258 (Cl2 Bg Bpj L) L (fun kk=>Eq.trans (b:=EW (Akg Bg L) L 9 (RS Tryz.f258) (EC.put (rl [8]) Agn.x Agn) [.agg (Er a0),B a1] kk) (by kernel_rfl) ((Bwg Bg L kk a0 a1 Agn.x).trans (eE (sx_R09_node_0 Bg L a0 a1 (fun a1 r1 b2 b3 a0=>re (Bvp Bg L kk a1 r1 b2 b3 a0)))))) h
def Aec:Nat→Ab→Bool→Option Int
 |0,_,_=>none
 |L+1,a0,a1=>A1f (Aec L) L a0 a1
theorem Bw4(L:Nat):Bfo (Aec L):=by
 induction L with
 |zero=>exact fun _ _ _ h=>(by cases h)
 |succ L ih=>
  have i258:=ih
  exact Cka (Aec L) i258 L
def Ccy(L:Nat):Ew:=E2 I 258 Bh cB (Aec L) (Bw4 L)
def Ax4 [An A Int](a0:Ab)(a1:Bool):A:=
 (bd (F4 L (Ab.cp a0)) fun r1=>
 (cn (decide (r1 > 60))
 (lf 6)
 (bd (Ab0 L (Ab.cp a0)) fun r2=>
 (cn (decide (r2 > 12))
 (lf 11)
 (bd (Aec L (Ab.cp a0) a1) fun r3=>
 (lf r3))))))
def Axo(a0:Ab)(a1:Bool):Option Int:=Ax4 L a0 a1
def Ccw:Ew:=E2 I 253 Bh cB (Axo L) fun a0 a1 r h=>hF Tryz.func253 (oS [X41 L,Ccx L,Ccy L]) L (fun kk=>eE (Ax4 L a0 a1)) h
def Ax2 [An A Int](a0:Ab):A:=
 (bd (Axo L (Ab.cp a0) false) fun r1=>
 (lf r1))
def Zg(a0:Ab):Option Int:=Ax2 L a0
def B4p:Ew:=E1 I 250 Bh (Zg L) fun a0 r h=>hF Tryz.func250 (oS [Ccw L]) L (fun kk=>eE (Ax2 L a0)) h
def Cen:=CC Tryz.f235
def B3r:Ba:=oL [B4p L]
def Ag5:Ax:=(Av 0 (Bb (EV (B3r L) L 9 Cen.x.u.r) (Cm Tryz.prog (RS Tryz.f235) kk)))
def Ad4(a0:Ad)(a1:Cr)(v:Co):St:=⟨[(0,.any),(1,.any),(2,.loc 2 0),(3,.any),(4,I 0),(5,I v.1),(6,I v.2)],[(2,(D5 a0)),(3,(Akt a1))],0⟩
def Ani [An A B7](a0:Ad)(a1:Cr)(rec:Int→Int→A)(Aj:Int)(Ak:Int):A:=
 (jp (.cn (Aj == 0)
 (.lf (decide (Ak < (a0.Args.length:Int))))
 (.lf false)) (fun b5=>
 (cn b5
 (gi Ak a0.Args
 (bd (Zg L (Ab.cp (a0.Args.getD (Int.toNat Ak) default))) fun r6=>
 (rec r6 (B6 (Ak+1)))))
 (lf (0,Aj,Ak)))))
def Hq(L:Nat)(a0:Ad)(a1:Cr):Nat→Int→Int→Option B7
 |0,_,_=>none
 |n+1,Aj,Ak=>Ani L a0 a1 (Hq L a0 a1 n) Aj Ak
theorem Ag9(a0:Ad)(a1:Cr):LP (EV (B3r L) L 9 Cen.x.u.l.u.l.l) [0,1,2,3,4,5,6] [2,3] (Ad4 a0 a1) [.exit 0] (fun n v=>Hq L a0 a1 n v.1 v.2) K:=lE (fun _=>rfl) fun n v ih=>eE (Ani L a0 a1 (fun Aj Ak=>re (ih (Aj,Ak))) v.1 v.2)
def Afu [An A Int](L:Nat)(o10:Nat×Co):A:=
 (sl o10.1 [(lf o10.2.1)])
def Bho:Ax:=(Ag5 L kk)
theorem B9g(a0:Ad)(a1:Cr)(o10:Nat×Co):kX [.exit 0] (Ad4 a0 a1) (Bho L kk) o10=ob (Afu L o10) (kQ I kk):=eE (Afu L o10)
def Afv [An A Int](L:Nat)(o11:Nat×Co):A:=
 (sl o11.1 [(lf o11.2.1)])
def Bhp:Ax:=(Ag5 L kk)
theorem B9h(a0:Ad)(a1:Cr)(o11:Nat×Co):kX [.exit 0] (Ad4 a0 a1) (Bhp L kk) o11=ob (Afv L o11) (kQ I kk):=eE (Afv L o11)
def Afw [An A Int](L:Nat)(o12:Nat×Co):A:=
 (sl o12.1 [(lf o12.2.1)])
def Bhq:Ax:=(Ag5 L kk)
theorem B9i(a0:Ad)(a1:Cr)(o12:Nat×Co):kX [.exit 0] (Ad4 a0 a1) (Bhq L kk) o12=ob (Afw L o12) (kQ I kk):=eE (Afw L o12)
def Afx [An A Int](L:Nat)(o13:Nat×Co):A:=
 (sl o13.1 [(lf o13.2.1)])
def Bhr:Ax:=(Ag5 L kk)
theorem B9j(a0:Ad)(a1:Cr)(o13:Nat×Co):kX [.exit 0] (Ad4 a0 a1) (Bhr L kk) o13=ob (Afx L o13) (kQ I kk):=eE (Afx L o13)
def Afy [An A Int](L:Nat)(o14:Nat×Co):A:=
 (sl o14.1 [(lf o14.2.1)])
def Bhs:Ax:=(Ag5 L kk)
theorem B9k(a0:Ad)(a1:Cr)(o14:Nat×Co):kX [.exit 0] (Ad4 a0 a1) (Bhs L kk) o14=ob (Afy L o14) (kQ I kk):=eE (Afy L o14)
def Afz [An A Int](L:Nat)(o15:Nat×Co):A:=
 (sl o15.1 [(lf o15.2.1)])
def Bht:Ax:=(Ag5 L kk)
theorem B9l(a0:Ad)(a1:Cr)(o15:Nat×Co):kX [.exit 0] (Ad4 a0 a1) (Bht L kk) o15=ob (Afz L o15) (kQ I kk):=eE (Afz L o15)
def Af0 [An A Int](L:Nat)(o16:Nat×Co):A:=
 (sl o16.1 [(lf o16.2.1)])
def Bhu:Ax:=(Ag5 L kk)
theorem B9m(a0:Ad)(a1:Cr)(o16:Nat×Co):kX [.exit 0] (Ad4 a0 a1) (Bhu L kk) o16=ob (Af0 L o16) (kQ I kk):=eE (Af0 L o16)
def Af1 [An A Int](L:Nat)(o17:Nat×Co):A:=
 (sl o17.1 [(lf o17.2.1)])
def Bhv:Ax:=(Ag5 L kk)
theorem B9n(a0:Ad)(a1:Cr)(o17:Nat×Co):kX [.exit 0] (Ad4 a0 a1) (Bhv L kk) o17=ob (Af1 L o17) (kQ I kk):=eE (Af1 L o17)
def Aor [An A Int](a0:Ad)(a1:Cr)(nx1:A)(nx2:Int→A)(nx3:A)(nx4:Int→A)(nx5:A)(nx6:Int→A)(nx7:A)(nx8:A):A:=
 (cn a1.E
 (bd (Zg L (Ab.cp a0.E)) fun r1=>
 (jp (.cn (r1 == 0)
 (.lf a1.F)
 (.lf false)) (fun b2=>
 (cn b2
 (bd (Zg L (Ab.cp a0.F)) fun r3=>
 (jp (.cn (r3 == 0)
 (.lf (decide ((a0.Args.length:Int) > 6)))
 (.lf false)) (fun b4=>
 (cn b4
 nx1
 (nx2 r3)))))
 (jp (.cn (r1 == 0)
 (.lf (decide ((a0.Args.length:Int) > 6)))
 (.lf false)) (fun b7=>
 (cn b7
 nx3
 (nx4 r1))))))))
 (nq (cn a1.F
 (bd (Zg L (Ab.cp a0.F)) fun r8=>
 (jp (.cn (r8 == 0)
 (.lf (decide ((a0.Args.length:Int) > 6)))
 (.lf false)) (fun b9=>
 (cn b9
 nx5
 (nx6 r8)))))
 (nq (cn (decide ((a0.Args.length:Int) > 6))
 nx7
 nx8)))))
def A9e [An A Int](a0:Ad)(a1:Cr):A:=Aor L a0 a1 (bd (Hq L a0 a1 L 6 0) fun o10=>Afu L o10) (fun r3=>bd (Hq L a0 a1 L r3 0) fun o11=>Afv L o11) (bd (Hq L a0 a1 L 6 0) fun o12=>Afw L o12) (fun r1=>bd (Hq L a0 a1 L r1 0) fun o13=>Afx L o13) (bd (Hq L a0 a1 L 6 0) fun o14=>Afy L o14) (fun r8=>bd (Hq L a0 a1 L r8 0) fun o15=>Afz L o15) (bd (Hq L a0 a1 L 6 0) fun o16=>Af0 L o16) (bd (Hq L a0 a1 L 0 0) fun o17=>Af1 L o17)
def Axp(a0:Ad)(a1:Cr):Option Int:=A9e L a0 a1
def Cco:Ew:=E2 I 235 Hi A9u (Axp L) fun a0 a1 r h=>hF Tryz.func235 (C:=B3r L) (oS _) L (fun kk=>eE (Aor L a0 a1 (ho (Ag9 L (Bho L kk) a0 a1 L (6,0)) fun o10=>B9g L kk a0 a1 o10) (fun r3=>ho (Ag9 L (Bhp L kk) a0 a1 L (r3,0)) fun o11=>B9h L kk a0 a1 o11) (ho (Ag9 L (Bhq L kk) a0 a1 L (6,0)) fun o12=>B9i L kk a0 a1 o12) (fun r1=>ho (Ag9 L (Bhr L kk) a0 a1 L (r1,0)) fun o13=>B9j L kk a0 a1 o13) (ho (Ag9 L (Bhs L kk) a0 a1 L (6,0)) fun o14=>B9k L kk a0 a1 o14) (fun r8=>ho (Ag9 L (Bht L kk) a0 a1 L (r8,0)) fun o15=>B9l L kk a0 a1 o15) (ho (Ag9 L (Bhu L kk) a0 a1 L (6,0)) fun o16=>B9m L kk a0 a1 o16) (ho (Ag9 L (Bhv L kk) a0 a1 L (0,0)) fun o17=>B9n L kk a0 a1 o17))) h
def A5j [An A Int](a0:Ad):A:=
 (bd (A1h L a0.Op) fun r1=>
 (bd (As4 L (Ad.cp a0)) fun r2=>
 (cn (!r2)
 (lf 1)
 (jb (.cn r1.1.Name
 (.bd (U9 L a0.Name) fun r4=>
 (.lf (r4 != 0)))
 (.lf false)) (fun b3=>
 (jb (.cn b3
 (.lf true)
 (.cn r1.1.Of
 (.bd (U9 L a0.Of) fun r6=>
 (.lf (r6 != 0)))
 (.lf false))) (fun b5=>
 (cn b5
 (lf 3)
 (bd (Axp L (Ad.cp a0) (⟨r1.1.Name,r1.1.Of,r1.1.E,r1.1.F,r1.1.Args,r1.1.Dist,r1.1.Flag,r1.1.Body,r1.1.Else⟩:Cr)) fun r7=>
 (jp (.cn (r7 == 0)
 (.lf r1.1.Dist)
 (.lf false)) (fun b8=>
 (cn b8
 (bd (Agt L a0.Dist) fun r9=>
 (lf r9))
 (lf r7)))))))))))))
def A5g(a0:Ad):Option Int:=A5j L a0
def B4h:Ew:=E1 I 207 Hi (A5g L) fun a0 r h=>hF Tryz.func207 (oS [X81 L,B4k L,B4l L,Ccn L,Cco L]) L (fun kk=>eE (A5j L a0)) h
def Bfk(F:(List Ad)→Option Int):Prop:=∀y0 r,F y0=some r→Ho Tryz.prog 159 [Tw.en y0] I r
def Cd0:=CC Tryz.f159
def B3d(Gs:(List Ad)→Option Int)(L:Nat):Ba:=(orc 159 (A1 I Tw Gs) (oL [B4h L]))
theorem Cly(Gs:(List Ad)→Option Int)(Bpf:Bfk Gs)(L:Nat):Dm Tryz.prog (B3d Gs L):=(Dt (a1 _ Bpf) (oS [B4h L]))
def Bj7(a0:List Ad)(v:Co):St:=⟨[(0,lv (.t96 a0)),(2,I v.1),(3,I v.2)],[],0⟩
def Aqk [An A B7](Gs:(List Ad)→Option Int)(L:Nat)(a0:List Ad)(rec:Int→Int→A)(Aj:Int)(Ak:Int):A:=
 (lw Ak a0
 (bd (A5g L (Ad.cp (a0.getD (Int.toNat Ak) default))) fun r1=>
 (cn (r1 == 0)
 (gi Ak a0
 (bd (Gs ((a0.getD (Int.toNat Ak) default).Body)) fun r2=>
 (cn (r2 == 0)
 (gi Ak a0
 (bd (Gs ((a0.getD (Int.toNat Ak) default).Else)) fun r3=>
 (cn (r3 != 0)
 (lf (0,r3,Ak))
 (rec Aj (B6 (Ak+1))))))
 (cn (r2 != 0)
 (lf (0,r2,Ak))
 (rec Aj (B6 (Ak+1)))))))
 (cn (r1 == 0)
 (gi Ak a0
 (bd (Gs ((a0.getD (Int.toNat Ak) default).Else)) fun r4=>
 (cn (r4 != 0)
 (lf (0,r4,Ak))
 (rec Aj (B6 (Ak+1))))))
 (cn (r1 != 0)
 (lf (0,r1,Ak))
 (rec Aj (B6 (Ak+1)))))))
 (lf (1,Aj,Ak)))
def Ah0(Gs:(List Ad)→Option Int)(L:Nat)(a0:List Ad):Nat→Int→Int→Option B7
 |0,_,_=>none
 |n+1,Aj,Ak=>Aqk Gs L a0 (Ah0 Gs L a0 n) Aj Ak
theorem Byp(Gs:(List Ad)→Option Int)(L:Nat)(K:Ax)(a0:List Ad):LP (EV (B3d Gs L) L 9 Cd0.u.l.u.l.l) [0,2,3] [] (Bj7 a0) [.ret,.exit 0] (fun n v=>Ah0 Gs L a0 n v.1 v.2) K:=lE (fun _=>rfl) fun n v ih=>eE (Aqk Gs L a0 (fun Aj Ak=>re (ih (Aj,Ak))) v.1 v.2)
def Aig [An A Int](Gs:(List Ad)→Option Int)(L:Nat)(o5:Nat×Co):A:=
 (sl o5.1 [(lf o5.2.1),
 (lf 0)])
def Bgq(Gs:(List Ad)→Option Int)(L:Nat)(kk:Cz):Ax:=(Av 0 (Bb (EV (B3d Gs L) L 9 Cd0.u.r) (Cm Tryz.prog (RS Tryz.f159) kk)))
theorem B8i(Gs:(List Ad)→Option Int)(L:Nat)(kk:Cz)(a0:List Ad)(o5:Nat×Co):kX [.ret,.exit 0] (Bj7 a0) (Bgq Gs L kk) o5=ob (Aig Gs L o5) (kQ I kk):=eE (Aig Gs L o5)
def Bct [An A Int](Gs:(List Ad)→Option Int)(L:Nat)(a0:List Ad):A:=(bd (Ah0 Gs L a0 L 0 0) fun o5=>Aig Gs L o5)
def A1g(Gs:(List Ad)→Option Int)(L:Nat)(a0:List Ad):Option Int:=Bct Gs L a0
theorem Cj4(Gs:(List Ad)→Option Int)(Bpf:Bfk Gs)(L:Nat):Bfk (A1g Gs L):=fun a0 r h=>hF Tryz.func159 (Cly Gs Bpf L) L (fun kk=>eE ((ho (Byp Gs L (Bgq Gs L kk) a0 L (0,0)) fun o5=>B8i Gs L kk a0 o5))) h
def Aed:Nat→(List Ad)→Option Int
 |0,_=>none
 |L+1,a0=>A1g (Aed L) L a0
theorem Bw0(L:Nat):Bfk (Aed L):=by
 induction L with
 |zero=>exact fun _ _ h=>(by cases h)
 |succ L ih=>
  have i159:=ih
  exact Cj4 (Aed L) i159 L
def Cbz(L:Nat):Ew:=E1 I 159 Tw (Aed L) (Bw0 L)
def Ax5 [An A Int](a0:List Ad):A:=
 (bd (Ab1 L a0) fun r1=>
 (cn (decide (r1 > 200))
 (lf 6)
 (bd (Ab2 L a0) fun r2=>
 (cn (decide (r2 > 12))
 (lf 11)
 (bd (Aed L a0) fun r3=>
 (lf r3))))))
def Amc(a0:List Ad):Option Int:=Ax5 L a0
def X87:Ew:=E1 I 87 Tw (Amc L) fun a0 r h=>hF Tryz.func87 (oS [Cbx L,Cby L,Cbz L]) L (fun kk=>eE (Ax5 L a0)) h
def Cec:=CC Tryz.f204
def B3j:Ba:=oL [X80 L,X82 L,X84 L,X87 L,Buj L]
def Bkl(a0:Ap)(v:Tu9):St:=⟨[(0,.any),(1,.loc 1 0),(2,I v.1),(3,.lst true (.t9 v.2.1)),(4,.lst true (.t127 (a0.Params++a0.Locals))),(5,I v.2.2)],[(1,(Cs a0))],0⟩
def Ajo [An A (Nat×Tu9)](a0:Ap)(rec:Int→List ByteArray→Int→A)(Al:Int)(Aj:List ByteArray)(Ai:Int):A:=
 (lw Ai (a0.Params++a0.Locals)
 (bd (Zh L (((a0.Params++a0.Locals).getD (Int.toNat Ai) default).Name) Aj) fun r2=>
 (gi Ai (a0.Params++a0.Locals)
 (bd (Agv L (((a0.Params++a0.Locals).getD (Int.toNat Ai) default).Type_)) fun r3=>
 (bd (Cu L r3 1) fun r4=>
 (bd (D3 L r2 r4) fun r5=>
 (cn (r5 != 0)
 (lf (0,r5,Aj,Ai))
 (gi Ai (a0.Params++a0.Locals)
 (gq ((Aj.length+ [((a0.Params++a0.Locals).getD (Int.toNat Ai) default).Name].length)*16≤140737488355328)
 (gq (Aj.length+ [((a0.Params++a0.Locals).getD (Int.toNat Ai) default).Name].length≤maxLen)
 (rec Al (Aj++ [((a0.Params++a0.Locals).getD (Int.toNat Ai) default).Name]) (B6 (Ai+1))))))))))))
 (lf (1,Al,Aj,Ai)))
def Aaf(L:Nat)(a0:Ap):Nat→Int→List ByteArray→Int→Option (Nat×Tu9)
 |0,_,_,_=>none
 |n+1,Al,Aj,Ai=>Ajo L a0 (Aaf L a0 n) Al Aj Ai
theorem By3(a0:Ap):LP (EV (B3j L) L 9 Cec.x.l.u.l.l) [0,1,2,3,4,5] [1] (Bkl a0) [.ret,.exit 0] (fun n v=>Aaf L a0 n v.1 v.2.1 v.2.2) K:=lE (fun _=>rfl) fun n v ih=>eE (Ajo L a0 (fun Al Aj Ai=>re (ih (Al,Aj,Ai))) v.1 v.2.1 v.2.2)
def Aaj [An A Int](a0:Ap)(o6:Nat×Tu9):A:=
 (sl o6.1 [(lf o6.2.1),
 (bd (Amc L a0.Body) fun r7=>
 (lf r7))])
def Bhc:Ax:=(Av 0 (Bb (EV (B3j L) L 9 Cec.x.r) (Cm Tryz.prog (RS Tryz.f204) kk)))
theorem B84(a0:Ap)(o6:Nat×Tu9):kX [.ret,.exit 0] (Bkl a0) (Bhc L kk) o6=ob (Aaj L a0 o6) (kQ I kk):=eE (Aaj L a0 o6)
def Ajw [An A Int](L:Nat)(a0:Ap)(nx1:A):A:=
 (jp (.cn (decide ((a0.Params.length:Int) > 6))
 (.lf true)
 (.lf (decide ((B6 ((a0.Params.length:Int)+(a0.Locals.length:Int))) > 16)))) (fun b1=>
 (cn b1
 (lf 6)
 (gq ((0+a0.Params.length)*24≤140737488355328)
 (gq (0+a0.Params.length≤maxLen)
 (gq ((a0.Params.length+a0.Locals.length)*24≤140737488355328)
 (gq (a0.Params.length+a0.Locals.length≤maxLen)
 nx1)))))))
def A4q [An A Int](a0:Ap):A:=Ajw L a0 (bd (Aaf L a0 L 0 [] 0) fun o6=>Aaj L a0 o6)
def Apz(a0:Ap):Option Int:=A4q L a0
def Cb8:Ew:=E1 I 204 b0 (Apz L) fun a0 r h=>hF Tryz.func204 (C:=B3j L) (oS _) L (fun kk=>eE (Ajw L a0 (ho (By3 L (Bhc L kk) a0 L (0,[],0)) fun o6=>B84 L kk a0 o6))) h
def Amp [An A Int](a0:Aa)(a1:Int)(a2:Int):A:=
 (cn (a1 == 0)
 (gi a2 a0.Vars
 (bd (Agv L ((a0.Vars.getD (Int.toNat a2) default).Type_)) fun r1=>
 (bd (Cu L r1 1) fun r2=>
 (gi a2 a0.Vars
 (gi a2 a0.Vars
 (bd (u6 L ((a0.Vars.getD (Int.toNat a2) default).Type_) ((a0.Vars.getD (Int.toNat a2) default).N)) fun r3=>
 (bd (Cu L r3 2) fun r4=>
 (bd (D3 L r2 r4) fun r5=>
 (lf r5)))))))))
 (cn (a1 == 1)
 (gi a2 a0.Resources
 (bd (Amf L a0 (⟨(a0.Resources.getD (Int.toNat a2) default).Name,(a0.Resources.getD (Int.toNat a2) default).Units,(a0.Resources.getD (Int.toNat a2) default).Shift,(a0.Resources.getD (Int.toNat a2) default).Cycle,(⟨((a0.Resources.getD (Int.toNat a2) default).Fault).Stream,(((a0.Resources.getD (Int.toNat a2) default).Fault).Up),(((a0.Resources.getD (Int.toNat a2) default).Fault).Down)⟩:Jq)⟩:Ah)) fun r6=>
 (lf r6)))
 (cn (a1 == 2)
 (gi a2 a0.Stores
 (gi a2 a0.Stores
 (bd (Gd L ((a0.Stores.getD (Int.toNat a2) default).Room) 1 1000) fun r7=>
 (bd (Cu L r7 2) fun r8=>
 (jp (.cn (decide ((a0.Stores.getD (Int.toNat a2) default).Policy≥1))
 (.lf (decide ((a0.Stores.getD (Int.toNat a2) default).Policy≤3)))
 (.lf false)) (fun b9=>
 (bd (Cu L b9 1) fun r10=>
 (bd (D3 L r8 r10) fun r11=>
 (lf r11)))))))))
 (cn (a1 == 3)
 (gi a2 a0.Belts
 (bd (Gd L ((a0.Belts.getD (Int.toNat a2) default).Length) 1 1000) fun r12=>
 (jb (.cn r12
 (.gq (0≤a2)
 (.gq (a2 < (a0.Belts.length:Int))
 (.bd (Gd L ((a0.Belts.getD (Int.toNat a2) default).Step) 1 1000) fun r14=>
 (.lf r14))))
 (.lf false)) (fun b13=>
 (bd (Cu L b13 2) fun r15=>
 (lf r15))))))
 (cn (a1 == 9)
 (gi a2 a0.Routines
 (bd (Apz L (a0.Routines.getD (Int.toNat a2) default)) fun r16=>
 (lf r16)))
 (lf 0))))))
def Ame(a0:Aa)(a1:Int)(a2:Int):Option Int:=Amp L a0 a1 a2
def Cbu:Ew:=E3 I 153 B8 (cI .i64) (cI .i64) (Ame L) fun a0 a1 a2 r h=>hF Tryz.func153 (oS [X32 L,X51 L,X80 L,X82 L,Buj L,Cb7 L,Cb8 L]) L (fun kk=>eE (Amp L a0 a1 a2)) h
def Ap3 [An A Int](a0:Aa)(a1:ByteArray):A:=
 (bd (Agu L a0) fun r1=>
 (gi 9 r1
 (bd (u5 L (r1.getD 9 default) a1) fun r2=>
 (lf r2))))
def Xp(a0:Aa)(a1:ByteArray):Option Int:=Ap3 L a0 a1
def B4g:Ew:=E2 I 205 B8 cS (Xp L) fun a0 a1 r h=>hF Tryz.func205 (oS [Blk L,Buk L]) L (fun kk=>eE (Ap3 L a0 a1)) h
def Cdv:=CC Tryz.f154
def B28:Ba:=oL [X32 L,X51 L,X82 L,B4g L]
def Bj2(a0:Aa)(r1:Int)(a1:Bt)(v:Co):St:=⟨[(0,.any),(1,.any),(2,.any),(3,.loc 3 0),(4,I v.1),(5,.any),(6,lv (.t127 ((a0.Routines.getD (Int.toNat r1) default).Params))),(7,I v.2),(8,.any)],[(2,(Af a0)),(3,(Ag0 a1))],0⟩
def Anr [An A B7](a0:Aa)(r1:Int)(a1:Bt)(rec:Int→Int→A)(Al:Int)(Ak:Int):A:=
 (lw Ak ((a0.Routines.getD (Int.toNat r1) default).Params)
 (gi Ak a1.Args
 (bd (u6 L ((((a0.Routines.getD (Int.toNat r1) default).Params).getD (Int.toNat Ak) default).Type_) (a1.Args.getD (Int.toNat Ak) default)) fun r2=>
 (cn (!r2)
 (lf (0,2,Ak))
 (rec Al (B6 (Ak+1))))))
 (lf (1,Al,Ak)))
def Afb(L:Nat)(a0:Aa)(r1:Int)(a1:Bt):Nat→Int→Int→Option B7
 |0,_,_=>none
 |n+1,Al,Ak=>Anr L a0 r1 a1 (Afb L a0 r1 a1 n) Al Ak
theorem Byk(a0:Aa)(r1:Int)(a1:Bt):LP (EV (B28 L) L 9 Cdv.x.u.l.u.l.l) [0,1,2,3,4,5,6,7,8] [2,3] (Bj2 a0 r1 a1) [.ret,.exit 0] (fun n v=>Afb L a0 r1 a1 n v.1 v.2) K:=lE (fun _=>rfl) fun n v ih=>eE (Anr L a0 r1 a1 (fun Al Ak=>re (ih (Al,Ak))) v.1 v.2)
def Af6 [An A Int](a1:Bt)(o3:Nat×Co):A:=
 (sl o3.1 [(lf o3.2.1),
 (bd (Gd L a1.At 0 1000000000) fun r4=>
 (jb (.cn r4
 (.bd (Gd L a1.Every 0 1000000000) fun r6=>
 (.lf r6))
 (.lf false)) (fun b5=>
 (jb (.cn b5
 (.bd (Gd L a1.Until 0 1000000000) fun r8=>
 (.lf r8))
 (.lf false)) (fun b7=>
 (jp (.cn b7
 (.cn (a1.Every != 0)
 (.lf true)
 (.lf (a1.Until == 0)))
 (.lf false)) (fun b9=>
 (bd (Cu L b9 2) fun r10=>
 (lf r10)))))))))])
def Bgl:Ax:=(Av 0 (Bb (EV (B28 L) L 9 Cdv.x.u.r) (Cm Tryz.prog (RS Tryz.f154) kk)))
theorem B8d(a0:Aa)(r1:Int)(a1:Bt)(o3:Nat×Co):kX [.ret,.exit 0] (Bj2 a0 r1 a1) (Bgl L kk) o3=ob (Af6 L a1 o3) (kQ I kk):=eE (Af6 L a1 o3)
def Ao0 [An A Int](a0:Aa)(a1:Bt)(nx1:Int→A):A:=
 (bd (Xp L a0 a1.Routine) fun r1=>
 (cn (decide (r1 < 0))
 (lf 5)
 (gi r1 a0.Routines
 (cn ((a1.Args.length:Int) != (((a0.Routines.getD (Int.toNat r1) default).Params).length:Int))
 (lf 8)
 (nx1 r1)))))
def A9i [An A Int](a0:Aa)(a1:Bt):A:=Ao0 L a0 a1 (fun r1=>bd (Afb L a0 r1 a1 L 0 0) fun o3=>Af6 L a1 o3)
def Axs(a0:Aa)(a1:Bt):Option Int:=A9i L a0 a1
def Cbv:Ew:=E2 I 154 B8 Atx (Axs L) fun a0 a1 r h=>hF Tryz.func154 (C:=B28 L) (oS _) L (fun kk=>eE (Ao0 L a0 a1 (fun r1=>ho (Byk L (Bgl L kk) a0 r1 a1 L (0,0)) fun o3=>B8d L kk a0 r1 a1 o3))) h
def Ced:=CC Tryz.f209
def B3k:Ba:=oL [Blk L,Buk L]
def Bkm(a1:ByteArray)(r1:List (List ByteArray))(a0:Aa)(v:ByteArray×Int):St:=⟨[(0,.any),(1,S a1),(2,.any),(4,S v.1),(5,lv (.t48 r1)),(6,.lst true (.t9 [(⟨#[118,97,114]⟩:ByteArray),(⟨#[114,101,115,111,117,114,99,101]⟩:ByteArray),(⟨#[115,116,111,114,101]⟩:ByteArray),(⟨#[98,101,108,116]⟩:ByteArray),(⟨#[113,117,101,117,101]⟩:ByteArray),(⟨#[115,116,114,101,97,109]⟩:ByteArray),(⟨#[116,97,108,108,121]⟩:ByteArray),(⟨#[108,101,118,101,108]⟩:ByteArray),(⟨#[99,111,117,110,116]⟩:ByteArray),(⟨#[114,111,117,116,105,110,101]⟩:ByteArray)])),(7,I v.2)],[(2,(Af a0))],0⟩
def Aql [An A (Nat×ByteArray×Int)](a1:ByteArray)(r1:List (List ByteArray))(a0:Aa)(rec:ByteArray→Int→A)(Aj:ByteArray)(Bp:Int):A:=
 (lw Bp r1
 (bd (u5 L (r1.getD (Int.toNat Bp) default) a1) fun r2=>
 (cn (decide (r2≥0))
 (gq (0≤Bp)
 (gq (Bp < (([(⟨#[118,97,114]⟩:ByteArray),(⟨#[114,101,115,111,117,114,99,101]⟩:ByteArray),(⟨#[115,116,111,114,101]⟩:ByteArray),(⟨#[98,101,108,116]⟩:ByteArray),(⟨#[113,117,101,117,101]⟩:ByteArray),(⟨#[115,116,114,101,97,109]⟩:ByteArray),(⟨#[116,97,108,108,121]⟩:ByteArray),(⟨#[108,101,118,101,108]⟩:ByteArray),(⟨#[99,111,117,110,116]⟩:ByteArray),(⟨#[114,111,117,116,105,110,101]⟩:ByteArray)].length:Nat):Int))
 (lf (0,(([(⟨#[118,97,114]⟩:ByteArray),(⟨#[114,101,115,111,117,114,99,101]⟩:ByteArray),(⟨#[115,116,111,114,101]⟩:ByteArray),(⟨#[98,101,108,116]⟩:ByteArray),(⟨#[113,117,101,117,101]⟩:ByteArray),(⟨#[115,116,114,101,97,109]⟩:ByteArray),(⟨#[116,97,108,108,121]⟩:ByteArray),(⟨#[108,101,118,101,108]⟩:ByteArray),(⟨#[99,111,117,110,116]⟩:ByteArray),(⟨#[114,111,117,116,105,110,101]⟩:ByteArray)].getD (Int.toNat Bp) default),Bp)))))
 (rec Aj (B6 (Bp+1)))))
 (lf (1,Aj,Bp)))
def Ah1(L:Nat)(a1:ByteArray)(r1:List (List ByteArray))(a0:Aa):Nat→ByteArray→Int→Option (Nat×ByteArray×Int)
 |0,_,_=>none
 |n+1,Aj,Bp=>Aql L a1 r1 a0 (Ah1 L a1 r1 a0 n) Aj Bp
theorem By4(a1:ByteArray)(r1:List (List ByteArray))(a0:Aa):LP (EV (B3k L) L 9 Ced.w.u.l.u.l.l) [0,1,2,4,5,6,7] [2] (Bkm a1 r1 a0) [.ret,.exit 0] (fun n v=>Ah1 L a1 r1 a0 n v.1 v.2) K:=lE (fun _=>rfl) fun n v ih=>eE (Aql L a1 r1 a0 (fun Aj Bp=>re (ih (Aj,Bp))) v.1 v.2)
def Aih [An A ByteArray](L:Nat)(o3:Nat×ByteArray×Int):A:=
 (sl o3.1 [(lf o3.2.1),
 (lf (⟨#[]⟩:ByteArray))])
def Bhd:Ax:=(Av 0 (Bb (EV (B3k L) L 9 Ced.w.u.r) (Cm Tryz.prog (RS Tryz.f209) kk)))
theorem B85(a1:ByteArray)(r1:List (List ByteArray))(a0:Aa)(o3:Nat×ByteArray×Int):kX [.ret,.exit 0] (Bkm a1 r1 a0) (Bhd L kk) o3=ob (Aih L o3) (kQ S kk):=eE (Aih L o3)
def Arf [An A ByteArray](a0:Aa)(a1:ByteArray)(nx1:(List (List ByteArray))→A):A:=
 (bd (Agu L a0) fun r1=>
 (nx1 r1))
def Bcu [An A ByteArray](a0:Aa)(a1:ByteArray):A:=Arf L a0 a1 (fun r1=>bd (Ah1 L a1 r1 a0 L (⟨#[]⟩:ByteArray) 0) fun o3=>Aih L o3)
def Aee(a0:Aa)(a1:ByteArray):Option ByteArray:=Bcu L a0 a1
def Bn3:Ew:=E2 S 209 B8 cS (Aee L) fun a0 a1 r h=>hF Tryz.func209 (C:=B3k L) (oS _) L (fun kk=>eE (Arf L a0 a1 (fun r1=>ho (By4 L (Bhd L kk) a1 r1 a0 L ((⟨#[]⟩:ByteArray),0)) fun o3=>B85 L kk a1 r1 a0 o3))) h
def Acw:=CC Tryz.f206
def Apf:Ba:=oL [X51 L,X80 L,X82 L,Bn3 L]
def A8t(a0:Aa)(a1:Ay)(p801_1:ByteArray):St:=⟨[(2,.loc 2 0),(3,.loc 3 0),(4,I 0),(5,S p801_1)],[(2,(Af a0)),(3,(Gz a1))],0⟩
def A71(L:Nat)(kk:Cz):Ax:=(Cm Tryz.prog (RS Tryz.f206) kk)
def Abt [An A Int](a0:Aa)(a1:Ay)(p801_1:ByteArray):A:=
 (bd (Cu L (!(p801_1.toList == (⟨#[]⟩:ByteArray).toList)) 1) fun r1=>
 (bd (Aee L a0 a1.Name) fun r2=>
 (bd (Cu L (r2.toList == p801_1.toList) 5) fun r3=>
 (bd (D3 L r1 r3) fun r4=>
 (bd (Gd L a1.Coef (-1000) 1000) fun r5=>
 (jp (.cn r5
 (.lf (a1.Coef != 0))
 (.lf false)) (fun b6=>
 (bd (Cu L b6 2) fun r7=>
 (bd (D3 L r4 r7) fun r8=>
 (lf r8))))))))))
theorem Bfx(a0:Aa)(a1:Ay)(p801_1:ByteArray):EV (Apf L) L 9 Acw.w.u (A8t a0 a1 p801_1) (A71 L kk)=ob (Abt L a0 a1 p801_1) (kQ I kk):=eE (Abt L a0 a1 p801_1)
def A03(a1:Ay)(a0:Aa)(p803_3:Bool):St:=⟨[(2,.loc 2 0),(3,.loc 3 0),(4,I 0),(5,S (⟨#[]⟩:ByteArray)),(8,S a1.What),(13,B p803_3)],[(2,(Af a0)),(3,(Gz a1))],0⟩
def A0l(e0:EC):Ax:=(Av 0 (Bb (EV (Apf L) L 9 e0) (Cm Tryz.prog (RS Tryz.f206) kk)))
def sx_R11_term_3 [An A Int](L:Nat)(a1:Ay)(a0:Aa)(p803_3:Bool)(nx1:Aa→Ay→ByteArray→A):A:=
 (cn p803_3
 (nx1 a0 a1 (⟨#[115,116,111,114,101]⟩:ByteArray))
 (cn (a1.What.toList == (⟨#[99,111,117,110,116,101,100]⟩:ByteArray).toList)
 (nx1 a0 a1 (⟨#[99,111,117,110,116]⟩:ByteArray))
 (nx1 a0 a1 (⟨#[]⟩:ByteArray))))
def Aq9 [An A Int](a1:Ay)(a0:Aa)(p803_3:Bool):A:=sx_R11_term_3 L a1 a0 p803_3 (fun a0 a1 p801_1=>Abt L a0 a1 p801_1)
theorem Bv8(a1:Ay)(a0:Aa)(p803_3:Bool)(z1:EC):EV (Apf L) L 9 Acw.w.l.u.l.w.r (A03 a1 a0 p803_3) (A0l L kk (EC.put (rl [1]) z1 Acw.w.r))= @sx_R11_term_3 Prop (anP (kQ I kk)) L a1 a0 p803_3 (fun a0 a1 p801_1=>EV (Apf L) L 9 z1 (A8t a0 a1 p801_1) (A71 L kk)):=by kernel_rfl
theorem Bvh(a1:Ay)(a0:Aa)(p803_3:Bool):EV (Apf L) L 9 Acw.w.l.u.l.w.r (A03 a1 a0 p803_3) (A0l L kk Acw.w.r)=ob (Aq9 L a1 a0 p803_3) (kQ I kk):=Eq.trans (b:=EV (Apf L) L 9 Acw.w.l.u.l.w.r (A03 a1 a0 p803_3) (A0l L kk (EC.put (rl [1]) Acw.w.u Acw.w.r))) (by kernel_rfl) ((Bv8 L kk a1 a0 p803_3 Acw.w.u).trans (eE (sx_R11_term_3 L a1 a0 p803_3 (fun a0 a1 p801_1=>re (Bfx L kk a0 a1 p801_1)))))
def A02(a1:Ay)(a0:Aa)(p802_3:Bool):St:=⟨[(2,.loc 2 0),(3,.loc 3 0),(4,I 0),(5,S (⟨#[]⟩:ByteArray)),(8,S a1.What),(9,B p802_3)],[(2,(Af a0)),(3,(Gz a1))],0⟩
def A0k(e0:EC):Ax:=(Av 0 (Bb (EV (Apf L) L 9 e0) (Cm Tryz.prog (RS Tryz.f206) kk)))
def sx_R11_term_2 [An A Int](L:Nat)(a1:Ay)(a0:Aa)(p802_3:Bool)(nx1:Aa→Ay→ByteArray→A)(nx3:Ay→Aa→Bool→A):A:=
 (cn p802_3
 (nx1 a0 a1 (⟨#[114,111,117,116,105,110,101]⟩:ByteArray))
 (cn (a1.What.toList == (⟨#[115,116,111,114,101,100]⟩:ByteArray).toList)
 (nx3 a1 a0 (a1.What.toList == (⟨#[115,116,111,114,101,100]⟩:ByteArray).toList))
 (cn (a1.What.toList == (⟨#[101,110,116,101,114,101,100]⟩:ByteArray).toList)
 (nx3 a1 a0 (a1.What.toList == (⟨#[101,110,116,101,114,101,100]⟩:ByteArray).toList))
 (nx3 a1 a0 (a1.What.toList == (⟨#[108,101,102,116]⟩:ByteArray).toList)))))
def Aq8 [An A Int](a1:Ay)(a0:Aa)(p802_3:Bool):A:=sx_R11_term_2 L a1 a0 p802_3 (fun a0 a1 p801_1=>Abt L a0 a1 p801_1) (fun a1 a0 p803_3=>Aq9 L a1 a0 p803_3)
theorem Bv7(a1:Ay)(a0:Aa)(p802_3:Bool)(z1 z3:EC):EV (Apf L) L 9 (EC.put (rl [3]) z3 Acw.w.l.u.l.u) (A02 a1 a0 p802_3) (A0k L kk (EC.put (rl [1]) z1 Acw.w.r))= @sx_R11_term_2 Prop (anP (kQ I kk)) L a1 a0 p802_3 (fun a0 a1 p801_1=>EV (Apf L) L 9 z1 (A8t a0 a1 p801_1) (A71 L kk)) (fun a1 a0 p803_3=>EV (Apf L) L 9 z3 (A03 a1 a0 p803_3) (A0l L kk (EC.put (rl [1]) z1 Acw.w.r))):=by kernel_rfl
theorem Bvg(a1:Ay)(a0:Aa)(p802_3:Bool):EV (Apf L) L 9 Acw.w.l.u.l.u (A02 a1 a0 p802_3) (A0k L kk Acw.w.r)=ob (Aq8 L a1 a0 p802_3) (kQ I kk):=Eq.trans (b:=EV (Apf L) L 9 (EC.put (rl [3]) Acw.w.l.u.l.w.r Acw.w.l.u.l.u) (A02 a1 a0 p802_3) (A0k L kk (EC.put (rl [1]) Acw.w.u Acw.w.r))) (by kernel_rfl) ((Bv7 L kk a1 a0 p802_3 Acw.w.u Acw.w.l.u.l.w.r).trans (eE (sx_R11_term_2 L a1 a0 p802_3 (fun a0 a1 p801_1=>re (Bfx L kk a0 a1 p801_1)) (fun a1 a0 p803_3=>re (Bvh L kk a1 a0 p803_3)))))
def sx_R11_term_0 [An A Int](L:Nat)(a0:Aa)(a1:Ay)(nx2:Ay→Aa→Bool→A):A:=
 (cn (a1.What.toList == (⟨#[99,114,101,97,116,101,100]⟩:ByteArray).toList)
 (nx2 a1 a0 (a1.What.toList == (⟨#[99,114,101,97,116,101,100]⟩:ByteArray).toList))
 (cn (a1.What.toList == (⟨#[101,110,100,101,100]⟩:ByteArray).toList)
 (nx2 a1 a0 (a1.What.toList == (⟨#[101,110,100,101,100]⟩:ByteArray).toList))
 (nx2 a1 a0 (a1.What.toList == (⟨#[105,110,115,105,100,101]⟩:ByteArray).toList))))
def Bcy [An A Int](a0:Aa)(a1:Ay):A:=sx_R11_term_0 L a0 a1 (fun a1 a0 p802_3=>Aq8 L a1 a0 p802_3)
theorem Bv6(a0:Aa)(a1:Ay)(z2:EC):EW (Apf L) L 9 (RS Tryz.f206) (EC.put (rl [4,1,2,1,2]) z2 Acw) [.agg (Af a0),.agg (Gz a1)] kk= @sx_R11_term_0 Prop (anP (kQ I kk)) L a0 a1 (fun a1 a0 p802_3=>EV (Apf L) L 9 z2 (A02 a1 a0 p802_3) (A0k L kk Acw.w.r)):=by kernel_rfl
def A1k(a0:Aa)(a1:Ay):Option Int:=Bcy L a0 a1
def Cb9:Ew:=E2 I 206 B8 Ayk (A1k L) fun a0 a1 r h=>hF Tryz.func206 (C:=Apf L) (oS _) L (fun kk=>Eq.trans (b:=EW (Apf L) L 9 (RS Tryz.f206) (EC.put (rl [4,1,2,1,2]) Acw.w.l.u.l.u Acw) [.agg (Af a0),.agg (Gz a1)] kk) (by kernel_rfl) ((Bv6 L kk a0 a1 Acw.w.l.u.l.u).trans (eE (sx_R11_term_0 L a0 a1 (fun a1 a0 p802_3=>re (Bvg L kk a1 a0 p802_3)))))) h
def Cdw:=CC Tryz.f155
def B29:Ba:=oL [X50 L,X80 L,X82 L,X84 L,Cb9 L]
def Bj3(a0:Aa)(a1:Az)(v:Co):St:=⟨[(0,.any),(1,.any),(2,.any),(3,.loc 3 0),(4,.loc 4 0),(6,I 0),(7,I v.1),(8,I v.2)],[(3,(Af a0)),(4,(Dh a1))],0⟩
def At9 [An A B7](a0:Aa)(a1:Az)(rec:Int→Int→A)(Aj:Int)(Ak:Int):A:=
 (lw Ak a1.Terms
 (bd (A1k L a0 (a1.Terms.getD (Int.toNat Ak) default)) fun r6=>
 (bd (D3 L Aj r6) fun r7=>
 (rec r7 (B6 (Ak+1)))))
 (lf (0,Aj,Ak)))
def Aky(L:Nat)(a0:Aa)(a1:Az):Nat→Int→Int→Option B7
 |0,_,_=>none
 |n+1,Aj,Ak=>At9 L a0 a1 (Aky L a0 a1 n) Aj Ak
theorem Byl(a0:Aa)(a1:Az):LP (EV (B29 L) L 9 Cdw.x.l.u.l.l) [0,1,2,3,4,6,7,8] [3,4] (Bj3 a0 a1) [.exit 0] (fun n v=>Aky L a0 a1 n v.1 v.2) K:=lE (fun _=>rfl) fun n v ih=>eE (At9 L a0 a1 (fun Aj Ak=>re (ih (Aj,Ak))) v.1 v.2)
def Ald [An A Int](a1:Az)(o8:Nat×Co):A:=
 (sl o8.1 [(bd (As2 L a1.Total) fun r9=>
 (bd (Cu L r9 2) fun r10=>
 (bd (D3 L o8.2.1 r10) fun r11=>
 (lf r11))))])
def Bgm:Ax:=(Av 0 (Bb (EV (B29 L) L 9 Cdw.x.r) (Cm Tryz.prog (RS Tryz.f155) kk)))
theorem B8e(a0:Aa)(a1:Az)(o8:Nat×Co):kX [.exit 0] (Bj3 a0 a1) (Bgm L kk) o8=ob (Ald L a1 o8) (kQ I kk):=eE (Ald L a1 o8)
def Avd [An A Int](a0:Aa)(a1:Az)(a2:List ByteArray)(nx1:Int→A):A:=
 (bd (Zh L a1.Name a2) fun r1=>
 (bd (Cu L (decide ((a1.Terms.length:Int) > 0)) 7) fun r2=>
 (bd (D3 L r1 r2) fun r3=>
 (bd (Cu L (decide ((a1.Terms.length:Int)≤8)) 6) fun r4=>
 (bd (D3 L r3 r4) fun r5=>
 (nx1 r5))))))
def Blj [An A Int](a0:Aa)(a1:Az)(a2:List ByteArray):A:=Avd L a0 a1 a2 (fun r5=>bd (Aky L a0 a1 L r5 0) fun o8=>Ald L a1 o8)
def A5h(a0:Aa)(a1:Az)(a2:List ByteArray):Option Int:=Blj L a0 a1 a2
def Cbw:Ew:=E3 I 155 B8 Ary cl9 (A5h L) fun a0 a1 a2 r h=>hF Tryz.func155 (C:=B29 L) (oS _) L (fun kk=>eE (Avd L a0 a1 a2 (fun r5=>ho (Byl L (Bgm L kk) a0 a1 L (r5,0)) fun o8=>B8e L kk a0 a1 o8))) h
def c85:=CC Tryz.f85
def O85:Ba:=oL [X80 L,X84 L,Buk L,Cbu L,Cbv L,Cbw L]
def Bs3(r1:List (List ByteArray))(Ai:Int)(a0:Aa)(v:Tu9):St:=⟨[(0,.any),(1,.loc 1 0),(2,I v.1),(3,.lst true (.t9 v.2.1)),(4,lv (.t48 r1)),(5,I Ai),(6,I v.2.2),(8,.any),(9,.any),(10,.any),(11,.any),(12,.any)],[(1,(Af a0))],0⟩
def Aqo [An A (Nat×Tu9)](r1:List (List ByteArray))(Ai:Int)(a0:Aa)(rec:Int→List ByteArray→Int→A)(Bl:Int)(Bv:List ByteArray)(Ld:Int):A:=
 (gi Ai r1
 (cn (decide (Ld < ((r1.getD (Int.toNat Ai) default).length:Int)))
 (gi Ai r1
 (gi Ld (r1.getD (Int.toNat Ai) default)
 (bd (Zh L ((r1.getD (Int.toNat Ai) default).getD (Int.toNat Ld) default) Bv) fun r3=>
 (bd (Ame L a0 Ai Ld) fun r4=>
 (bd (D3 L r3 r4) fun r5=>
 (cn (r5 != 0)
 (lf (0,r5,Bv,Ld))
 (gi Ai r1
 (gi Ld (r1.getD (Int.toNat Ai) default)
 (gq ((Bv.length+ [((r1.getD (Int.toNat Ai) default).getD (Int.toNat Ld) default)].length)*16≤140737488355328)
 (gq (Bv.length+ [((r1.getD (Int.toNat Ai) default).getD (Int.toNat Ld) default)].length≤maxLen)
 (rec Bl (Bv++ [((r1.getD (Int.toNat Ai) default).getD (Int.toNat Ld) default)]) (B6 (Ld+1)))))))))))))
 (lf (1,Bl,Bv,Ld))))
def Ah4(L:Nat)(r1:List (List ByteArray))(Ai:Int)(a0:Aa):Nat→Int→List ByteArray→Int→Option (Nat×Tu9)
 |0,_,_,_=>none
 |n+1,Bl,Bv,Ld=>Aqo L r1 Ai a0 (Ah4 L r1 Ai a0 n) Bl Bv Ld
theorem B7c(r1:List (List ByteArray))(Ai:Int)(a0:Aa):LP (EV (O85 L) L 9 c85.w.u.l.u.l.l.u.l.l.w.l.l) [0,1,2,3,4,5,6,8,9,10,11,12] [1] (Bs3 r1 Ai a0) [.ret,.exit 2] (fun n v=>Ah4 L r1 Ai a0 n v.1 v.2.1 v.2.2) K:=lE (fun _=>rfl) fun n v ih=>eE (Aqo L r1 Ai a0 (fun Bl Bv Ld=>re (ih (Bl,Bv,Ld))) v.1 v.2.1 v.2.2)
def Bek(r1:List (List ByteArray))(a0:Aa)(v:Tu9):St:=⟨[(0,.any),(1,.loc 1 0),(2,I v.1),(3,.lst true (.t9 v.2.1)),(4,lv (.t48 r1)),(5,I v.2.2),(8,.any),(9,.any),(10,.any),(11,.any),(12,.any)],[(1,(Af a0))],0⟩
def Aik [An A (Nat×Tu9)](L:Nat)(Ai:Int)(rec:Int→List ByteArray→Int→A)(o6:Nat×Tu9):A:=
 (sl o6.1 [(lf (0,o6.2.1,o6.2.2.1,Ai)),
 (rec o6.2.1 o6.2.2.1 (B6 (Ai+1)))])
def Arg [An A (Nat×Tu9)](L:Nat)(r1:List (List ByteArray))(a0:Aa)(rec:Int→List ByteArray→Int→A)(Al:Int)(Aj:List ByteArray)(Ai:Int)(nx1:Int→Int→(List ByteArray)→A):A:=
 (lw Ai r1
 (jb (.cn (decide (((r1.getD (Int.toNat Ai) default).length:Int) > 32))
 (.lf true)
 (.cn (Ai == 9)
 (.gq (0≤Ai)
 (.gq (Ai < (r1.length:Int))
 (.lf (decide (((r1.getD (Int.toNat Ai) default).length:Int) > 16)))))
 (.lf false))) (fun b2=>
 (cn b2
 (lf (0,6,Aj,Ai))
 (nx1 Ai Al Aj))))
 (lf (1,Al,Aj,Ai)))
def A4v [An A (Nat×Tu9)](r1:List (List ByteArray))(a0:Aa)(rec:Int→List ByteArray→Int→A)(Al:Int)(Aj:List ByteArray)(Ai:Int):A:=Arg L r1 a0 rec Al Aj Ai (fun Ai Al Aj=>bd (Ah4 L r1 Ai a0 L Al Aj 0) fun o6=>Aik L Ai rec o6)
def Abo(L:Nat)(r1:List (List ByteArray))(a0:Aa):Nat→Int→List ByteArray→Int→Option (Nat×Tu9)
 |0,_,_,_=>none
 |n+1,Al,Aj,Ai=>A4v L r1 a0 (Abo L r1 a0 n) Al Aj Ai
def Bno(r1:List (List ByteArray))(a0:Aa):Prop:=LI (EV (O85 L) L 9 c85.w.u.l.u.l.l) [0,1,2,3,4,5,8,9,10,11,12] [1] (Bek r1 a0) [.ret,.exit 0] (fun n v=>Abo L r1 a0 n v.1 v.2.1 v.2.2) K n
def Bqs:Ax:=(Av 2 (Av 1 (Bb (EV (O85 L) L 9 c85.w.u.l.u.l.l.u.r) (Gj (Ix (EV (O85 L) L 9 c85.w.u.l.u.l.l) [0,1,2,3,4,5,8,9,10,11,12] [1] n) [0,1,2,3,4,5,8,9,10,11,12] [1] K))))
theorem Cg9(r1:List (List ByteArray))(Ai:Int)(a0:Aa)(ih:Bno L n K r1 a0)(o6:Nat×Tu9):kX [.ret,.exit 2] (Bs3 r1 Ai a0) (Bqs L n K) o6=ob (Aik L Ai (Abo L r1 a0 n) o6) (kX [.ret,.exit 0] (Bek r1 a0) K):=eE (Aik L Ai (fun Al Aj Ai=>re (ih (Al,Aj,Ai))) o6)
theorem B7b(r1:List (List ByteArray))(a0:Aa):∀n,Bno L n K r1 a0:=lE (fun _=>rfl) fun n v ih=>eE (Arg L r1 a0 (fun Al Aj Ai=>re (ih (Al,Aj,Ai))) v.1 v.2.1 v.2.2 (fun Ai Al Aj=>ho (B7c L (Bqs L n K) r1 Ai a0 L (Al,Aj,0)) fun o6=>Cg9 L n K r1 Ai a0 ih o6))
def Bs4(a0:Aa)(v:Co):St:=⟨[(0,.any),(1,.loc 1 0),(2,I v.1),(3,.any),(4,.any),(5,.any),(6,.any),(7,.any),(8,I v.2),(10,.any),(11,.any),(12,.any)],[(1,(Af a0))],0⟩
def Aqp [An A B7](a0:Aa)(rec:Int→Int→A)(E8:Int)(Fs:Int):A:=
 (lw Fs a0.Starts
 (bd (Axs L a0 (a0.Starts.getD (Int.toNat Fs) default)) fun r8=>
 (cn (r8 != 0)
 (lf (0,r8,Fs))
 (rec E8 (B6 (Fs+1)))))
 (lf (1,E8,Fs)))
def Ah5(L:Nat)(a0:Aa):Nat→Int→Int→Option B7
 |0,_,_=>none
 |n+1,E8,Fs=>Aqp L a0 (Ah5 L a0 n) E8 Fs
theorem B7d(a0:Aa):LP (EV (O85 L) L 9 c85.x.u.l.u.l.l) [0,1,2,3,4,5,6,7,8,10,11,12] [1] (Bs4 a0) [.ret,.exit 4] (fun n v=>Ah5 L a0 n v.1 v.2) K:=lE (fun _=>rfl) fun n v ih=>eE (Aqp L a0 (fun E8 Fs=>re (ih (E8,Fs))) v.1 v.2)
def Bs5(a0:Aa)(v:Tu9):St:=⟨[(0,.any),(1,.loc 1 0),(2,I v.1),(3,.any),(4,.any),(5,.any),(6,.any),(7,.any),(8,.any),(9,.any),(10,.lst true (.t9 v.2.1)),(11,I v.2.2)],[(1,(Af a0))],0⟩
def Aqq [An A (Nat×Tu9)](a0:Aa)(rec:Int→List ByteArray→Int→A)(Iw:Int)(Cx:List ByteArray)(Axe:Int):A:=
 (lw Axe a0.Laws
 (bd (A5h L a0 (a0.Laws.getD (Int.toNat Axe) default) Cx) fun r10=>
 (cn (r10 != 0)
 (lf (0,r10,Cx,Axe))
 (gi Axe a0.Laws
 (gq ((Cx.length+ [(a0.Laws.getD (Int.toNat Axe) default).Name].length)*16≤140737488355328)
 (gq (Cx.length+ [(a0.Laws.getD (Int.toNat Axe) default).Name].length≤maxLen)
 (rec Iw (Cx++ [(a0.Laws.getD (Int.toNat Axe) default).Name]) (B6 (Axe+1))))))))
 (lf (1,Iw,Cx,Axe)))
def Ah6(L:Nat)(a0:Aa):Nat→Int→List ByteArray→Int→Option (Nat×Tu9)
 |0,_,_,_=>none
 |n+1,Iw,Cx,Axe=>Aqq L a0 (Ah6 L a0 n) Iw Cx Axe
theorem B7e(a0:Aa):LP (EV (O85 L) L 9 c85.x.x.l.u.l.l) [0,1,2,3,4,5,6,7,8,9,10,11] [1] (Bs5 a0) [.ret,.exit 6] (fun n v=>Ah6 L a0 n v.1 v.2.1 v.2.2) K:=lE (fun _=>rfl) fun n v ih=>eE (Aqq L a0 (fun Iw Cx Axe=>re (ih (Iw,Cx,Axe))) v.1 v.2.1 v.2.2)
def Ail [An A Int](L:Nat)(o11:Nat×Tu9):A:=
 (sl o11.1 [(lf o11.2.1),
 (lf 0)])
def Bqv:Ax:=(Av 6 (Bb (EV (O85 L) L 9 c85.x.x.r) (Cm Tryz.prog (RS Tryz.f85) kk)))
theorem Chc(a0:Aa)(o11:Nat×Tu9):kX [.ret,.exit 6] (Bs5 a0) (Bqv L kk) o11=ob (Ail L o11) (kQ I kk):=eE (Ail L o11)
def Arj [An A Int](L:Nat)(a0:Aa)(o9:Nat×Co)(nx4:B7→A):A:=
 (sl o9.1 [(lf o9.2.1),
 (cn (decide ((a0.Laws.length:Int) > 32))
 (lf 6)
 (nx4 o9))])
def Aq0 [An A Int](a0:Aa)(o9:Nat×Co):A:=Arj L a0 o9 (fun o9=>bd (Ah6 L a0 L o9.2.1 [] 0) fun o11=>Ail L o11)
def Bqu:Ax:=(Av 4 (Bb (EV (O85 L) L 9 c85.x.u.r) (Cm Tryz.prog (RS Tryz.f85) kk)))
theorem Chb(a0:Aa)(o9:Nat×Co):kX [.ret,.exit 4] (Bs4 a0) (Bqu L kk) o9=ob (Aq0 L a0 o9) (kQ I kk):=eE (Arj L a0 o9 (fun o9=>ho (B7e L (Bqv L kk) a0 L (o9.2.1,[],0)) fun o11=>Chc L kk a0 o11))
def Ari [An A Int](L:Nat)(a0:Aa)(o7:Nat×Tu9)(nx3:(Nat×Tu9)→A):A:=
 (sl o7.1 [(lf o7.2.1),
 (cn (decide ((a0.Starts.length:Int) > 32))
 (lf 6)
 (nx3 o7))])
def Aqz [An A Int](a0:Aa)(o7:Nat×Tu9):A:=Ari L a0 o7 (fun o7=>bd (Ah5 L a0 L o7.2.1 0) fun o9=>Aq0 L a0 o9)
def Bqt:Ax:=(Av 0 (Bb (EV (O85 L) L 9 c85.w.u.r) (Cm Tryz.prog (RS Tryz.f85) kk)))
theorem Cha(r1:List (List ByteArray))(a0:Aa)(o7:Nat×Tu9):kX [.ret,.exit 0] (Bek r1 a0) (Bqt L kk) o7=ob (Aqz L a0 o7) (kQ I kk):=eE (Ari L a0 o7 (fun o7=>ho (B7d L (Bqu L kk) a0 L (o7.2.1,0)) fun o9=>Chb L kk a0 o9))
def Arh [An A Int](a0:Aa)(nx2:(List (List ByteArray))→A):A:=
 (bd (Agu L a0) fun r1=>
 (nx2 r1))
def Bcx [An A Int](a0:Aa):A:=Arh L a0 (fun r1=>bd (Abo L r1 a0 L 0 [] 0) fun o7=>Aqz L a0 o7)
def A1j(a0:Aa):Option Int:=Bcx L a0
def X85:Ew:=E1 I 85 B8 (A1j L) fun a0 r h=>hF Tryz.func85 (C:=O85 L) (oS _) L (fun kk=>eE (Arh L a0 (fun r1=>ho (B7b L (Bqt L kk) r1 a0 L (0,[],0)) fun o7=>Cha L kk r1 a0 o7))) h
end
end Go.Proofs.YtofcpkmnhmnfcaaGreatR.Ev
