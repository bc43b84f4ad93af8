import Derived.Test.YthjhkpgonleelaaGreatDoorAG9
namespace Go.Proofs.YthjhkpgonleelaaGreatDoor.Ev
open Go An
set_option maxRecDepth 100000
set_option maxHeartbeats 4000000
set_option linter.unusedVariables false
set_option linter.unusedSimpArgs false
set_option linter.unnecessarySimpa false
noncomputable section
variable {A:Type} (L n:Nat) (kk:Cc) (K:Bg) (k:Bu)
def Aiq [An A Bool](L:Nat)(a0:Int):A:=
 (jp (.cn (decide (a0≥22))
 (.lf (decide (a0≤24)))
 (.lf false)) (fun b1=>
 (lf b1)))
def u7(a0:Int):Option Bool:=Aiq L a0
def Bl6:Di:=E1 B 208 (cI .i64) (u7 L) fun a0 r h=>hF Tryz.func208 (oS []) L (fun kk=>eE (Aiq L a0)) h
def Apt [An A Int](L:Nat)(a0:Int):A:=
 (cn (a0 == 25)
 (lf 15)
 (cn (a0 == 26)
 (lf 31)
 (lf 63)))
def Lu(a0:Int):Option Int:=Apt L a0
def Bl7:Di:=E1 I 209 (cI .i64) (Lu L) fun a0 r h=>hF Tryz.func209 (oS []) L (fun kk=>eE (Apt L a0)) h
def A2o(F:Ab→Bool→Option Int):Prop:=∀y0 y1 r,F y0 y1=some r→Ho Tryz.prog 182 [Bq.en y0,cB.en y1] I r
def Vz:=CC Tryz.f182
def x0(Bn:Ab→Bool→Option Int)(L:Nat):Bi:=(orc 182 (A2 I Bq cB Bn) (oL [X30 L,A9p L,Bl5 L,Bl6 L,Bl7 L]))
theorem B0p(Bn:Ab→Bool→Option Int)(Bal:A2o Bn)(L:Nat):Cz Tryz.prog (x0 Bn L):=(De (a2 _ Bal) (oS [X30 L,A9p L,Bl5 L,Bl6 L,Bl7 L]))
def A6p(a1:Bool)(a0:Ab)(v:C8):St:=⟨[(0,.any),(1,B a1),(2,.loc 2 0),(4,I v.1),(5,.any),(6,.any),(7,.any),(8,.any),(9,.any),(10,I v.2)],[(2,(Ca a0))],0⟩
def Af8 [An A Cq](Bn:Ab→Bool→Option Int)(L:Nat)(a1:Bool)(a0:Ab)(rec:Int→Int→A)(Aw:Int)(Ao:Int):A:=
 (lw Ao a0.Kids
 (bd (Bn (Ab.cp (a0.Kids.getD (Int.toNat Ao) default)) a1) fun r22=>
 (cn (r22 != 0)
 (lf (0,r22,Ao))
 (rec Aw (Bo (Ao+1)))))
 (lf (1,Aw,Ao)))
def Xx(Bn:Ab→Bool→Option Int)(L:Nat)(a1:Bool)(a0:Ab):Nat→Int→Int→Option Cq
 |0,_,_=>none
 |n+1,Aw,Ao=>Af8 Bn L a1 a0 (Xx Bn L a1 a0 n) Aw Ao
theorem Biv(Bn:Ab→Bool→Option Int)(L:Nat)(K:Bg)(a1:Bool)(a0:Ab):LP (EV (x0 Bn L) L 9 Vz.x.x.u.l.u.l.l) [0,1,2,4,5,6,7,8,9,10] [2] (A6p a1 a0) [.ret,.exit 0] (fun n v=>Xx Bn L a1 a0 n v.1 v.2) K:=lE (fun _=>rfl) fun n v ih=>eE (Af8 Bn L a1 a0 (fun Aw Ao=>re (ih (Aw,Ao))) v.1 v.2)
def A53(a1:Bool)(b3:Bool)(a0:Ab):St:=⟨[(1,B a1),(2,.loc 2 0),(4,I 0),(7,B b3)],[(2,(Ca a0))],0⟩
def A5t(Bn:Ab→Bool→Option Int)(L:Nat)(kk:Cc):Bg:=(Ct Tryz.prog (RS Tryz.f182) kk)
def Yb [An A Int](Bn:Ab→Bool→Option Int)(L:Nat)(o23:Nat×C8):A:=
 (sl o23.1 [(lf o23.2.1),
 (lf 0)])
def A4c(Bn:Ab→Bool→Option Int)(L:Nat)(kk:Cc):Bg:=(Bb 0 (Bp (EV (x0 Bn L) L 9 Vz.x.x.u.r) (Ct Tryz.prog (RS Tryz.f182) kk)))
theorem Bp8(Bn:Ab→Bool→Option Int)(L:Nat)(kk:Cc)(a1:Bool)(a0:Ab)(o23:Nat×C8):kX [.ret,.exit 0] (A6p a1 a0) (A4c Bn L kk) o23=ob (Yb Bn L o23) (kQ I kk):=eE (Yb Bn L o23)
def Agu [An A Int](Bn:Ab→Bool→Option Int)(L:Nat)(a1:Bool)(b3:Bool)(a0:Ab)(nx1:A):A:=
 (jb (.cn b3
 (.bd (Gz L a0.Name) fun r20=>
 (.lf (r20 != 0)))
 (.lf false)) (fun b19=>
 (cn b19
 (bd (Gz L a0.Name) fun r21=>
 (lf r21))
 nx1)))
def Agr [An A Int](Bn:Ab→Bool→Option Int)(L:Nat)(a1:Bool)(b3:Bool)(a0:Ab):A:=Agu Bn L a1 b3 a0 (bd (Xx Bn L a1 a0 L 0 0) fun o23=>Yb Bn L o23)
theorem Bf8(Bn:Ab→Bool→Option Int)(L:Nat)(kk:Cc)(a1:Bool)(b3:Bool)(a0:Ab):EV (x0 Bn L) L 9 Vz.x.x (A53 a1 b3 a0) (A5t Bn L kk)=ob (Agr Bn L a1 b3 a0) (kQ I kk):=eE (Agu Bn L a1 b3 a0 (ho (Biv Bn L (A4c Bn L kk) a1 a0 L (0,0)) fun o23=>Bp8 Bn L kk a1 a0 o23))
def Ao3(a1:Bool)(b3:Bool)(b5:Bool)(a0:Ab):St:=⟨[(1,B a1),(2,.loc 2 0),(4,I 0),(7,B b3),(8,B b5)],[(2,(Ca a0))],0⟩
def Aot(Bn:Ab→Bool→Option Int)(L:Nat)(kk:Cc):Bg:=(Ct Tryz.prog (RS Tryz.f182) kk)
def sx_R09_node_3 [An A Int](Bn:Ab→Bool→Option Int)(L:Nat)(a1:Bool)(b3:Bool)(b5:Bool)(a0:Ab)(nx4:Bool→Bool→Ab→A):A:=
 (cn (a0.Op == 1)
 (bd (Aid L a0.N) fun r12=>
 (cn (!r12)
 (lf 2)
 (cn (a0.Op == 2)
 (cn (a0.N != 0)
 (cn (a0.N != 1)
 (lf 2)
 (cn b5
 (cn (decide (a0.N < 0))
 (lf 2)
 (bd (Lu L a0.Op) fun r13=>
 (cn (decide (a0.N > r13))
 (lf 2)
 (nx4 a1 b3 a0))))
 (nx4 a1 b3 a0)))
 (cn b5
 (cn (decide (a0.N < 0))
 (lf 2)
 (bd (Lu L a0.Op) fun r14=>
 (cn (decide (a0.N > r14))
 (lf 2)
 (nx4 a1 b3 a0))))
 (nx4 a1 b3 a0)))
 (cn b5
 (cn (decide (a0.N < 0))
 (lf 2)
 (bd (Lu L a0.Op) fun r15=>
 (cn (decide (a0.N > r15))
 (lf 2)
 (nx4 a1 b3 a0))))
 (nx4 a1 b3 a0)))))
 (cn (a0.Op == 2)
 (cn (a0.N != 0)
 (cn (a0.N != 1)
 (lf 2)
 (cn b5
 (cn (decide (a0.N < 0))
 (lf 2)
 (bd (Lu L a0.Op) fun r16=>
 (cn (decide (a0.N > r16))
 (lf 2)
 (nx4 a1 b3 a0))))
 (nx4 a1 b3 a0)))
 (cn b5
 (cn (decide (a0.N < 0))
 (lf 2)
 (bd (Lu L a0.Op) fun r17=>
 (cn (decide (a0.N > r17))
 (lf 2)
 (nx4 a1 b3 a0))))
 (nx4 a1 b3 a0)))
 (cn b5
 (cn (decide (a0.N < 0))
 (lf 2)
 (bd (Lu L a0.Op) fun r18=>
 (cn (decide (a0.N > r18))
 (lf 2)
 (nx4 a1 b3 a0))))
 (nx4 a1 b3 a0))))
def Agq [An A Int](Bn:Ab→Bool→Option Int)(L:Nat)(a1:Bool)(b3:Bool)(b5:Bool)(a0:Ab):A:=sx_R09_node_3 Bn L a1 b3 b5 a0 (fun a1 b3 a0=>Agr Bn L a1 b3 a0)
theorem Bgl(Bn:Ab→Bool→Option Int)(L:Nat)(kk:Cc)(a1:Bool)(b3:Bool)(b5:Bool)(a0:Ab)(z4:EC):EV (x0 Bn L) L 9 (EC.put (rl [2]) z4 Vz.x.w.u) (Ao3 a1 b3 b5 a0) (Aot Bn L kk)= @sx_R09_node_3 Prop (anP (kQ I kk)) Bn L a1 b3 b5 a0 (fun a1 b3 a0=>EV (x0 Bn L) L 9 z4 (A53 a1 b3 a0) (A5t Bn L kk)):=by kernel_rfl
theorem Bf7(Bn:Ab→Bool→Option Int)(L:Nat)(kk:Cc)(a1:Bool)(b3:Bool)(b5:Bool)(a0:Ab):EV (x0 Bn L) L 9 Vz.x.w.u (Ao3 a1 b3 b5 a0) (Aot Bn L kk)=ob (Agq Bn L a1 b3 b5 a0) (kQ I kk):=Eq.trans (b:=EV (x0 Bn L) L 9 (EC.put (rl [2]) Vz.x.x Vz.x.w.u) (Ao3 a1 b3 b5 a0) (Aot Bn L kk)) (by kernel_rfl) ((Bgl Bn L kk a1 b3 b5 a0 Vz.x.x).trans (eE (sx_R09_node_3 Bn L a1 b3 b5 a0 (fun a1 b3 a0=>re (Bf8 Bn L kk a1 b3 a0)))))
def Ao2(a1:Bool)(r1:Int)(b2:Bool)(b3:Bool)(b5:Bool)(b8:Bool)(a0:Ab):St:=⟨[(1,B a1),(2,.loc 2 0),(4,I 0),(5,I r1),(6,B b2),(7,B b3),(8,B b5),(9,B b8)],[(2,(Ca a0))],0⟩
def Aos(Bn:Ab→Bool→Option Int)(L:Nat)(kk:Cc):Bg:=(Ct Tryz.prog (RS Tryz.f182) kk)
def sx_R09_node_2 [An A Int](Bn:Ab→Bool→Option Int)(L:Nat)(a1:Bool)(r1:Int)(b2:Bool)(b3:Bool)(b5:Bool)(b8:Bool)(a0:Ab)(nx3:Bool→Bool→Bool→Ab→A):A:=
 (jp (.cn (!b2)
 (.lf true)
 (.cn (!b3)
 (.lf (!(a0.Name.toList == (⟨#[]⟩:ByteArray).toList)))
 (.lf false))) (fun b9=>
 (jp (.cn b9
 (.lf true)
 (.cn (!b8)
 (.lf (a0.N != 0))
 (.lf false))) (fun b10=>
 (jp (.cn b10
 (.lf true)
 (.lf ((a0.Kids.length:Int) != r1))) (fun b11=>
 (cn b11
 (lf 1)
 (nx3 a1 b3 b5 a0))))))))
def Agp [An A Int](Bn:Ab→Bool→Option Int)(L:Nat)(a1:Bool)(r1:Int)(b2:Bool)(b3:Bool)(b5:Bool)(b8:Bool)(a0:Ab):A:=sx_R09_node_2 Bn L a1 r1 b2 b3 b5 b8 a0 (fun a1 b3 b5 a0=>Agq Bn L a1 b3 b5 a0)
theorem Bgk(Bn:Ab→Bool→Option Int)(L:Nat)(kk:Cc)(a1:Bool)(r1:Int)(b2:Bool)(b3:Bool)(b5:Bool)(b8:Bool)(a0:Ab)(z3:EC):EV (x0 Bn L) L 9 (EC.put (rl [2]) z3 Vz.x.w) (Ao2 a1 r1 b2 b3 b5 b8 a0) (Aos Bn L kk)= @sx_R09_node_2 Prop (anP (kQ I kk)) Bn L a1 r1 b2 b3 b5 b8 a0 (fun a1 b3 b5 a0=>EV (x0 Bn L) L 9 z3 (Ao3 a1 b3 b5 a0) (Aot Bn L kk)):=by kernel_rfl
theorem Bf6(Bn:Ab→Bool→Option Int)(L:Nat)(kk:Cc)(a1:Bool)(r1:Int)(b2:Bool)(b3:Bool)(b5:Bool)(b8:Bool)(a0:Ab):EV (x0 Bn L) L 9 Vz.x.w (Ao2 a1 r1 b2 b3 b5 b8 a0) (Aos Bn L kk)=ob (Agp Bn L a1 r1 b2 b3 b5 b8 a0) (kQ I kk):=Eq.trans (b:=EV (x0 Bn L) L 9 (EC.put (rl [2]) Vz.x.w.u Vz.x.w) (Ao2 a1 r1 b2 b3 b5 b8 a0) (Aos Bn L kk)) (by kernel_rfl) ((Bgk Bn L kk a1 r1 b2 b3 b5 b8 a0 Vz.x.w.u).trans (eE (sx_R09_node_2 Bn L a1 r1 b2 b3 b5 b8 a0 (fun a1 b3 b5 a0=>re (Bf7 Bn L kk a1 b3 b5 a0)))))
def Ao1(a1:Bool)(r1:Int)(b2:Bool)(b3:Bool)(a0:Ab):St:=⟨[(1,B a1),(2,.loc 2 0),(4,I 0),(5,I r1),(6,B b2),(7,B b3)],[(2,(Ca a0))],0⟩
def Aor(Bn:Ab→Bool→Option Int)(L:Nat)(kk:Cc):Bg:=(Ct Tryz.prog (RS Tryz.f182) kk)
def sx_R09_node_1 [An A Int](Bn:Ab→Bool→Option Int)(L:Nat)(a1:Bool)(r1:Int)(b2:Bool)(b3:Bool)(a0:Ab)(nx2:Bool→Int→Bool→Bool→Bool→Bool→Ab→A):A:=
 (jb (.cn a1
 (.bd (u7 L a0.Op) fun r6=>
 (.cn r6
 (.lf true)
 (.cn (a0.Op == 25)
 (.lf true)
 (.lf (a0.Op == 26)))))
 (.lf false)) (fun b5=>
 (jp (.cn (a0.Op == 1)
 (.lf true)
 (.lf (a0.Op == 2))) (fun b7=>
 (jp (.cn b7
 (.lf true)
 (.lf b5)) (fun b8=>
 (nx2 a1 r1 b2 b3 b5 b8 a0)))))))
def Ago [An A Int](Bn:Ab→Bool→Option Int)(L:Nat)(a1:Bool)(r1:Int)(b2:Bool)(b3:Bool)(a0:Ab):A:=sx_R09_node_1 Bn L a1 r1 b2 b3 a0 (fun a1 r1 b2 b3 b5 b8 a0=>Agp Bn L a1 r1 b2 b3 b5 b8 a0)
theorem Bgj(Bn:Ab→Bool→Option Int)(L:Nat)(kk:Cc)(a1:Bool)(r1:Int)(b2:Bool)(b3:Bool)(a0:Ab)(z2:EC):EV (x0 Bn L) L 9 (EC.put (rl [4]) z2 Vz.x) (Ao1 a1 r1 b2 b3 a0) (Aor Bn L kk)= @sx_R09_node_1 Prop (anP (kQ I kk)) Bn L a1 r1 b2 b3 a0 (fun a1 r1 b2 b3 b5 b8 a0=>EV (x0 Bn L) L 9 z2 (Ao2 a1 r1 b2 b3 b5 b8 a0) (Aos Bn L kk)):=by kernel_rfl
theorem Bf5(Bn:Ab→Bool→Option Int)(L:Nat)(kk:Cc)(a1:Bool)(r1:Int)(b2:Bool)(b3:Bool)(a0:Ab):EV (x0 Bn L) L 9 Vz.x (Ao1 a1 r1 b2 b3 a0) (Aor Bn L kk)=ob (Ago Bn L a1 r1 b2 b3 a0) (kQ I kk):=Eq.trans (b:=EV (x0 Bn L) L 9 (EC.put (rl [4]) Vz.x.w Vz.x) (Ao1 a1 r1 b2 b3 a0) (Aor Bn L kk)) (by kernel_rfl) ((Bgj Bn L kk a1 r1 b2 b3 a0 Vz.x.w).trans (eE (sx_R09_node_1 Bn L a1 r1 b2 b3 a0 (fun a1 r1 b2 b3 b5 b8 a0=>re (Bf6 Bn L kk a1 r1 b2 b3 b5 b8 a0)))))
def sx_R09_node_0 [An A Int](Bn:Ab→Bool→Option Int)(L:Nat)(a0:Ab)(a1:Bool)(nx1:Bool→Int→Bool→Bool→Ab→A):A:=
 (bd (Al4 L a0.Op) fun r1=>
 (jp (.cn (decide (r1≥0))
 (.cn a1
 (.cn (a0.Op != 3)
 (.lf true)
 (.cn (!a1)
 (.lf (decide (a0.Op≤24)))
 (.lf false)))
 (.cn (!a1)
 (.lf (decide (a0.Op≤24)))
 (.lf false)))
 (.lf false)) (fun b2=>
 (jb (.cn (!a1)
 (.cn (a0.Op == 3)
 (.lf true)
 (.bd (u7 L a0.Op) fun r4=>
 (.lf r4)))
 (.lf false)) (fun b3=>
 (nx1 a1 r1 b2 b3 a0))))))
def Azm [An A Int](Bn:Ab→Bool→Option Int)(L:Nat)(a0:Ab)(a1:Bool):A:=sx_R09_node_0 Bn L a0 a1 (fun a1 r1 b2 b3 a0=>Ago Bn L a1 r1 b2 b3 a0)
theorem Bgi(Bn:Ab→Bool→Option Int)(L:Nat)(kk:Cc)(a0:Ab)(a1:Bool)(z1:EC):EW (x0 Bn L) L 9 (RS Tryz.f182) (EC.put (rl [8]) z1 Vz) [.agg (Ca a0),B a1] kk= @sx_R09_node_0 Prop (anP (kQ I kk)) Bn L a0 a1 (fun a1 r1 b2 b3 a0=>EV (x0 Bn L) L 9 z1 (Ao1 a1 r1 b2 b3 a0) (Aor Bn L kk)):=by kernel_rfl
def Apb(Bn:Ab→Bool→Option Int)(L:Nat)(a0:Ab)(a1:Bool):Option Int:=Azm Bn L a0 a1
theorem By8(Bn:Ab→Bool→Option Int)(Bal:A2o Bn)(L:Nat):A2o (Apb Bn L):=fun a0 a1 r h=>hF Tryz.func182 (B0p Bn Bal L) L (fun kk=>Eq.trans (b:=EW (x0 Bn L) L 9 (RS Tryz.f182) (EC.put (rl [8]) Vz.x Vz) [.agg (Ca a0),B a1] kk) (by kernel_rfl) ((Bgi Bn L kk a0 a1 Vz.x).trans (eE (sx_R09_node_0 Bn L a0 a1 (fun a1 r1 b2 b3 a0=>re (Bf5 Bn L kk a1 r1 b2 b3 a0)))))) h
def Tn:Nat→Ab→Bool→Option Int
 |0,_,_=>none
 |L+1,a0,a1=>Apb (Tn L) L a0 a1
theorem Bg1(L:Nat):A2o (Tn L):=by
 induction L with
 |zero=>exact fun _ _ _ h=>(by cases h)
 |succ L ih=>
  have i182:=ih
  exact By8 (Tn L) i182 L
def Bs5(L:Nat):Di:=E2 I 182 Bq cB (Tn L) (Bg1 L)
def Aml [An A Int](a0:Ab)(a1:Bool):A:=
 (bd (Qf L (Ab.cp a0)) fun r1=>
 (cn (decide (r1 > 60))
 (lf 6)
 (bd (Qe L (Ab.cp a0)) fun r2=>
 (cn (decide (r2 > 12))
 (lf 11)
 (bd (Tn L (Ab.cp a0) a1) fun r3=>
 (lf r3))))))
def Acd(a0:Ab)(a1:Bool):Option Int:=Aml L a0 a1
def Blz:Di:=E2 I 142 Bq cB (Acd L) fun a0 a1 r h=>hF Tryz.func142 (oS [Bs3 L,Bs4 L,Bs5 L]) L (fun kk=>eE (Aml L a0 a1)) h
def Amk [An A Int](a0:Ab):A:=
 (bd (Acd L (Ab.cp a0) false) fun r1=>
 (lf r1))
def Qd(a0:Ab):Option Int:=Amk L a0
def Btn:Di:=E1 I 230 Bq (Qd L) fun a0 r h=>hF Tryz.func230 (oS [Blz L]) L (fun kk=>eE (Amk L a0)) h
def Bux:=CC Tryz.f227
def Blv:Bi:=oL [Btn L]
def Wo:Bg:=(Bb 0 (Bp (EV (Blv L) L 9 Bux.x.u.r) (Ct Tryz.prog (RS Tryz.f227) kk)))
def Tg(a0:Af)(a1:Cg)(v:C8):St:=⟨[(0,.any),(1,.any),(2,.loc 2 0),(3,.any),(4,I 0),(5,I v.1),(6,I v.2)],[(2,(L3 a0)),(3,(Aai a1))],0⟩
def Adi [An A Cq](a0:Af)(a1:Cg)(rec:Int→Int→A)(Aw:Int)(Ao:Int):A:=
 (jp (.cn (Aw == 0)
 (.lf (decide (Ao < (a0.Args.length:Int))))
 (.lf false)) (fun b5=>
 (cn b5
 (gi Ao a0.Args
 (bd (Qd L (Ab.cp (a0.Args.getD (Int.toNat Ao) default))) fun r6=>
 (rec r6 (Bo (Ao+1)))))
 (lf (0,Aw,Ao)))))
def D5(L:Nat)(a0:Af)(a1:Cg):Nat→Int→Int→Option Cq
 |0,_,_=>none
 |n+1,Aw,Ao=>Adi L a0 a1 (D5 L a0 a1 n) Aw Ao
theorem Wu(a0:Af)(a1:Cg):LP (EV (Blv L) L 9 Bux.x.u.l.u.l.l) [0,1,2,3,4,5,6] [2,3] (Tg a0 a1) [.exit 0] (fun n v=>D5 L a0 a1 n v.1 v.2) K:=lE (fun _=>rfl) fun n v ih=>eE (Adi L a0 a1 (fun Aw Ao=>re (ih (Aw,Ao))) v.1 v.2)
def U7 [An A Int](L:Nat)(o10:Nat×C8):A:=
 (sl o10.1 [(lf o10.2.1)])
def A4r:Bg:=(Wo L kk)
theorem Bqn(a0:Af)(a1:Cg)(o10:Nat×C8):kX [.exit 0] (Tg a0 a1) (A4r L kk) o10=ob (U7 L o10) (kQ I kk):=eE (U7 L o10)
def U8 [An A Int](L:Nat)(o11:Nat×C8):A:=
 (sl o11.1 [(lf o11.2.1)])
def A4s:Bg:=(Wo L kk)
theorem Bqo(a0:Af)(a1:Cg)(o11:Nat×C8):kX [.exit 0] (Tg a0 a1) (A4s L kk) o11=ob (U8 L o11) (kQ I kk):=eE (U8 L o11)
def U9 [An A Int](L:Nat)(o12:Nat×C8):A:=
 (sl o12.1 [(lf o12.2.1)])
def A4t:Bg:=(Wo L kk)
theorem Bqp(a0:Af)(a1:Cg)(o12:Nat×C8):kX [.exit 0] (Tg a0 a1) (A4t L kk) o12=ob (U9 L o12) (kQ I kk):=eE (U9 L o12)
def Va [An A Int](L:Nat)(o13:Nat×C8):A:=
 (sl o13.1 [(lf o13.2.1)])
def A4u:Bg:=(Wo L kk)
theorem Bqq(a0:Af)(a1:Cg)(o13:Nat×C8):kX [.exit 0] (Tg a0 a1) (A4u L kk) o13=ob (Va L o13) (kQ I kk):=eE (Va L o13)
def Vb [An A Int](L:Nat)(o14:Nat×C8):A:=
 (sl o14.1 [(lf o14.2.1)])
def A4v:Bg:=(Wo L kk)
theorem Bqr(a0:Af)(a1:Cg)(o14:Nat×C8):kX [.exit 0] (Tg a0 a1) (A4v L kk) o14=ob (Vb L o14) (kQ I kk):=eE (Vb L o14)
def Vc [An A Int](L:Nat)(o15:Nat×C8):A:=
 (sl o15.1 [(lf o15.2.1)])
def A4w:Bg:=(Wo L kk)
theorem Bqs(a0:Af)(a1:Cg)(o15:Nat×C8):kX [.exit 0] (Tg a0 a1) (A4w L kk) o15=ob (Vc L o15) (kQ I kk):=eE (Vc L o15)
def Vd [An A Int](L:Nat)(o16:Nat×C8):A:=
 (sl o16.1 [(lf o16.2.1)])
def A4x:Bg:=(Wo L kk)
theorem Bqt(a0:Af)(a1:Cg)(o16:Nat×C8):kX [.exit 0] (Tg a0 a1) (A4x L kk) o16=ob (Vd L o16) (kQ I kk):=eE (Vd L o16)
def Ve [An A Int](L:Nat)(o17:Nat×C8):A:=
 (sl o17.1 [(lf o17.2.1)])
def A4y:Bg:=(Wo L kk)
theorem Bqu(a0:Af)(a1:Cg)(o17:Nat×C8):kX [.exit 0] (Tg a0 a1) (A4y L kk) o17=ob (Ve L o17) (kQ I kk):=eE (Ve L o17)
def Aen [An A Int](a0:Af)(a1:Cg)(nx1:A)(nx2:Int→A)(nx3:A)(nx4:Int→A)(nx5:A)(nx6:Int→A)(nx7:A)(nx8:A):A:=
 (cn a1.E
 (bd (Qd L (Ab.cp a0.E)) fun r1=>
 (jp (.cn (r1 == 0)
 (.lf a1.F)
 (.lf false)) (fun b2=>
 (cn b2
 (bd (Qd L (Ab.cp a0.F)) fun r3=>
 (jp (.cn (r3 == 0)
 (.lf (decide ((a0.Args.length:Int) > 6)))
 (.lf false)) (fun b4=>
 (cn b4
 nx1
 (nx2 r3)))))
 (jp (.cn (r1 == 0)
 (.lf (decide ((a0.Args.length:Int) > 6)))
 (.lf false)) (fun b7=>
 (cn b7
 nx3
 (nx4 r1))))))))
 (nq (cn a1.F
 (bd (Qd L (Ab.cp a0.F)) fun r8=>
 (jp (.cn (r8 == 0)
 (.lf (decide ((a0.Args.length:Int) > 6)))
 (.lf false)) (fun b9=>
 (cn b9
 nx5
 (nx6 r8)))))
 (nq (cn (decide ((a0.Args.length:Int) > 6))
 nx7
 nx8)))))
def Awf [An A Int](a0:Af)(a1:Cg):A:=Aen L a0 a1 (bd (D5 L a0 a1 L 6 0) fun o10=>U7 L o10) (fun r3=>bd (D5 L a0 a1 L r3 0) fun o11=>U8 L o11) (bd (D5 L a0 a1 L 6 0) fun o12=>U9 L o12) (fun r1=>bd (D5 L a0 a1 L r1 0) fun o13=>Va L o13) (bd (D5 L a0 a1 L 6 0) fun o14=>Vb L o14) (fun r8=>bd (D5 L a0 a1 L r8 0) fun o15=>Vc L o15) (bd (D5 L a0 a1 L 6 0) fun o16=>Vd L o16) (bd (D5 L a0 a1 L 0 0) fun o17=>Ve L o17)
def Al6(a0:Af)(a1:Cg):Option Int:=Awf L a0 a1
def Btl:Di:=E2 I 227 Qj Aww (Al6 L) fun a0 a1 r h=>hF Tryz.func227 (C:=Blv L) (oS _) L (fun kk=>eE (Aen L a0 a1 (ho (Wu L (A4r L kk) a0 a1 L (6,0)) fun o10=>Bqn L kk a0 a1 o10) (fun r3=>ho (Wu L (A4s L kk) a0 a1 L (r3,0)) fun o11=>Bqo L kk a0 a1 o11) (ho (Wu L (A4t L kk) a0 a1 L (6,0)) fun o12=>Bqp L kk a0 a1 o12) (fun r1=>ho (Wu L (A4u L kk) a0 a1 L (r1,0)) fun o13=>Bqq L kk a0 a1 o13) (ho (Wu L (A4v L kk) a0 a1 L (6,0)) fun o14=>Bqr L kk a0 a1 o14) (fun r8=>ho (Wu L (A4w L kk) a0 a1 L (r8,0)) fun o15=>Bqs L kk a0 a1 o15) (ho (Wu L (A4x L kk) a0 a1 L (6,0)) fun o16=>Bqt L kk a0 a1 o16) (ho (Wu L (A4y L kk) a0 a1 L (0,0)) fun o17=>Bqu L kk a0 a1 o17))) h
def Ar7 [An A Int](a0:Af):A:=
 (bd (Ape L a0.Op) fun r1=>
 (bd (Aif L (Af.cp a0)) fun r2=>
 (cn (!r2)
 (lf 1)
 (jb (.cn r1.1.Name
 (.bd (Gz L a0.Name) fun r4=>
 (.lf (r4 != 0)))
 (.lf false)) (fun b3=>
 (jb (.cn b3
 (.lf true)
 (.cn r1.1.Of
 (.bd (Gz L a0.Of) fun r6=>
 (.lf (r6 != 0)))
 (.lf false))) (fun b5=>
 (cn b5
 (lf 3)
 (bd (Al6 L (Af.cp a0) (⟨r1.1.Name,r1.1.Of,r1.1.E,r1.1.F,r1.1.Args,r1.1.Dist,r1.1.Flag,r1.1.Body,r1.1.Else⟩:Cg)) fun r7=>
 (jp (.cn (r7 == 0)
 (.lf r1.1.Dist)
 (.lf false)) (fun b8=>
 (cn b8
 (bd (Qc L a0.Dist) fun r9=>
 (lf r9))
 (lf r7)))))))))))))
def Ar2(a0:Af):Option Int:=Ar7 L a0
def Bmc:Di:=E1 I 218 Qj (Ar2 L) fun a0 r h=>hF Tryz.func218 (oS [X30 L,X85 L,Bme L,Btk L,Btl L]) L (fun kk=>eE (Ar7 L a0)) h
def A2y(F:(List Af)→Option Int):Prop:=∀y0 r,F y0=some r→Ho Tryz.prog 206 [Md.en y0] I r
def Buu:=CC Tryz.f206
def Blu(Dv:(List Af)→Option Int)(L:Nat):Bi:=(orc 206 (A1 I Md Dv) (oL [Bmc L]))
theorem B0z(Dv:(List Af)→Option Int)(Bav:A2y Dv)(L:Nat):Cz Tryz.prog (Blu Dv L):=(De (a1 _ Bav) (oS [Bmc L]))
def A60(a0:List Af)(v:C8):St:=⟨[(0,lv (.t264 a0)),(2,I v.1),(3,I v.2)],[],0⟩
def Af9 [An A Cq](Dv:(List Af)→Option Int)(L:Nat)(a0:List Af)(rec:Int→Int→A)(Aw:Int)(Ao:Int):A:=
 (lw Ao a0
 (bd (Ar2 L (Af.cp (a0.getD (Int.toNat Ao) default))) fun r1=>
 (cn (r1 == 0)
 (gi Ao a0
 (bd (Dv ((a0.getD (Int.toNat Ao) default).Body)) fun r2=>
 (cn (r2 == 0)
 (gi Ao a0
 (bd (Dv ((a0.getD (Int.toNat Ao) default).Else)) fun r3=>
 (cn (r3 != 0)
 (lf (0,r3,Ao))
 (rec Aw (Bo (Ao+1))))))
 (cn (r2 != 0)
 (lf (0,r2,Ao))
 (rec Aw (Bo (Ao+1)))))))
 (cn (r1 == 0)
 (gi Ao a0
 (bd (Dv ((a0.getD (Int.toNat Ao) default).Else)) fun r4=>
 (cn (r4 != 0)
 (lf (0,r4,Ao))
 (rec Aw (Bo (Ao+1))))))
 (cn (r1 != 0)
 (lf (0,r1,Ao))
 (rec Aw (Bo (Ao+1)))))))
 (lf (1,Aw,Ao)))
def Xy(Dv:(List Af)→Option Int)(L:Nat)(a0:List Af):Nat→Int→Int→Option Cq
 |0,_,_=>none
 |n+1,Aw,Ao=>Af9 Dv L a0 (Xy Dv L a0 n) Aw Ao
theorem Bi6(Dv:(List Af)→Option Int)(L:Nat)(K:Bg)(a0:List Af):LP (EV (Blu Dv L) L 9 Buu.u.l.u.l.l) [0,2,3] [] (A60 a0) [.ret,.exit 0] (fun n v=>Xy Dv L a0 n v.1 v.2) K:=lE (fun _=>rfl) fun n v ih=>eE (Af9 Dv L a0 (fun Aw Ao=>re (ih (Aw,Ao))) v.1 v.2)
def Yc [An A Int](Dv:(List Af)→Option Int)(L:Nat)(o5:Nat×C8):A:=
 (sl o5.1 [(lf o5.2.1),
 (lf 0)])
def A4n(Dv:(List Af)→Option Int)(L:Nat)(kk:Cc):Bg:=(Bb 0 (Bp (EV (Blu Dv L) L 9 Buu.u.r) (Ct Tryz.prog (RS Tryz.f206) kk)))
theorem Bqj(Dv:(List Af)→Option Int)(L:Nat)(kk:Cc)(a0:List Af)(o5:Nat×C8):kX [.ret,.exit 0] (A60 a0) (A4n Dv L kk) o5=ob (Yc Dv L o5) (kQ I kk):=eE (Yc Dv L o5)
def Azn [An A Int](Dv:(List Af)→Option Int)(L:Nat)(a0:List Af):A:=(bd (Xy Dv L a0 L 0 0) fun o5=>Yc Dv L o5)
def Apc(Dv:(List Af)→Option Int)(L:Nat)(a0:List Af):Option Int:=Azn Dv L a0
theorem Bzi(Dv:(List Af)→Option Int)(Bav:A2y Dv)(L:Nat):A2y (Apc Dv L):=fun a0 r h=>hF Tryz.func206 (B0z Dv Bav L) L (fun kk=>eE ((ho (Bi6 Dv L (A4n Dv L kk) a0 L (0,0)) fun o5=>Bqj Dv L kk a0 o5))) h
def Tp:Nat→(List Af)→Option Int
 |0,_=>none
 |L+1,a0=>Apc (Tp L) L a0
theorem Bhb(L:Nat):A2y (Tp L):=by
 induction L with
 |zero=>exact fun _ _ h=>(by cases h)
 |succ L ih=>
  have i206:=ih
  exact Bzi (Tp L) i206 L
def Btf(L:Nat):Di:=E1 I 206 Md (Tp L) (Bhb L)
def Amm [An A Int](a0:List Af):A:=
 (bd (Qg L a0) fun r1=>
 (cn (decide (r1 > 200))
 (lf 6)
 (bd (Qh L a0) fun r2=>
 (cn (decide (r2 > 12))
 (lf 11)
 (bd (Tp L a0) fun r3=>
 (lf r3))))))
def Al5(a0:List Af):Option Int:=Amm L a0
def Bsz:Di:=E1 I 175 Md (Al5 L) fun a0 r h=>hF Tryz.func175 (oS [Btd L,Bte L,Btf L]) L (fun kk=>eE (Amm L a0)) h
def Bt3:=CC Tryz.f133
def Blb:Bi:=oL [X47 L,X48 L,X50 L,X71 L,Bsz L]
def A6b(a0:Aj)(v:Tu7):St:=⟨[(0,.any),(1,.loc 1 0),(2,I v.1),(3,.lst true (.t9 v.2.1)),(4,.lst true (.t200 (a0.Params++a0.Locals))),(5,I v.2.2)],[(1,(Ck a0))],0⟩
def b0 [An A (Nat×Tu7)](a0:Aj)(rec:Int→List ByteArray→Int→A)(Ar:Int)(Aw:List ByteArray)(Ag:Int):A:=
 (lw Ag (a0.Params++a0.Locals)
 (bd (Ma L (((a0.Params++a0.Locals).getD (Int.toNat Ag) default).Name) Aw) fun r2=>
 (gi Ag (a0.Params++a0.Locals)
 (bd (V4 L (((a0.Params++a0.Locals).getD (Int.toNat Ag) default).Type_)) fun r3=>
 (bd (Ci L r3 1) fun r4=>
 (bd (C5 L r2 r4) fun r5=>
 (cn (r5 != 0)
 (lf (0,r5,Aw,Ag))
 (gi Ag (a0.Params++a0.Locals)
 (gq ((Aw.length+ [((a0.Params++a0.Locals).getD (Int.toNat Ag) default).Name].length)*16≤140737488355328)
 (gq (Aw.length+ [((a0.Params++a0.Locals).getD (Int.toNat Ag) default).Name].length≤maxLen)
 (rec Ar (Aw++ [((a0.Params++a0.Locals).getD (Int.toNat Ag) default).Name]) (Bo (Ag+1))))))))))))
 (lf (1,Ar,Aw,Ag)))
def Oi(L:Nat)(a0:Aj):Nat→Int→List ByteArray→Int→Option (Nat×Tu7)
 |0,_,_,_=>none
 |n+1,Ar,Aw,Ag=>b0 L a0 (Oi L a0 n) Ar Aw Ag
theorem Big(a0:Aj):LP (EV (Blb L) L 9 Bt3.x.l.u.l.l) [0,1,2,3,4,5] [1] (A6b a0) [.ret,.exit 0] (fun n v=>Oi L a0 n v.1 v.2.1 v.2.2) K:=lE (fun _=>rfl) fun n v ih=>eE (b0 L a0 (fun Ar Aw Ag=>re (ih (Ar,Aw,Ag))) v.1 v.2.1 v.2.2)
def Ov [An A Int](a0:Aj)(o6:Nat×Tu7):A:=
 (sl o6.1 [(lf o6.2.1),
 (bd (Al5 L a0.Body) fun r7=>
 (lf r7))])
def A3p:Bg:=(Bb 0 (Bp (EV (Blb L) L 9 Bt3.x.r) (Ct Tryz.prog (RS Tryz.f133) kk)))
theorem Bpl(a0:Aj)(o6:Nat×Tu7):kX [.ret,.exit 0] (A6b a0) (A3p L kk) o6=ob (Ov L a0 o6) (kQ I kk):=eE (Ov L a0 o6)
def k7 [An A Int](L:Nat)(a0:Aj)(nx1:A):A:=
 (jp (.cn (decide ((a0.Params.length:Int) > 6))
 (.lf true)
 (.lf (decide ((Bo ((a0.Params.length:Int)+(a0.Locals.length:Int))) > 16)))) (fun b1=>
 (cn b1
 (lf 6)
 (gq ((0+a0.Params.length)*24≤140737488355328)
 (gq (0+a0.Params.length≤maxLen)
 (gq ((a0.Params.length+a0.Locals.length)*24≤140737488355328)
 (gq (a0.Params.length+a0.Locals.length≤maxLen)
 nx1)))))))
def Ark [An A Int](a0:Aj):A:=k7 L a0 (bd (Oi L a0 L 0 [] 0) fun o6=>Ov L a0 o6)
def Afo(a0:Aj):Option Int:=Ark L a0
def Bsj:Di:=E1 I 133 Ac4 (Afo L) fun a0 r h=>hF Tryz.func133 (C:=Blb L) (oS _) L (fun kk=>eE (k7 L a0 (ho (Big L (A3p L kk) a0 L (0,[],0)) fun o6=>Bpl L kk a0 o6))) h
def Acs [An A Int](a0:Aa)(a1:Int)(a2:Int):A:=
 (cn (a1 == 0)
 (gi a2 a0.Vars
 (bd (V4 L ((a0.Vars.getD (Int.toNat a2) default).Type_)) fun r1=>
 (bd (Ci L r1 1) fun r2=>
 (gi a2 a0.Vars
 (gi a2 a0.Vars
 (bd (u9 L ((a0.Vars.getD (Int.toNat a2) default).Type_) ((a0.Vars.getD (Int.toNat a2) default).N)) fun r3=>
 (bd (Ci L r3 2) fun r4=>
 (bd (C5 L r2 r4) fun r5=>
 (lf r5)))))))))
 (cn (a1 == 1)
 (gi a2 a0.Resources
 (bd (Acg L a0 (⟨(a0.Resources.getD (Int.toNat a2) default).Name,(a0.Resources.getD (Int.toNat a2) default).Units,(a0.Resources.getD (Int.toNat a2) default).Shift,(a0.Resources.getD (Int.toNat a2) default).Cycle,(⟨((a0.Resources.getD (Int.toNat a2) default).Fault).Stream,(((a0.Resources.getD (Int.toNat a2) default).Fault).Up),(((a0.Resources.getD (Int.toNat a2) default).Fault).Down)⟩:J5)⟩:Ah)) fun r6=>
 (lf r6)))
 (cn (a1 == 2)
 (gi a2 a0.Stores
 (gi a2 a0.Stores
 (bd (Dj L ((a0.Stores.getD (Int.toNat a2) default).Room) 1 1000) fun r7=>
 (bd (Ci L r7 2) fun r8=>
 (jp (.cn (decide ((a0.Stores.getD (Int.toNat a2) default).Policy≥1))
 (.lf (decide ((a0.Stores.getD (Int.toNat a2) default).Policy≤3)))
 (.lf false)) (fun b9=>
 (bd (Ci L b9 1) fun r10=>
 (bd (C5 L r8 r10) fun r11=>
 (lf r11)))))))))
 (cn (a1 == 3)
 (gi a2 a0.Belts
 (bd (Dj L ((a0.Belts.getD (Int.toNat a2) default).Length) 1 1000) fun r12=>
 (jb (.cn r12
 (.gq (0≤a2)
 (.gq (a2 < (a0.Belts.length:Int))
 (.bd (Dj L ((a0.Belts.getD (Int.toNat a2) default).Step) 1 1000) fun r14=>
 (.lf r14))))
 (.lf false)) (fun b13=>
 (bd (Ci L b13 2) fun r15=>
 (lf r15))))))
 (cn (a1 == 9)
 (gi a2 a0.Routines
 (bd (Afo L (a0.Routines.getD (Int.toNat a2) default)) fun r16=>
 (lf r16)))
 (lf 0))))))
def Acf(a0:Aa)(a1:Int)(a2:Int):Option Int:=Acs L a0 a1 a2
def X74:Di:=E3 I 74 Cs (cI .i64) (cI .i64) (Acf L) fun a0 a1 a2 r h=>hF Tryz.func74 (oS [X47 L,X48 L,X71 L,X72 L,X78 L,Bsi L,Bsj L]) L (fun kk=>eE (Acs L a0 a1 a2)) h
def Afx [An A Int](a0:Aa)(a1:ByteArray):A:=
 (bd (V3 L a0) fun r1=>
 (gi 9 r1
 (bd (N6 L (r1.getD 9 default) a1) fun r2=>
 (lf r2))))
def Afn(a0:Aa)(a1:ByteArray):Option Int:=Afx L a0 a1
def Bsk:Di:=E2 I 134 Cs cS (Afn L) fun a0 a1 r h=>hF Tryz.func134 (oS [X69 L,X73 L]) L (fun kk=>eE (Afx L a0 a1)) h
def c75:=CC Tryz.f75
def O75:Bi:=oL [X48 L,X72 L,X78 L,Bsk L]
def Beh(a0:Aa)(r1:Int)(a1:Bv)(v:C8):St:=⟨[(0,.any),(1,.any),(2,.any),(3,.loc 3 0),(4,I v.1),(5,.any),(6,lv (.t200 ((a0.Routines.getD (Int.toNat r1) default).Params))),(7,I v.2),(8,.any)],[(2,(Ad a0)),(3,(Wi a1))],0⟩
def Adr [An A Cq](a0:Aa)(r1:Int)(a1:Bv)(rec:Int→Int→A)(Ar:Int)(Ao:Int):A:=
 (lw Ao ((a0.Routines.getD (Int.toNat r1) default).Params)
 (gi Ao a1.Args
 (bd (u9 L ((((a0.Routines.getD (Int.toNat r1) default).Params).getD (Int.toNat Ao) default).Type_) (a1.Args.getD (Int.toNat Ao) default)) fun r2=>
 (cn (!r2)
 (lf (0,2,Ao))
 (rec Ar (Bo (Ao+1))))))
 (lf (1,Ar,Ao)))
def Uu(L:Nat)(a0:Aa)(r1:Int)(a1:Bv):Nat→Int→Int→Option Cq
 |0,_,_=>none
 |n+1,Ar,Ao=>Adr L a0 r1 a1 (Uu L a0 r1 a1 n) Ar Ao
theorem Bo1(a0:Aa)(r1:Int)(a1:Bv):LP (EV (O75 L) L 9 c75.x.u.l.u.l.l) [0,1,2,3,4,5,6,7,8] [2,3] (Beh a0 r1 a1) [.ret,.exit 0] (fun n v=>Uu L a0 r1 a1 n v.1 v.2) K:=lE (fun _=>rfl) fun n v ih=>eE (Adr L a0 r1 a1 (fun Ar Ao=>re (ih (Ar,Ao))) v.1 v.2)
def Vj [An A Int](a1:Bv)(o3:Nat×C8):A:=
 (sl o3.1 [(lf o3.2.1),
 (bd (Dj L a1.At 0 1000000000) fun r4=>
 (jb (.cn r4
 (.bd (Dj L a1.Every 0 1000000000) fun r6=>
 (.lf r6))
 (.lf false)) (fun b5=>
 (jb (.cn b5
 (.bd (Dj L a1.Until 0 1000000000) fun r8=>
 (.lf r8))
 (.lf false)) (fun b7=>
 (jp (.cn b7
 (.cn (a1.Every != 0)
 (.lf true)
 (.lf (a1.Until == 0)))
 (.lf false)) (fun b9=>
 (bd (Ci L b9 2) fun r10=>
 (lf r10)))))))))])
def Bcn:Bg:=(Bb 0 (Bp (EV (O75 L) L 9 c75.x.u.r) (Ct Tryz.prog (RS Tryz.f75) kk)))
theorem Bw3(a0:Aa)(r1:Int)(a1:Bv)(o3:Nat×C8):kX [.ret,.exit 0] (Beh a0 r1 a1) (Bcn L kk) o3=ob (Vj L a1 o3) (kQ I kk):=eE (Vj L a1 o3)
def Aew [An A Int](a0:Aa)(a1:Bv)(nx1:Int→A):A:=
 (bd (Afn L a0 a1.Routine) fun r1=>
 (cn (decide (r1 < 0))
 (lf 5)
 (gi r1 a0.Routines
 (cn ((a1.Args.length:Int) != (((a0.Routines.getD (Int.toNat r1) default).Params).length:Int))
 (lf 8)
 (nx1 r1)))))
def Awj [An A Int](a0:Aa)(a1:Bv):A:=Aew L a0 a1 (fun r1=>bd (Uu L a0 r1 a1 L 0 0) fun o3=>Vj L a1 o3)
def Al9(a0:Aa)(a1:Bv):Option Int:=Awj L a0 a1
def X75:Di:=E2 I 75 Cs Ajd (Al9 L) fun a0 a1 r h=>hF Tryz.func75 (C:=O75 L) (oS _) L (fun kk=>eE (Aew L a0 a1 (fun r1=>ho (Bo1 L (Bcn L kk) a0 r1 a1 L (0,0)) fun o3=>Bw3 L kk a0 r1 a1 o3))) h
def Buc:=CC Tryz.f176
def Blf:Bi:=oL [X69 L,X73 L]
def A6k(a1:ByteArray)(r1:List (List ByteArray))(a0:Aa)(v:ByteArray×Int):St:=⟨[(0,.any),(1,S a1),(2,.any),(4,S v.1),(5,lv (.t61 r1)),(6,.lst true (.t9 [(⟨#[118,97,114]⟩:ByteArray),(⟨#[114,101,115,111,117,114,99,101]⟩:ByteArray),(⟨#[115,116,111,114,101]⟩:ByteArray),(⟨#[98,101,108,116]⟩:ByteArray),(⟨#[113,117,101,117,101]⟩:ByteArray),(⟨#[115,116,114,101,97,109]⟩:ByteArray),(⟨#[116,97,108,108,121]⟩:ByteArray),(⟨#[108,101,118,101,108]⟩:ByteArray),(⟨#[99,111,117,110,116]⟩:ByteArray),(⟨#[114,111,117,116,105,110,101]⟩:ByteArray)])),(7,I v.2)],[(2,(Ad a0))],0⟩
def Aga [An A (Nat×ByteArray×Int)](a1:ByteArray)(r1:List (List ByteArray))(a0:Aa)(rec:ByteArray→Int→A)(Aw:ByteArray)(Ae:Int):A:=
 (lw Ae r1
 (bd (N6 L (r1.getD (Int.toNat Ae) default) a1) fun r2=>
 (cn (decide (r2≥0))
 (gq (0≤Ae)
 (gq (Ae < (([(⟨#[118,97,114]⟩:ByteArray),(⟨#[114,101,115,111,117,114,99,101]⟩:ByteArray),(⟨#[115,116,111,114,101]⟩:ByteArray),(⟨#[98,101,108,116]⟩:ByteArray),(⟨#[113,117,101,117,101]⟩:ByteArray),(⟨#[115,116,114,101,97,109]⟩:ByteArray),(⟨#[116,97,108,108,121]⟩:ByteArray),(⟨#[108,101,118,101,108]⟩:ByteArray),(⟨#[99,111,117,110,116]⟩:ByteArray),(⟨#[114,111,117,116,105,110,101]⟩:ByteArray)].length:Nat):Int))
 (lf (0,(([(⟨#[118,97,114]⟩:ByteArray),(⟨#[114,101,115,111,117,114,99,101]⟩:ByteArray),(⟨#[115,116,111,114,101]⟩:ByteArray),(⟨#[98,101,108,116]⟩:ByteArray),(⟨#[113,117,101,117,101]⟩:ByteArray),(⟨#[115,116,114,101,97,109]⟩:ByteArray),(⟨#[116,97,108,108,121]⟩:ByteArray),(⟨#[108,101,118,101,108]⟩:ByteArray),(⟨#[99,111,117,110,116]⟩:ByteArray),(⟨#[114,111,117,116,105,110,101]⟩:ByteArray)].getD (Int.toNat Ae) default),Ae)))))
 (rec Aw (Bo (Ae+1)))))
 (lf (1,Aw,Ae)))
def Xz(L:Nat)(a1:ByteArray)(r1:List (List ByteArray))(a0:Aa):Nat→ByteArray→Int→Option (Nat×ByteArray×Int)
 |0,_,_=>none
 |n+1,Aw,Ae=>Aga L a1 r1 a0 (Xz L a1 r1 a0 n) Aw Ae
theorem Bip(a1:ByteArray)(r1:List (List ByteArray))(a0:Aa):LP (EV (Blf L) L 9 Buc.w.u.l.u.l.l) [0,1,2,4,5,6,7] [2] (A6k a1 r1 a0) [.ret,.exit 0] (fun n v=>Xz L a1 r1 a0 n v.1 v.2) K:=lE (fun _=>rfl) fun n v ih=>eE (Aga L a1 r1 a0 (fun Aw Ae=>re (ih (Aw,Ae))) v.1 v.2)
def Yd [An A ByteArray](L:Nat)(o3:Nat×ByteArray×Int):A:=
 (sl o3.1 [(lf o3.2.1),
 (lf (⟨#[]⟩:ByteArray))])
def A37:Bg:=(Bb 0 (Bp (EV (Blf L) L 9 Buc.w.u.r) (Ct Tryz.prog (RS Tryz.f176) kk)))
theorem Bp3(a1:ByteArray)(r1:List (List ByteArray))(a0:Aa)(o3:Nat×ByteArray×Int):kX [.ret,.exit 0] (A6k a1 r1 a0) (A37 L kk) o3=ob (Yd L o3) (kQ S kk):=eE (Yd L o3)
def Agv [An A ByteArray](a0:Aa)(a1:ByteArray)(nx1:(List (List ByteArray))→A):A:=
 (bd (V3 L a0) fun r1=>
 (nx1 r1))
def Azo [An A ByteArray](a0:Aa)(a1:ByteArray):A:=Agv L a0 a1 (fun r1=>bd (Xz L a1 r1 a0 L (⟨#[]⟩:ByteArray) 0) fun o3=>Yd L o3)
def Apf(a0:Aa)(a1:ByteArray):Option ByteArray:=Azo L a0 a1
def Bs0:Di:=E2 S 176 Cs cS (Apf L) fun a0 a1 r h=>hF Tryz.func176 (C:=Blf L) (oS _) L (fun kk=>eE (Agv L a0 a1 (fun r1=>ho (Bip L (A37 L kk) a1 r1 a0 L ((⟨#[]⟩:ByteArray),0)) fun o3=>Bp3 L kk a1 r1 a0 o3))) h
def Ro:=CC Tryz.f135
def Afh:Bi:=oL [X47 L,X48 L,X78 L,Bs0 L]
def Avk(a0:Aa)(a1:Bj)(p801_1:ByteArray):St:=⟨[(2,.loc 2 0),(3,.loc 3 0),(4,I 0),(5,S p801_1)],[(2,(Ad a0)),(3,(Dx a1))],0⟩
def Au2(L:Nat)(kk:Cc):Bg:=(Ct Tryz.prog (RS Tryz.f135) kk)
def Qa [An A Int](a0:Aa)(a1:Bj)(p801_1:ByteArray):A:=
 (bd (Ci L (!(p801_1.toList == (⟨#[]⟩:ByteArray).toList)) 1) fun r1=>
 (bd (Apf L a0 a1.Name) fun r2=>
 (bd (Ci L (r2.toList == p801_1.toList) 5) fun r3=>
 (bd (C5 L r1 r3) fun r4=>
 (bd (Dj L a1.Coef (-1000) 1000) fun r5=>
 (jp (.cn r5
 (.lf (a1.Coef != 0))
 (.lf false)) (fun b6=>
 (bd (Ci L b6 2) fun r7=>
 (bd (C5 L r4 r7) fun r8=>
 (lf r8))))))))))
theorem A24(a0:Aa)(a1:Bj)(p801_1:ByteArray):EV (Afh L) L 9 Ro.w.u (Avk a0 a1 p801_1) (Au2 L kk)=ob (Qa L a0 a1 p801_1) (kQ I kk):=eE (Qa L a0 a1 p801_1)
def Ao0(a1:Bj)(a0:Aa)(p803_3:Bool):St:=⟨[(2,.loc 2 0),(3,.loc 3 0),(4,I 0),(5,S (⟨#[]⟩:ByteArray)),(8,S a1.What),(13,B p803_3)],[(2,(Ad a0)),(3,(Dx a1))],0⟩
def Aoq(e0:EC):Bg:=(Bb 0 (Bp (EV (Afh L) L 9 e0) (Ct Tryz.prog (RS Tryz.f135) kk)))
def sx_R11_term_3 [An A Int](L:Nat)(a1:Bj)(a0:Aa)(p803_3:Bool)(nx1:Aa→Bj→ByteArray→A):A:=
 (cn p803_3
 (nx1 a0 a1 (⟨#[115,116,111,114,101]⟩:ByteArray))
 (cn (a1.What.toList == (⟨#[99,111,117,110,116,101,100]⟩:ByteArray).toList)
 (nx1 a0 a1 (⟨#[99,111,117,110,116]⟩:ByteArray))
 (nx1 a0 a1 (⟨#[]⟩:ByteArray))))
def Agt [An A Int](a1:Bj)(a0:Aa)(p803_3:Bool):A:=sx_R11_term_3 L a1 a0 p803_3 (fun a0 a1 p801_1=>Qa L a0 a1 p801_1)
theorem Bgh(a1:Bj)(a0:Aa)(p803_3:Bool)(z1:EC):EV (Afh L) L 9 Ro.w.l.u.l.w.r (Ao0 a1 a0 p803_3) (Aoq L kk (EC.put (rl [1]) z1 Ro.w.r))= @sx_R11_term_3 Prop (anP (kQ I kk)) L a1 a0 p803_3 (fun a0 a1 p801_1=>EV (Afh L) L 9 z1 (Avk a0 a1 p801_1) (Au2 L kk)):=by kernel_rfl
theorem Bf4(a1:Bj)(a0:Aa)(p803_3:Bool):EV (Afh L) L 9 Ro.w.l.u.l.w.r (Ao0 a1 a0 p803_3) (Aoq L kk Ro.w.r)=ob (Agt L a1 a0 p803_3) (kQ I kk):=Eq.trans (b:=EV (Afh L) L 9 Ro.w.l.u.l.w.r (Ao0 a1 a0 p803_3) (Aoq L kk (EC.put (rl [1]) Ro.w.u Ro.w.r))) (by kernel_rfl) ((Bgh L kk a1 a0 p803_3 Ro.w.u).trans (eE (sx_R11_term_3 L a1 a0 p803_3 (fun a0 a1 p801_1=>re (A24 L kk a0 a1 p801_1)))))
def Aoz(a1:Bj)(a0:Aa)(p802_3:Bool):St:=⟨[(2,.loc 2 0),(3,.loc 3 0),(4,I 0),(5,S (⟨#[]⟩:ByteArray)),(8,S a1.What),(9,B p802_3)],[(2,(Ad a0)),(3,(Dx a1))],0⟩
def Aop(e0:EC):Bg:=(Bb 0 (Bp (EV (Afh L) L 9 e0) (Ct Tryz.prog (RS Tryz.f135) kk)))
def sx_R11_term_2 [An A Int](L:Nat)(a1:Bj)(a0:Aa)(p802_3:Bool)(nx1:Aa→Bj→ByteArray→A)(nx3:Bj→Aa→Bool→A):A:=
 (cn p802_3
 (nx1 a0 a1 (⟨#[114,111,117,116,105,110,101]⟩:ByteArray))
 (cn (a1.What.toList == (⟨#[115,116,111,114,101,100]⟩:ByteArray).toList)
 (nx3 a1 a0 (a1.What.toList == (⟨#[115,116,111,114,101,100]⟩:ByteArray).toList))
 (cn (a1.What.toList == (⟨#[101,110,116,101,114,101,100]⟩:ByteArray).toList)
 (nx3 a1 a0 (a1.What.toList == (⟨#[101,110,116,101,114,101,100]⟩:ByteArray).toList))
 (nx3 a1 a0 (a1.What.toList == (⟨#[108,101,102,116]⟩:ByteArray).toList)))))
def Ags [An A Int](a1:Bj)(a0:Aa)(p802_3:Bool):A:=sx_R11_term_2 L a1 a0 p802_3 (fun a0 a1 p801_1=>Qa L a0 a1 p801_1) (fun a1 a0 p803_3=>Agt L a1 a0 p803_3)
theorem Bgg(a1:Bj)(a0:Aa)(p802_3:Bool)(z1 z3:EC):EV (Afh L) L 9 (EC.put (rl [3]) z3 Ro.w.l.u.l.u) (Aoz a1 a0 p802_3) (Aop L kk (EC.put (rl [1]) z1 Ro.w.r))= @sx_R11_term_2 Prop (anP (kQ I kk)) L a1 a0 p802_3 (fun a0 a1 p801_1=>EV (Afh L) L 9 z1 (Avk a0 a1 p801_1) (Au2 L kk)) (fun a1 a0 p803_3=>EV (Afh L) L 9 z3 (Ao0 a1 a0 p803_3) (Aoq L kk (EC.put (rl [1]) z1 Ro.w.r))):=by kernel_rfl
theorem Bf3(a1:Bj)(a0:Aa)(p802_3:Bool):EV (Afh L) L 9 Ro.w.l.u.l.u (Aoz a1 a0 p802_3) (Aop L kk Ro.w.r)=ob (Ags L a1 a0 p802_3) (kQ I kk):=Eq.trans (b:=EV (Afh L) L 9 (EC.put (rl [3]) Ro.w.l.u.l.w.r Ro.w.l.u.l.u) (Aoz a1 a0 p802_3) (Aop L kk (EC.put (rl [1]) Ro.w.u Ro.w.r))) (by kernel_rfl) ((Bgg L kk a1 a0 p802_3 Ro.w.u Ro.w.l.u.l.w.r).trans (eE (sx_R11_term_2 L a1 a0 p802_3 (fun a0 a1 p801_1=>re (A24 L kk a0 a1 p801_1)) (fun a1 a0 p803_3=>re (Bf4 L kk a1 a0 p803_3)))))
def sx_R11_term_0 [An A Int](L:Nat)(a0:Aa)(a1:Bj)(nx2:Bj→Aa→Bool→A):A:=
 (cn (a1.What.toList == (⟨#[99,114,101,97,116,101,100]⟩:ByteArray).toList)
 (nx2 a1 a0 (a1.What.toList == (⟨#[99,114,101,97,116,101,100]⟩:ByteArray).toList))
 (cn (a1.What.toList == (⟨#[101,110,100,101,100]⟩:ByteArray).toList)
 (nx2 a1 a0 (a1.What.toList == (⟨#[101,110,100,101,100]⟩:ByteArray).toList))
 (nx2 a1 a0 (a1.What.toList == (⟨#[105,110,115,105,100,101]⟩:ByteArray).toList))))
def Azr [An A Int](a0:Aa)(a1:Bj):A:=sx_R11_term_0 L a0 a1 (fun a1 a0 p802_3=>Ags L a1 a0 p802_3)
theorem Bgf(a0:Aa)(a1:Bj)(z2:EC):EW (Afh L) L 9 (RS Tryz.f135) (EC.put (rl [4,1,2,1,2]) z2 Ro) [.agg (Ad a0),.agg (Dx a1)] kk= @sx_R11_term_0 Prop (anP (kQ I kk)) L a0 a1 (fun a1 a0 p802_3=>EV (Afh L) L 9 z2 (Aoz a1 a0 p802_3) (Aop L kk Ro.w.r)):=by kernel_rfl
def Aph(a0:Aa)(a1:Bj):Option Int:=Azr L a0 a1
def Bsl:Di:=E2 I 135 Cs Am2 (Aph L) fun a0 a1 r h=>hF Tryz.func135 (C:=Afh L) (oS _) L (fun kk=>Eq.trans (b:=EW (Afh L) L 9 (RS Tryz.f135) (EC.put (rl [4,1,2,1,2]) Ro.w.l.u.l.u Ro) [.agg (Ad a0),.agg (Dx a1)] kk) (by kernel_rfl) ((Bgf L kk a0 a1 Ro.w.l.u.l.u).trans (eE (sx_R11_term_0 L a0 a1 (fun a1 a0 p802_3=>re (Bf3 L kk a1 a0 p802_3)))))) h
def c76:=CC Tryz.f76
def O76:Bi:=oL [X47 L,X48 L,X50 L,A9p L,Bsl L]
def Bei(a0:Aa)(a1:Bk)(v:C8):St:=⟨[(0,.any),(1,.any),(2,.any),(3,.loc 3 0),(4,.loc 4 0),(6,I 0),(7,I v.1),(8,I v.2)],[(3,(Ad a0)),(4,(C4 a1))],0⟩
def Ajp [An A Cq](a0:Aa)(a1:Bk)(rec:Int→Int→A)(Aw:Int)(Ao:Int):A:=
 (lw Ao a1.Terms
 (bd (Aph L a0 (a1.Terms.getD (Int.toNat Ao) default)) fun r6=>
 (bd (C5 L Aw r6) fun r7=>
 (rec r7 (Bo (Ao+1)))))
 (lf (0,Aw,Ao)))
def Aao(L:Nat)(a0:Aa)(a1:Bk):Nat→Int→Int→Option Cq
 |0,_,_=>none
 |n+1,Aw,Ao=>Ajp L a0 a1 (Aao L a0 a1 n) Aw Ao
theorem Bo2(a0:Aa)(a1:Bk):LP (EV (O76 L) L 9 c76.x.l.u.l.l) [0,1,2,3,4,6,7,8] [3,4] (Bei a0 a1) [.exit 0] (fun n v=>Aao L a0 a1 n v.1 v.2) K:=lE (fun _=>rfl) fun n v ih=>eE (Ajp L a0 a1 (fun Aw Ao=>re (ih (Aw,Ao))) v.1 v.2)
def Aaw [An A Int](a1:Bk)(o8:Nat×C8):A:=
 (sl o8.1 [(bd (Aid L a1.Total) fun r9=>
 (bd (Ci L r9 2) fun r10=>
 (bd (C5 L o8.2.1 r10) fun r11=>
 (lf r11))))])
def Bco:Bg:=(Bb 0 (Bp (EV (O76 L) L 9 c76.x.r) (Ct Tryz.prog (RS Tryz.f76) kk)))
theorem Bw4(a0:Aa)(a1:Bk)(o8:Nat×C8):kX [.exit 0] (Bei a0 a1) (Bco L kk) o8=ob (Aaw L a1 o8) (kQ I kk):=eE (Aaw L a1 o8)
def Aj5 [An A Int](a0:Aa)(a1:Bk)(a2:List ByteArray)(nx1:Int→A):A:=
 (bd (Ma L a1.Name a2) fun r1=>
 (bd (Ci L (decide ((a1.Terms.length:Int) > 0)) 7) fun r2=>
 (bd (C5 L r1 r2) fun r3=>
 (bd (Ci L (decide ((a1.Terms.length:Int)≤8)) 6) fun r4=>
 (bd (C5 L r3 r4) fun r5=>
 (nx1 r5))))))
def A7e [An A Int](a0:Aa)(a1:Bk)(a2:List ByteArray):A:=Aj5 L a0 a1 a2 (fun r5=>bd (Aao L a0 a1 L r5 0) fun o8=>Aaw L a1 o8)
def Ar3(a0:Aa)(a1:Bk)(a2:List ByteArray):Option Int:=A7e L a0 a1 a2
def X76:Di:=E3 I 76 Cs Az5 cl9 (Ar3 L) fun a0 a1 a2 r h=>hF Tryz.func76 (C:=O76 L) (oS _) L (fun kk=>eE (Aj5 L a0 a1 a2 (fun r5=>ho (Bo2 L (Bco L kk) a0 a1 L (r5,0)) fun o8=>Bw4 L kk a0 a1 o8))) h
def c51:=CC Tryz.f51
def O51:Bi:=oL [X47 L,X50 L,X73 L,X74 L,X75 L,X76 L]
def Bd5(r1:List (List ByteArray))(Ag:Int)(a0:Aa)(v:Tu7):St:=⟨[(0,.any),(1,.loc 1 0),(2,I v.1),(3,.lst true (.t9 v.2.1)),(4,lv (.t61 r1)),(5,I Ag),(6,I v.2.2),(8,.any),(9,.any),(10,.any),(11,.any),(12,.any)],[(1,(Ad a0))],0⟩
def Agc [An A (Nat×Tu7)](r1:List (List ByteArray))(Ag:Int)(a0:Aa)(rec:Int→List ByteArray→Int→A)(Cm:Int)(Gm:List ByteArray)(Jf:Int):A:=
 (gi Ag r1
 (cn (decide (Jf < ((r1.getD (Int.toNat Ag) default).length:Int)))
 (gi Ag r1
 (gi Jf (r1.getD (Int.toNat Ag) default)
 (bd (Ma L ((r1.getD (Int.toNat Ag) default).getD (Int.toNat Jf) default) Gm) fun r3=>
 (bd (Acf L a0 Ag Jf) fun r4=>
 (bd (C5 L r3 r4) fun r5=>
 (cn (r5 != 0)
 (lf (0,r5,Gm,Jf))
 (gi Ag r1
 (gi Jf (r1.getD (Int.toNat Ag) default)
 (gq ((Gm.length+ [((r1.getD (Int.toNat Ag) default).getD (Int.toNat Jf) default)].length)*16≤140737488355328)
 (gq (Gm.length+ [((r1.getD (Int.toNat Ag) default).getD (Int.toNat Jf) default)].length≤maxLen)
 (rec Cm (Gm++ [((r1.getD (Int.toNat Ag) default).getD (Int.toNat Jf) default)]) (Bo (Jf+1)))))))))))))
 (lf (1,Cm,Gm,Jf))))
def X1(L:Nat)(r1:List (List ByteArray))(Ag:Int)(a0:Aa):Nat→Int→List ByteArray→Int→Option (Nat×Tu7)
 |0,_,_,_=>none
 |n+1,Cm,Gm,Jf=>Agc L r1 Ag a0 (X1 L r1 Ag a0 n) Cm Gm Jf
theorem Bog(r1:List (List ByteArray))(Ag:Int)(a0:Aa):LP (EV (O51 L) L 9 c51.w.u.l.u.l.l.u.l.l.w.l.l) [0,1,2,3,4,5,6,8,9,10,11,12] [1] (Bd5 r1 Ag a0) [.ret,.exit 2] (fun n v=>X1 L r1 Ag a0 n v.1 v.2.1 v.2.2) K:=lE (fun _=>rfl) fun n v ih=>eE (Agc L r1 Ag a0 (fun Cm Gm Jf=>re (ih (Cm,Gm,Jf))) v.1 v.2.1 v.2.2)
def A1n(r1:List (List ByteArray))(a0:Aa)(v:Tu7):St:=⟨[(0,.any),(1,.loc 1 0),(2,I v.1),(3,.lst true (.t9 v.2.1)),(4,lv (.t61 r1)),(5,I v.2.2),(8,.any),(9,.any),(10,.any),(11,.any),(12,.any)],[(1,(Ad a0))],0⟩
def Yf [An A (Nat×Tu7)](L:Nat)(Ag:Int)(rec:Int→List ByteArray→Int→A)(o6:Nat×Tu7):A:=
 (sl o6.1 [(lf (0,o6.2.1,o6.2.2.1,Ag)),
 (rec o6.2.1 o6.2.2.1 (Bo (Ag+1)))])
def Agw [An A (Nat×Tu7)](L:Nat)(r1:List (List ByteArray))(a0:Aa)(rec:Int→List ByteArray→Int→A)(Ar:Int)(Aw:List ByteArray)(Ag:Int)(nx1:Int→Int→(List ByteArray)→A):A:=
 (lw Ag r1
 (jb (.cn (decide (((r1.getD (Int.toNat Ag) default).length:Int) > 32))
 (.lf true)
 (.cn (Ag == 9)
 (.gq (0≤Ag)
 (.gq (Ag < (r1.length:Int))
 (.lf (decide (((r1.getD (Int.toNat Ag) default).length:Int) > 16)))))
 (.lf false))) (fun b2=>
 (cn b2
 (lf (0,6,Aw,Ag))
 (nx1 Ag Ar Aw))))
 (lf (1,Ar,Aw,Ag)))
def Ary [An A (Nat×Tu7)](r1:List (List ByteArray))(a0:Aa)(rec:Int→List ByteArray→Int→A)(Ar:Int)(Aw:List ByteArray)(Ag:Int):A:=Agw L r1 a0 rec Ar Aw Ag (fun Ag Ar Aw=>bd (X1 L r1 Ag a0 L Ar Aw 0) fun o6=>Yf L Ag rec o6)
def P5(L:Nat)(r1:List (List ByteArray))(a0:Aa):Nat→Int→List ByteArray→Int→Option (Nat×Tu7)
 |0,_,_,_=>none
 |n+1,Ar,Aw,Ag=>Ary L r1 a0 (P5 L r1 a0 n) Ar Aw Ag
def A88(r1:List (List ByteArray))(a0:Aa):Prop:=LI (EV (O51 L) L 9 c51.w.u.l.u.l.l) [0,1,2,3,4,5,8,9,10,11,12] [1] (A1n r1 a0) [.ret,.exit 0] (fun n v=>P5 L r1 a0 n v.1 v.2.1 v.2.2) K n
def Bb4:Bg:=(Bb 2 (Bb 1 (Bp (EV (O51 L) L 9 c51.w.u.l.u.l.l.u.r) (D4 (Ep (EV (O51 L) L 9 c51.w.u.l.u.l.l) [0,1,2,3,4,5,8,9,10,11,12] [1] n) [0,1,2,3,4,5,8,9,10,11,12] [1] K))))
theorem Bwk(r1:List (List ByteArray))(Ag:Int)(a0:Aa)(ih:A88 L n K r1 a0)(o6:Nat×Tu7):kX [.ret,.exit 2] (Bd5 r1 Ag a0) (Bb4 L n K) o6=ob (Yf L Ag (P5 L r1 a0 n) o6) (kX [.ret,.exit 0] (A1n r1 a0) K):=eE (Yf L Ag (fun Ar Aw Ag=>re (ih (Ar,Aw,Ag))) o6)
theorem Bof(r1:List (List ByteArray))(a0:Aa):∀n,A88 L n K r1 a0:=lE (fun _=>rfl) fun n v ih=>eE (Agw L r1 a0 (fun Ar Aw Ag=>re (ih (Ar,Aw,Ag))) v.1 v.2.1 v.2.2 (fun Ag Ar Aw=>ho (Bog L (Bb4 L n K) r1 Ag a0 L (Ar,Aw,0)) fun o6=>Bwk L n K r1 Ag a0 ih o6))
def Bd6(a0:Aa)(v:C8):St:=⟨[(0,.any),(1,.loc 1 0),(2,I v.1),(3,.any),(4,.any),(5,.any),(6,.any),(7,.any),(8,I v.2),(10,.any),(11,.any),(12,.any)],[(1,(Ad a0))],0⟩
def Agd [An A Cq](a0:Aa)(rec:Int→Int→A)(Hl:Int)(Gu:Int):A:=
 (lw Gu a0.Starts
 (bd (Al9 L a0 (a0.Starts.getD (Int.toNat Gu) default)) fun r8=>
 (cn (r8 != 0)
 (lf (0,r8,Gu))
 (rec Hl (Bo (Gu+1)))))
 (lf (1,Hl,Gu)))
def X2(L:Nat)(a0:Aa):Nat→Int→Int→Option Cq
 |0,_,_=>none
 |n+1,Hl,Gu=>Agd L a0 (X2 L a0 n) Hl Gu
theorem Boh(a0:Aa):LP (EV (O51 L) L 9 c51.x.u.l.u.l.l) [0,1,2,3,4,5,6,7,8,10,11,12] [1] (Bd6 a0) [.ret,.exit 4] (fun n v=>X2 L a0 n v.1 v.2) K:=lE (fun _=>rfl) fun n v ih=>eE (Agd L a0 (fun Hl Gu=>re (ih (Hl,Gu))) v.1 v.2)
def Bd7(a0:Aa)(v:Tu7):St:=⟨[(0,.any),(1,.loc 1 0),(2,I v.1),(3,.any),(4,.any),(5,.any),(6,.any),(7,.any),(8,.any),(9,.any),(10,.lst true (.t9 v.2.1)),(11,I v.2.2)],[(1,(Ad a0))],0⟩
def Age [An A (Nat×Tu7)](a0:Aa)(rec:Int→List ByteArray→Int→A)(Mi:Int)(Gy:List ByteArray)(Alt:Int):A:=
 (lw Alt a0.Laws
 (bd (Ar3 L a0 (a0.Laws.getD (Int.toNat Alt) default) Gy) fun r10=>
 (cn (r10 != 0)
 (lf (0,r10,Gy,Alt))
 (gi Alt a0.Laws
 (gq ((Gy.length+ [(a0.Laws.getD (Int.toNat Alt) default).Name].length)*16≤140737488355328)
 (gq (Gy.length+ [(a0.Laws.getD (Int.toNat Alt) default).Name].length≤maxLen)
 (rec Mi (Gy++ [(a0.Laws.getD (Int.toNat Alt) default).Name]) (Bo (Alt+1))))))))
 (lf (1,Mi,Gy,Alt)))
def X3(L:Nat)(a0:Aa):Nat→Int→List ByteArray→Int→Option (Nat×Tu7)
 |0,_,_,_=>none
 |n+1,Mi,Gy,Alt=>Age L a0 (X3 L a0 n) Mi Gy Alt
theorem Boi(a0:Aa):LP (EV (O51 L) L 9 c51.x.x.l.u.l.l) [0,1,2,3,4,5,6,7,8,9,10,11] [1] (Bd7 a0) [.ret,.exit 6] (fun n v=>X3 L a0 n v.1 v.2.1 v.2.2) K:=lE (fun _=>rfl) fun n v ih=>eE (Age L a0 (fun Mi Gy Alt=>re (ih (Mi,Gy,Alt))) v.1 v.2.1 v.2.2)
def Yg [An A Int](L:Nat)(o11:Nat×Tu7):A:=
 (sl o11.1 [(lf o11.2.1),
 (lf 0)])
def Bb7:Bg:=(Bb 6 (Bp (EV (O51 L) L 9 c51.x.x.r) (Ct Tryz.prog (RS Tryz.f51) kk)))
theorem Bwn(a0:Aa)(o11:Nat×Tu7):kX [.ret,.exit 6] (Bd7 a0) (Bb7 L kk) o11=ob (Yg L o11) (kQ I kk):=eE (Yg L o11)
def Agz [An A Int](L:Nat)(a0:Aa)(o9:Nat×C8)(nx4:Cq→A):A:=
 (sl o9.1 [(lf o9.2.1),
 (cn (decide ((a0.Laws.length:Int) > 32))
 (lf 6)
 (nx4 o9))])
def Agk [An A Int](a0:Aa)(o9:Nat×C8):A:=Agz L a0 o9 (fun o9=>bd (X3 L a0 L o9.2.1 [] 0) fun o11=>Yg L o11)
def Bb6:Bg:=(Bb 4 (Bp (EV (O51 L) L 9 c51.x.u.r) (Ct Tryz.prog (RS Tryz.f51) kk)))
theorem Bwm(a0:Aa)(o9:Nat×C8):kX [.ret,.exit 4] (Bd6 a0) (Bb6 L kk) o9=ob (Agk L a0 o9) (kQ I kk):=eE (Agz L a0 o9 (fun o9=>ho (Boi L (Bb7 L kk) a0 L (o9.2.1,[],0)) fun o11=>Bwn L kk a0 o11))
def Agy [An A Int](L:Nat)(a0:Aa)(o7:Nat×Tu7)(nx3:(Nat×Tu7)→A):A:=
 (sl o7.1 [(lf o7.2.1),
 (cn (decide ((a0.Starts.length:Int) > 32))
 (lf 6)
 (nx3 o7))])
def Agj [An A Int](a0:Aa)(o7:Nat×Tu7):A:=Agy L a0 o7 (fun o7=>bd (X2 L a0 L o7.2.1 0) fun o9=>Agk L a0 o9)
def Bb5:Bg:=(Bb 0 (Bp (EV (O51 L) L 9 c51.w.u.r) (Ct Tryz.prog (RS Tryz.f51) kk)))
theorem Bwl(r1:List (List ByteArray))(a0:Aa)(o7:Nat×Tu7):kX [.ret,.exit 0] (A1n r1 a0) (Bb5 L kk) o7=ob (Agj L a0 o7) (kQ I kk):=eE (Agy L a0 o7 (fun o7=>ho (Boh L (Bb6 L kk) a0 L (o7.2.1,0)) fun o9=>Bwm L kk a0 o9))
def Agx [An A Int](a0:Aa)(nx2:(List (List ByteArray))→A):A:=
 (bd (V3 L a0) fun r1=>
 (nx2 r1))
def Azq [An A Int](a0:Aa):A:=Agx L a0 (fun r1=>bd (P5 L r1 a0 L 0 [] 0) fun o7=>Agj L a0 o7)
def Apg(a0:Aa):Option Int:=Azq L a0
def X51:Di:=E1 I 51 Cs (Apg L) fun a0 r h=>hF Tryz.func51 (C:=O51 L) (oS _) L (fun kk=>eE (Agx L a0 (fun r1=>ho (Bof L (Bb5 L kk) r1 a0 L (0,[],0)) fun o7=>Bwl L kk r1 a0 o7))) h
end
end Go.Proofs.YthjhkpgonleelaaGreatDoor.Ev
