import Derived.Test.YtogleahbpobaiaaGreatG11
import Derived.Test.YtogleahbpobaiaaGreatG12
namespace Go.Proofs.YtogleahbpobaiaaGreat.Ev
open Go An
set_option maxRecDepth 100000
set_option maxHeartbeats 4000000
set_option linter.unusedVariables false
set_option linter.unusedSimpArgs false
set_option linter.unnecessarySimpa false
variable {A:Type} (L n:Nat) (kk:Ct) (K:Be) (k:Bx)
noncomputable def Wq:EC:=CC Tryz.f120
def Akc:Bk:=oL [X21 L,X67 L,Cbm L,Cbn L,Bvw L,Cbo L]
def Azi:Int→Prop:=fun x=>kk (I x)
def Bls(a0:Ad)(a1:Aq)(a2:Ac)(p804_1:Bool):St:=⟨[(4,.loc 4 0),(5,.loc 5 0),(6,I 0),(86,B p804_1)],[(3,Az a0),(4,J4 a1),(5,C7 a2)],0⟩
def Blk(e0:EC):Be:=(Ay 0 (Bl (EV (Akc L) L 9 e0) (C8 Tryz.prog (RS Tryz.f120) kk)))
def Ae6 [An A Int](a0:Ad)(a1:Aq)(a2:Ac)(p804_1:Bool):A:=
 (cn p804_1
 (bd (Ij L a1 (Ab.cp a2.E) 1 1) fun r12=>
 (lf r12))
 (lf 0))
theorem Bwf(a0:Ad)(a1:Aq)(a2:Ac)(p804_1:Bool):EV (Akc L) L 9 Wq.w.u.l.u.l.x.x.w.u.r (Bls a0 a1 a2 p804_1) (Blk L kk Wq.w.u.r)=ob (Ae6 L a0 a1 a2 p804_1) (Azi kk):=eE (Ae6 L a0 a1 a2 p804_1)
def A11(a2:Ac)(a0:Ad)(a1:Aq)(p803_2:Bool):St:=⟨[(3,.loc 3 0),(4,.loc 4 0),(5,.loc 5 0),(6,I 0),(26,I a2.Op),(73,B p803_2)],[(3,Az a0),(4,J4 a1),(5,C7 a2)],0⟩
def A1r(e0:EC):Be:=(Ay 0 (Bl (EV (Akc L) L 9 e0) (C8 Tryz.prog (RS Tryz.f120) kk)))
def sx_R14_stmt_3 [An A Int](a2:Ac)(a0:Ad)(a1:Aq)(p803_2:Bool)(nx4:Ad→Aq→Ac→Bool→A):A:=
 (cn p803_2
 (bd (Ajl L a0 a1 (Ac.cp a2)) fun r10=>
 (lf r10))
 (cn (a2.Op == 15)
 (bd (Ij L a1 (Ab.cp a2.E) 1 3) fun r11=>
 (lf r11))
 (cn (a2.Op == 7)
 (nx4 a0 a1 a2 (a2.Op == 7))
 (cn (a2.Op == 8)
 (nx4 a0 a1 a2 (a2.Op == 8))
 (cn (a2.Op == 12)
 (nx4 a0 a1 a2 (a2.Op == 12))
 (cn (a2.Op == 16)
 (nx4 a0 a1 a2 (a2.Op == 16))
 (nx4 a0 a1 a2 (a2.Op == 17))))))))
def Ala [An A Int](a2:Ac)(a0:Ad)(a1:Aq)(p803_2:Bool):A:=sx_R14_stmt_3 L a2 a0 a1 p803_2 (fun a0 a1 a2 p804_1=>Ae6 L a0 a1 a2 p804_1)
theorem Bwr(a2:Ac)(a0:Ad)(a1:Aq)(p803_2:Bool)(z4:EC):EV (Akc L) L 9 (EC.put (rl [6]) z4 Wq.w.u.l.u.l.x.x.r) (A11 a2 a0 a1 p803_2) (A1r L kk Wq.w.u.r)= @sx_R14_stmt_3 Prop L (anP (Azi kk)) a2 a0 a1 p803_2 (fun a0 a1 a2 p804_1=>EV (Akc L) L 9 z4 (Bls a0 a1 a2 p804_1) (Blk L kk Wq.w.u.r)):=by kernel_rfl
theorem Bwe(a2:Ac)(a0:Ad)(a1:Aq)(p803_2:Bool):EV (Akc L) L 9 Wq.w.u.l.u.l.x.x.r (A11 a2 a0 a1 p803_2) (A1r L kk Wq.w.u.r)=ob (Ala L a2 a0 a1 p803_2) (Azi kk):=Eq.trans (b:=EV (Akc L) L 9 (EC.put (rl [6]) Wq.w.u.l.u.l.x.x.w.u.r Wq.w.u.l.u.l.x.x.r) (A11 a2 a0 a1 p803_2) (A1r L kk Wq.w.u.r)) (by kernel_rfl) ((Bwr L kk a2 a0 a1 p803_2 Wq.w.u.l.u.l.x.x.w.u.r).trans (eE (sx_R14_stmt_3 L a2 a0 a1 p803_2 (fun a0 a1 a2 p804_1=>re (Bwf L kk a0 a1 a2 p804_1)))))
def A10(a2:Ac)(a0:Ad)(a1:Aq)(p802_2:Bool):St:=⟨[(3,.loc 3 0),(4,.loc 4 0),(5,.loc 5 0),(6,I 0),(26,I a2.Op),(33,B p802_2)],[(3,Az a0),(4,J4 a1),(5,C7 a2)],0⟩
def A1q(e0:EC):Be:=(Ay 0 (Bl (EV (Akc L) L 9 e0) (C8 Tryz.prog (RS Tryz.f120) kk)))
def sx_R14_stmt_2 [An A Int](a2:Ac)(a0:Ad)(a1:Aq)(p802_2:Bool)(nx3:Ac→Ad→Aq→Bool→A):A:=
 (cn p802_2
 (bd (Ij L a1 (Ab.cp a2.E) 2 2) fun r5=>
 (lf r5))
 (cn (a2.Op == 5)
 (bd (Ij L a1 (Ab.cp a2.E) 3 3) fun r6=>
 (lf r6))
 (cn (a2.Op == 6)
 (bd (Ij L a1 (Ab.cp a2.E) 1 1) fun r7=>
 (cn (r7 != 0)
 (lf r7)
 (bd (Ij L a1 (Ab.cp a2.F) 1 1) fun r8=>
 (lf r8))))
 (cn (a2.Op == 9)
 (bd (m0 L a1.Locals a2.Of) fun r9=>
 (cn (!r9.2)
 (lf 5)
 (cn (r9.1 != 1)
 (lf 10)
 (lf 0))))
 (cn (a2.Op == 13)
 (nx3 a2 a0 a1 (a2.Op == 13))
 (nx3 a2 a0 a1 (a2.Op == 14)))))))
def Ak9 [An A Int](a2:Ac)(a0:Ad)(a1:Aq)(p802_2:Bool):A:=sx_R14_stmt_2 L a2 a0 a1 p802_2 (fun a2 a0 a1 p803_2=>Ala L a2 a0 a1 p803_2)
theorem Bwq(a2:Ac)(a0:Ad)(a1:Aq)(p802_2:Bool)(z3:EC):EV (Akc L) L 9 (EC.put (rl [12]) z3 Wq.w.u.l.u.l.w.r) (A10 a2 a0 a1 p802_2) (A1q L kk Wq.w.u.r)= @sx_R14_stmt_2 Prop L (anP (Azi kk)) a2 a0 a1 p802_2 (fun a2 a0 a1 p803_2=>EV (Akc L) L 9 z3 (A11 a2 a0 a1 p803_2) (A1r L kk Wq.w.u.r)):=by kernel_rfl
theorem Bwd(a2:Ac)(a0:Ad)(a1:Aq)(p802_2:Bool):EV (Akc L) L 9 Wq.w.u.l.u.l.w.r (A10 a2 a0 a1 p802_2) (A1q L kk Wq.w.u.r)=ob (Ak9 L a2 a0 a1 p802_2) (Azi kk):=Eq.trans (b:=EV (Akc L) L 9 (EC.put (rl [12]) Wq.w.u.l.u.l.x.x.r Wq.w.u.l.u.l.w.r) (A10 a2 a0 a1 p802_2) (A1q L kk Wq.w.u.r)) (by kernel_rfl) ((Bwq L kk a2 a0 a1 p802_2 Wq.w.u.l.u.l.x.x.r).trans (eE (sx_R14_stmt_2 L a2 a0 a1 p802_2 (fun a2 a0 a1 p803_2=>re (Bwe L kk a2 a0 a1 p803_2)))))
def A1z(a2:Ac)(a0:Ad)(a1:Aq)(p801_2:Bool):St:=⟨[(3,.loc 3 0),(4,.loc 4 0),(5,.loc 5 0),(6,I 0),(26,I a2.Op),(27,B p801_2)],[(3,Az a0),(4,J4 a1),(5,C7 a2)],0⟩
def A1p(e0:EC):Be:=(Ay 0 (Bl (EV (Akc L) L 9 e0) (C8 Tryz.prog (RS Tryz.f120) kk)))
def sx_R14_stmt_1 [An A Int](a2:Ac)(a0:Ad)(a1:Aq)(p801_2:Bool)(nx2:Ac→Ad→Aq→Bool→A):A:=
 (cn p801_2
 (bd (Arq L a1 (Ac.cp a2)) fun r4=>
 (lf r4))
 (cn (a2.Op == 3)
 (nx2 a2 a0 a1 (a2.Op == 3))
 (nx2 a2 a0 a1 (a2.Op == 4))))
def Ak8 [An A Int](a2:Ac)(a0:Ad)(a1:Aq)(p801_2:Bool):A:=sx_R14_stmt_1 L a2 a0 a1 p801_2 (fun a2 a0 a1 p802_2=>Ak9 L a2 a0 a1 p802_2)
theorem Bwp(a2:Ac)(a0:Ad)(a1:Aq)(p801_2:Bool)(z2:EC):EV (Akc L) L 9 (EC.put (rl [3]) z2 Wq.w.u.l.u.l.u) (A1z a2 a0 a1 p801_2) (A1p L kk Wq.w.u.r)= @sx_R14_stmt_1 Prop L (anP (Azi kk)) a2 a0 a1 p801_2 (fun a2 a0 a1 p802_2=>EV (Akc L) L 9 z2 (A10 a2 a0 a1 p802_2) (A1q L kk Wq.w.u.r)):=by kernel_rfl
theorem Bwc(a2:Ac)(a0:Ad)(a1:Aq)(p801_2:Bool):EV (Akc L) L 9 Wq.w.u.l.u.l.u (A1z a2 a0 a1 p801_2) (A1p L kk Wq.w.u.r)=ob (Ak8 L a2 a0 a1 p801_2) (Azi kk):=Eq.trans (b:=EV (Akc L) L 9 (EC.put (rl [3]) Wq.w.u.l.u.l.w.r Wq.w.u.l.u.l.u) (A1z a2 a0 a1 p801_2) (A1p L kk Wq.w.u.r)) (by kernel_rfl) ((Bwp L kk a2 a0 a1 p801_2 Wq.w.u.l.u.l.w.r).trans (eE (sx_R14_stmt_1 L a2 a0 a1 p801_2 (fun a2 a0 a1 p802_2=>re (Bwd L kk a2 a0 a1 p802_2)))))
def sx_R14_stmt_0 [An A Int](a0:Ad)(a1:Aq)(a2:Ac)(nx1:Ac→Ad→Aq→Bool→A):A:=
 (bd (Ajm L a2.Op) fun r1=>
 (jb (.cn (!(r1.toList == (⟨#[]⟩:ByteArray).toList))
 (.bd (Z7 L a1.Site a2.Name) fun r3=>
 (.lf (!(r3.toList == r1.toList))))
 (.lf false)) (fun b2=>
 (cn b2
 (lf 5)
 (cn (a2.Op == 1)
 (nx1 a2 a0 a1 (a2.Op == 1))
 (nx1 a2 a0 a1 (a2.Op == 2)))))))
def A2p [An A Int](a0:Ad)(a1:Aq)(a2:Ac):A:=sx_R14_stmt_0 L a0 a1 a2 (fun a2 a0 a1 p801_2=>Ak8 L a2 a0 a1 p801_2)
theorem Bwo(a0:Ad)(a1:Aq)(a2:Ac)(z1:EC):EW (Akc L) L 9 (RS Tryz.f120) (EC.put (rl [6,1,2,1,2]) z1 Wq) [.agg (Az a0),.agg (J4 a1),.agg (C7 a2)] kk= @sx_R14_stmt_0 Prop L (anP (Azi kk)) a0 a1 a2 (fun a2 a0 a1 p801_2=>EV (Akc L) L 9 z1 (A1z a2 a0 a1 p801_2) (A1p L kk Wq.w.u.r)):=by kernel_rfl
def Ah2(a0:Ad)(a1:Aq)(a2:Ac):Option Int:=A2p L a0 a1 a2
def B2i:Gk:=E3 I 120 D1 Ew Hj (Ah2 L) fun a0 a1 a2 r h=>hF Tryz.func120 (C:=Akc L) (oS _) L (fun kk=>Eq.trans (b:=EW (Akc L) L 9 (RS Tryz.f120) (EC.put (rl [6,1,2,1,2]) Wq.w.u.l.u.l.u Wq) [.agg (Az a0),.agg (J4 a1),.agg (C7 a2)] kk) (by kernel_rfl) ((Bwo L kk a0 a1 a2 Wq.w.u.l.u.l.u).trans (eE (sx_R14_stmt_0 L a0 a1 a2 (fun a2 a0 a1 p801_2=>re (Bwc L kk a2 a0 a1 p801_2)))))) h
def Bvf(F:Ad→Aq→(List Ac)→Option Int):Prop:=∀y0 y1 y2 r,F y0 y1 y2=some r→Ho Tryz.prog 54 [D1.en y0,Ew.en y1,Acb.en y2] I r
noncomputable def c54:EC:=CC Tryz.f54
def O54(F7:Ad→Aq→(List Ac)→Option Int)(L:Nat):Bk:=(orc 54 (A3 I D1 Ew Acb F7) (oL [B2i L]))
theorem s54(F7:Ad→Aq→(List Ac)→Option Int)(B44:Bvf F7)(L:Nat):Ep Tryz.prog (O54 F7 L):=(Gx (a3 _ B44) (oS [B2i L]))
def Cj6(kk:Ct):Int→Prop:=fun x=>kk (I x)
def Btt(a2:List Ac)(a0:Ad)(a1:Aq)(v:Cw):St:=⟨[(0,.any),(1,.any),(2,.lst false (.t69 a2)),(3,.loc 3 0),(4,.loc 4 0),(6,I v.1),(7,I v.2)],[(3,Az a0),(4,J4 a1)],0⟩
def Aam [An A Cx](F7:Ad→Aq→(List Ac)→Option Int)(L:Nat)(a2:List Ac)(a0:Ad)(a1:Aq)(rec:Int→Int→A)(Ag:Int)(Am:Int):A:=
 (cn (decide (Am < (a2.length:Int)))
 (gq (0≤Am)
 (gq (Am < (a2.length:Int))
 (bd (Ah2 L a0 a1 (Ac.cp (a2.getD (Int.toNat Am) default))) fun r1=>
 (cn (r1 == 0)
 (gq (0≤Am)
 (gq (Am < (a2.length:Int))
 (bd (F7 a0 a1 ((a2.getD (Int.toNat Am) default).Body)) fun r2=>
 (cn (r2 == 0)
 (gq (0≤Am)
 (gq (Am < (a2.length:Int))
 (bd (F7 a0 a1 ((a2.getD (Int.toNat Am) default).Else)) fun r3=>
 (cn (r3 != 0)
 (lf (0,r3,Am))
 (rec Ag (Da (Am+1)))))))
 (cn (r2 != 0)
 (lf (0,r2,Am))
 (rec Ag (Da (Am+1))))))))
 (cn (r1 == 0)
 (gq (0≤Am)
 (gq (Am < (a2.length:Int))
 (bd (F7 a0 a1 ((a2.getD (Int.toNat Am) default).Else)) fun r4=>
 (cn (r4 != 0)
 (lf (0,r4,Am))
 (rec Ag (Da (Am+1)))))))
 (cn (r1 != 0)
 (lf (0,r1,Am))
 (rec Ag (Da (Am+1)))))))))
 (lf (1,Ag,Am)))
def Ok(F7:Ad→Aq→(List Ac)→Option Int)(L:Nat)(a2:List Ac)(a0:Ad)(a1:Aq):Nat→Int→Int→Option Cx
 |0,_,_=>none
 |n+1,Ag,Am=>Aam F7 L a2 a0 a1 (Ok F7 L a2 a0 a1 n) Ag Am
theorem B60(F7:Ad→Aq→(List Ac)→Option Int)(L:Nat)(K:Be)(a2:List Ac)(a0:Ad)(a1:Aq):LP (EV (O54 F7 L) L 9 c54.u.l.u.l.l) [0,1,2,3,4,6,7] [3,4] (Btt a2 a0 a1) [.ret,.exit 0] (fun n v=>Ok F7 L a2 a0 a1 n v.1 v.2) K:=lE (fun _=>rfl) fun n v ih=>eE (Aam F7 L a2 a0 a1 (fun Ag Am=>re (ih (Ag,Am))) v.1 v.2)
def Wd [An A Int](F7:Ad→Aq→(List Ac)→Option Int)(L:Nat)(o5:Nat×Cw):A:=
 (sl o5.1 [(lf o5.2.1),
 (lf 0)])
def Brs(F7:Ad→Aq→(List Ac)→Option Int)(L:Nat)(kk:Ct):Be:=(Ay 0 (Bl (EV (O54 F7 L) L 9 c54.u.r) (C8 Tryz.prog (RS Tryz.f54) kk)))
theorem Cg6(F7:Ad→Aq→(List Ac)→Option Int)(L:Nat)(kk:Ct)(a2:List Ac)(a0:Ad)(a1:Aq)(o5:Nat×Cw):kX [.ret,.exit 0] (Btt a2 a0 a1) (Brs F7 L kk) o5=ob (Wd F7 L o5) (Cj6 kk):=eE (Wd F7 L o5)
def Ab0 [An A Int](F7:Ad→Aq→(List Ac)→Option Int)(L:Nat)(a0:Ad)(a1:Aq)(a2:List Ac)(nx1:A):A:=
 nx1
def Ay2 [An A Int](F7:Ad→Aq→(List Ac)→Option Int)(L:Nat)(a0:Ad)(a1:Aq)(a2:List Ac):A:=Ab0 F7 L a0 a1 a2 (bd (Ok F7 L a2 a0 a1 L 0 0) fun o5=>Wd F7 L o5)
def Apa(F7:Ad→Aq→(List Ac)→Option Int)(L:Nat)(a0:Ad)(a1:Aq)(a2:List Ac):Option Int:=Ay2 F7 L a0 a1 a2
theorem b54(F7:Ad→Aq→(List Ac)→Option Int)(B44:Bvf F7)(L:Nat):Bvf (Apa F7 L):=fun a0 a1 a2 r h=>hF Tryz.func54 (s54 F7 B44 L) L (fun kk=>eE (Ab0 F7 L a0 a1 a2 (ho (B60 F7 L (Brs F7 L kk) a2 a0 a1 L (0,0)) fun o5=>Cg6 F7 L kk a2 a0 a1 o5))) h
def P3:Nat→Ad→Aq→(List Ac)→Option Int
 |0,_,_,_=>none
 |L+1,a0,a1,a2=>Apa (P3 L) L a0 a1 a2
theorem B4q(L:Nat):Bvf (P3 L):=by
 induction L with
 |zero=>exact fun _ _ _ _ h=>(by cases h)
 |succ L ih=>
  have i54:=ih
  exact b54 (P3 L) i54 L
def X54(L:Nat):Gk:=E3 I 54 D1 Ew Acb (P3 L) (B4q L)
def Apu [An A Int](a0:Ad)(a1:Int)(a2:List Ao)(a3:List Ac):A:=
 (bd (Afj L a3) fun r1=>
 (cn (r1 != 0)
 (lf r1)
 (jp (.cn (decide (a1 < 0))
 (.lf true)
 (.lf (decide (a1≥(a0.Sites.length:Int))))) (fun b2=>
 (cn b2
 (lf 2)
 (gq (0≤a1)
 (gq (a1 < (a0.Sites.length:Int))
 (bd (P3 L a0 (⟨a0.Params,a2,(a0.Sites.getD (Int.toNat a1) default)⟩:Aq) a3) fun r3=>
 (lf r3)))))))))
def Afl(a0:Ad)(a1:Int)(a2:List Ao)(a3:List Ac):Option Int:=Apu L a0 a1 a2 a3
def X26:Gk:=E4 I 26 D1 (cI .i64) Bpx Acb (Afl L) fun a0 a1 a2 a3 r h=>hF Tryz.func26 (oS [X53 L,X54 L]) L (fun kk=>eE (Apu L a0 a1 a2 a3)) h
noncomputable def c13:EC:=CC Tryz.f13
def O13:Bk:=oL [X25 L,X26 L,X27 L]
def Cjt:Int→Prop:=fun x=>kk (I x)
def Btc(Am:Int)(a0:Ad)(v:Cw):St:=⟨[(0,.any),(1,.loc 1 0),(2,I 0),(3,I v.1),(4,I Am),(5,I v.2)],[(1,Az a0)],0⟩
def Aal [An A Cx](Am:Int)(a0:Ad)(rec:Int→Int→A)(C1:Int)(B2:Int):A:=
 (gq (0≤Am)
 (gq (Am < (a0.Sites.length:Int))
 (cn (decide (B2 < (((a0.Sites.getD (Int.toNat Am) default).Routines).length:Int)))
 (cn (C1 == 0)
 (gq (0≤Am)
 (gq (Am < (a0.Sites.length:Int))
 (gq (0≤B2)
 (gq (B2 < ((((a0.Sites.getD (Int.toNat Am) default).Routines).length:Nat):Int))
 (bd (Ag6 L (((a0.Sites.getD (Int.toNat Am) default).Routines).getD (Int.toNat B2) default)) fun r2=>
 (gq (0≤Am)
 (gq (Am < (a0.Sites.length:Int))
 (gq (0≤B2)
 (gq (B2 < ((((a0.Sites.getD (Int.toNat Am) default).Routines).length:Nat):Int))
 (bd (Afl L a0 Am r2 ((((a0.Sites.getD (Int.toNat Am) default).Routines).getD (Int.toNat B2) default).Body)) fun r3=>
 (rec r3 (Da (B2+1)))))))))))))
 (rec C1 (Da (B2+1))))
 (lf (0,C1,B2)))))
def Lf(L:Nat)(Am:Int)(a0:Ad):Nat→Int→Int→Option Cx
 |0,_,_=>none
 |n+1,C1,B2=>Aal L Am a0 (Lf L Am a0 n) C1 B2
theorem B58(Am:Int)(a0:Ad):LP (EV (O13 L) L 9 c13.w.l.u.l.l.u.l.l.u.l.l) [0,1,2,3,4,5] [1] (Btc Am a0) [.exit 2] (fun n v=>Lf L Am a0 n v.1 v.2) K:=lE (fun _=>rfl) fun n v ih=>eE (Aal L Am a0 (fun C1 B2=>re (ih (C1,B2))) v.1 v.2)
def Bhh(a0:Ad)(v:Cw):St:=⟨[(0,.any),(1,.loc 1 0),(2,I 0),(3,I v.1),(4,I v.2)],[(1,Az a0)],0⟩
def Wb [An A Cx](L:Nat)(Am:Int)(rec:Int→Int→A)(o4:Nat×Cw):A:=
 (sl o4.1 [(rec o4.2.1 (Da (Am+1)))])
def Aby [An A Cx](L:Nat)(a0:Ad)(rec:Int→Int→A)(Ag:Int)(Am:Int)(nx1:Int→Int→A):A:=
 (cn (decide (Am < (a0.Sites.length:Int)))
 (nx1 Am Ag)
 (lf (0,Ag,Am)))
def Aiq [An A Cx](a0:Ad)(rec:Int→Int→A)(Ag:Int)(Am:Int):A:=Aby L a0 rec Ag Am (fun Am Ag=>bd (Lf L Am a0 L Ag 0) fun o4=>Wb L Am rec o4)
def Ld(L:Nat)(a0:Ad):Nat→Int→Int→Option Cx
 |0,_,_=>none
 |n+1,Ag,Am=>Aiq L a0 (Ld L a0 n) Ag Am
def Boy(a0:Ad):Prop:=LI (EV (O13 L) L 9 c13.w.l.u.l.l) [0,1,2,3,4] [1] (Bhh a0) [.exit 0] (fun n v=>Ld L a0 n v.1 v.2) K n
def Bq2:Be:=(Ay 2 (Ay 1 (Bl (EV (O13 L) L 9 c13.w.l.u.l.l.u.r) (I7 (Ly (EV (O13 L) L 9 c13.w.l.u.l.l) [0,1,2,3,4] [1] n) [0,1,2,3,4] [1] K))))
theorem Cgg(Am:Int)(a0:Ad)(ih:Boy L n K a0)(o4:Nat×Cw):kX [.exit 2] (Btc Am a0) (Bq2 L n K) o4=ob (Wb L Am (Ld L a0 n) o4) (kX [.exit 0] (Bhh a0) K):=eE (Wb L Am (fun Ag Am=>re (ih (Ag,Am))) o4)
theorem B57(a0:Ad):∀n,Boy L n K a0:=lE (fun _=>rfl) fun n v ih=>eE (Aby L a0 (fun Ag Am=>re (ih (Ag,Am))) v.1 v.2 (fun Am Ag=>ho (B58 L (Bq2 L n K) Am a0 L (Ag,0)) fun o4=>Cgg L n K Am a0 ih o4))
def Wc [An A Int](L:Nat)(o5:Nat×Cw):A:=
 (sl o5.1 [(lf o5.2.1)])
def Bq3:Be:=(Ay 0 (Bl (EV (O13 L) L 9 c13.w.r) (C8 Tryz.prog (RS Tryz.f13) kk)))
theorem Cgh(a0:Ad)(o5:Nat×Cw):kX [.exit 0] (Bhh a0) (Bq3 L kk) o5=ob (Wc L o5) (Cjt kk):=eE (Wc L o5)
def Abz [An A Int](a0:Ad)(nx2:Int→A):A:=
 (bd (Aji L a0) fun r1=>
 (nx2 r1))
def Ay1 [An A Int](a0:Ad):A:=Abz L a0 (fun r1=>bd (Ld L a0 L r1 0) fun o5=>Wc L o5)
def Ajk(a0:Ad):Option Int:=Ay1 L a0
def X13:Gk:=E1 I 13 D1 (Ajk L) fun a0 r h=>hF Tryz.func13 (C:=O13 L) (oS _) L (fun kk=>eE (Abz L a0 (fun r1=>ho (B57 L (Bq3 L kk) a0 L (r1,0)) fun o5=>Cgh L kk a0 o5))) h
end Go.Proofs.YtogleahbpobaiaaGreat.Ev
