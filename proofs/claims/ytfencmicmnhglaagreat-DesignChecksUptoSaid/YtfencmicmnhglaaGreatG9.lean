import Derived.Test.YtfencmicmnhglaaGreatG3
import Derived.Test.YtfencmicmnhglaaGreatG4
import Derived.Test.YtfencmicmnhglaaGreatG7
import Derived.Test.YtfencmicmnhglaaGreatG8
namespace Go.Proofs.YtfencmicmnhglaaGreat.Ev
open Go An
set_option maxRecDepth 100000
set_option maxHeartbeats 4000000
set_option linter.unusedVariables false
set_option linter.unusedSimpArgs false
set_option linter.unnecessarySimpa false
noncomputable section
variable {A:Type} (L n:Nat) (kk:Dm) (K:Be) (k:Bx)
def Bz5(F:Am→(List Ac)→Option Int):Prop:=∀y0 y1 r,F y0 y1=some r→Ho Tryz.prog 68 [D6.en y0,Aae.en y1] I r
def c68:=CC Tryz.f68
def O68(Iq:Am→(List Ac)→Option Int)(L:Nat):Bi:=(orc 68 (A2 I D6 Aae Iq) (oL [B9k L]))
theorem s68(Iq:Am→(List Ac)→Option Int)(Cbh:Bz5 Iq)(L:Nat):Er Tryz.prog (O68 Iq L):=(Hk (a2 _ Cbh) (oS [B9k L]))
def Byo(a0:Am)(a1:List Ac)(v:Cp):St:=⟨[(0,.ref (Gw a0)),(1,.any),(4,I v.1),(10,lv (.t99 a1)),(11,I (a1.length:Int)),(12,I v.2)],[],0⟩
def Ln [An A B8](Iq:Am→(List Ac)→Option Int)(L:Nat)(a0:Am)(a1:List Ac)(rec:Int→Int→A)(C8:Int)(Md:Int):A:=
 (lw Md a1
 (bd (Lt L a0 (Ac.cp (a1.getD (Int.toNat Md) default))) fun r1=>
 (cn (r1 != 0)
 (lf (0,r1,Md))
 (bd (Iq a0 ((a1.getD (Int.toNat Md) default).Body)) fun r2=>
 (cn (r2 != 0)
 (lf (0,r2,Md))
 (bd (Iq a0 ((a1.getD (Int.toNat Md) default).Else)) fun r3=>
 (cn (r3 != 0)
 (lf (0,r3,Md))
 (rec C8 (Cq (Md+1)))))))))
 (lf (1,C8,Md)))
def Eu(Iq:Am→(List Ac)→Option Int)(L:Nat)(a0:Am)(a1:List Ac):Nat→Int→Int→Option B8
 |0,_,_=>none
 |n+1,C8,Md=>Ln Iq L a0 a1 (Eu Iq L a0 a1 n) C8 Md
theorem Ccs(Iq:Am→(List Ac)→Option Int)(L:Nat)(K:Be)(a0:Am)(a1:List Ac):LP (EV (O68 Iq L) L 9 c68.u.l.u.l.l) [0,1,4,10,11,12] [] (Byo a0 a1) [.ret,.exit 0] (fun n v=>Eu Iq L a0 a1 n v.1 v.2) K:=lE (fun _=>rfl) fun n v ih=>eE (Ln Iq L a0 a1 (fun C8 Md=>re (ih (C8,Md))) v.1 v.2)
def Ie [An A Int](Iq:Am→(List Ac)→Option Int)(L:Nat)(o4:Nat×Cp):A:=
 (sl o4.1 [(lf o4.2.1),
 (lf 0)])
def Bxc(Iq:Am→(List Ac)→Option Int)(L:Nat)(kk:Dm):Be:=(Ax 0 (Bk (EV (O68 Iq L) L 9 c68.u.r) (C0 Tryz.prog (RS Tryz.f68) kk)))
theorem Cn9(Iq:Am→(List Ac)→Option Int)(L:Nat)(kk:Dm)(a0:Am)(a1:List Ac)(o4:Nat×Cp):kX [.ret,.exit 0] (Byo a0 a1) (Bxc Iq L kk) o4=ob (Ie Iq L o4) (kQ I kk):=eE (Ie Iq L o4)
def Ad1 [An A Int](Iq:Am→(List Ac)→Option Int)(L:Nat)(a0:Am)(a1:List Ac):A:=(bd (Eu Iq L a0 a1 L 0 0) fun o4=>Ie Iq L o4)
def Vz(Iq:Am→(List Ac)→Option Int)(L:Nat)(a0:Am)(a1:List Ac):Option Int:=Ad1 Iq L a0 a1
theorem b68(Iq:Am→(List Ac)→Option Int)(Cbh:Bz5 Iq)(L:Nat):Bz5 (Vz Iq L):=fun a0 a1 r h=>hF Tryz.func68 (s68 Iq Cbh L) L (fun kk=>eE ((ho (Ccs Iq L (Bxc Iq L kk) a0 a1 L (0,0)) fun o4=>Cn9 Iq L kk a0 a1 o4))) h
def Ec:Nat→Am→(List Ac)→Option Int
 |0,_,_=>none
 |L+1,a0,a1=>Vz (Ec L) L a0 a1
theorem Cbd(L:Nat):Bz5 (Ec L):=by
 induction L with
 |zero=>exact fun _ _ _ h=>(by cases h)
 |succ L ih=>
  have i68:=ih
  exact b68 (Ec L) i68 L
def X68(L:Nat):Gh:=E2 I 68 D6 Aae (Ec L) (Cbd L)
def Ajt [An A Int](a0:Ad)(a1:Int)(a2:List Ap)(a3:List Ac):A:=
 (bd (Aa5 L a3) fun r1=>
 (cn (r1 != 0)
 (lf r1)
 (jp (.cn (decide (a1 < 0))
 (.lf true)
 (.lf (decide (a1≥(a0.Sites.length:Int))))) (fun b2=>
 (cn b2
 (lf 2)
 (gi a1 a0.Sites
 (bd (Ec L (⟨a0,a1,(⟨a0.Params,a2,(a0.Sites.getD (Int.toNat a1) default)⟩:Ar)⟩:Am) a3) fun r3=>
 (lf r3))))))))
def Tc(a0:Ad)(a1:Int)(a2:List Ap)(a3:List Ac):Option Int:=Ajt L a0 a1 a2 a3
def X44:Gh:=E4 I 44 C6 (cI .i64) Bfn Aae (Tc L) fun a0 a1 a2 a3 r h=>hF Tryz.func44 (oS [X67 L,X68 L]) L (fun kk=>eE (Ajt L a0 a1 a2 a3)) h
def c24:=CC Tryz.f24
def O24:Bi:=oL [X43 L,X44 L]
def Byd(Ai:Int)(a0:Ad)(v:Cp):St:=⟨[(0,.any),(1,.loc 1 0),(2,I v.1),(3,.any),(4,I Ai),(5,.loc 5 0),(16,lv (.t55 a0.Sites)),(17,I (a0.Sites.length:Int)),(18,I Ai),(24,lv (.t60 ((a0.Sites.getD (Int.toNat Ai) default).Routines))),(25,I (((a0.Sites.getD (Int.toNat Ai) default).Routines).length:Int)),(26,I v.2)],[(1,(Aw a0)),(5,(Ae (a0.Sites.getD (Int.toNat Ai) default)))],0⟩
def Wa [An A B8](Ai:Int)(a0:Ad)(rec:Int→Int→A)(Bz:Int)(Atg:Int):A:=
 (lw Atg ((a0.Sites.getD (Int.toNat Ai) default).Routines)
 (gq ((0+((((a0.Sites.getD (Int.toNat Ai) default).Routines).getD (Int.toNat Atg) default).Params).length)*24≤140737488355328)
 (gq (0+((((a0.Sites.getD (Int.toNat Ai) default).Routines).getD (Int.toNat Atg) default).Params).length≤maxLen)
 (gq ((((((a0.Sites.getD (Int.toNat Ai) default).Routines).getD (Int.toNat Atg) default).Params).length+((((a0.Sites.getD (Int.toNat Ai) default).Routines).getD (Int.toNat Atg) default).Locals).length)*24≤140737488355328)
 (gq (((((a0.Sites.getD (Int.toNat Ai) default).Routines).getD (Int.toNat Atg) default).Params).length+((((a0.Sites.getD (Int.toNat Ai) default).Routines).getD (Int.toNat Atg) default).Locals).length≤maxLen)
 (bd (Tc L a0 Ai ((((a0.Sites.getD (Int.toNat Ai) default).Routines).getD (Int.toNat Atg) default).Params++(((a0.Sites.getD (Int.toNat Ai) default).Routines).getD (Int.toNat Atg) default).Locals) ((((a0.Sites.getD (Int.toNat Ai) default).Routines).getD (Int.toNat Atg) default).Body)) fun r2=>
 (cn (r2 != 0)
 (lf (0,r2,Atg))
 (rec Bz (Cq (Atg+1)))))))))
 (lf (1,Bz,Atg)))
def H6(L:Nat)(Ai:Int)(a0:Ad):Nat→Int→Int→Option B8
 |0,_,_=>none
 |n+1,Bz,Atg=>Wa L Ai a0 (H6 L Ai a0 n) Bz Atg
theorem Cb7(Ai:Int)(a0:Ad):LP (EV (O24 L) L 9 c24.w.l.u.l.l.w.l.l.w.l.l) [0,1,2,3,4,5,16,17,18,24,25,26] [1,5] (Byd Ai a0) [.ret,.exit 2] (fun n v=>H6 L Ai a0 n v.1 v.2) K:=lE (fun _=>rfl) fun n v ih=>eE (Wa L Ai a0 (fun Bz Atg=>re (ih (Bz,Atg))) v.1 v.2)
def Bku(a0:Ad)(v:Cp):St:=⟨[(0,.any),(1,.loc 1 0),(2,I v.1),(3,.any),(16,lv (.t55 a0.Sites)),(17,I (a0.Sites.length:Int)),(18,I v.2)],[(1,(Aw a0))],0⟩
def R8 [An A B8](L:Nat)(Ai:Int)(rec:Int→Int→A)(o3:Nat×Cp):A:=
 (sl o3.1 [(lf (0,o3.2.1,Ai)),
 (rec o3.2.1 (Cq (Ai+1)))])
def Wr [An A B8](L:Nat)(a0:Ad)(rec:Int→Int→A)(Ao:Int)(Ai:Int)(nx1:Int→Int→A):A:=
 (lw Ai a0.Sites
 (nx1 Ai Ao)
 (lf (1,Ao,Ai)))
def Acg [An A B8](a0:Ad)(rec:Int→Int→A)(Ao:Int)(Ai:Int):A:=Wr L a0 rec Ao Ai (fun Ai Ao=>bd (H6 L Ai a0 L Ao 0) fun o3=>R8 L Ai rec o3)
def H5(L:Nat)(a0:Ad):Nat→Int→Int→Option B8
 |0,_,_=>none
 |n+1,Ao,Ai=>Acg L a0 (H5 L a0 n) Ao Ai
def Bue(a0:Ad):Prop:=LI (EV (O24 L) L 9 c24.w.l.u.l.l) [0,1,2,3,16,17,18] [1] (Bku a0) [.ret,.exit 0] (fun n v=>H5 L a0 n v.1 v.2) K n
def Bwt:Be:=(Ax 2 (Ax 1 (Bk (EV (O24 L) L 9 c24.w.l.u.l.l.w.r) (Ir (Lh (EV (O24 L) L 9 c24.w.l.u.l.l) [0,1,2,3,16,17,18] [1] n) [0,1,2,3,16,17,18] [1] K))))
theorem Cnq(Ai:Int)(a0:Ad)(ih:Bue L n K a0)(o3:Nat×Cp):kX [.ret,.exit 2] (Byd Ai a0) (Bwt L n K) o3=ob (R8 L Ai (H5 L a0 n) o3) (kX [.ret,.exit 0] (Bku a0) K):=eE (R8 L Ai (fun Ao Ai=>re (ih (Ao,Ai))) o3)
theorem Cb6(a0:Ad):∀n,Bue L n K a0:=lE (fun _=>rfl) fun n v ih=>eE (Wr L a0 (fun Ao Ai=>re (ih (Ao,Ai))) v.1 v.2 (fun Ai Ao=>ho (Cb7 L (Bwt L n K) Ai a0 L (Ao,0)) fun o3=>Cnq L n K Ai a0 ih o3))
def R9 [An A Int](L:Nat)(o4:Nat×Cp):A:=
 (sl o4.1 [(lf o4.2.1),
 (lf 0)])
def Bwu:Be:=(Ax 0 (Bk (EV (O24 L) L 9 c24.w.r) (C0 Tryz.prog (RS Tryz.f24) kk)))
theorem Cnr(a0:Ad)(o4:Nat×Cp):kX [.ret,.exit 0] (Bku a0) (Bwu L kk) o4=ob (R9 L o4) (kQ I kk):=eE (R9 L o4)
def Ws [An A Int](a0:Ad)(nx2:A):A:=
 (bd (Aft L a0) fun r1=>
 (cn (r1 != 0)
 (lf r1)
 nx2))
def Ars [An A Int](a0:Ad):A:=Ws L a0 (bd (H5 L a0 L 0 0) fun o4=>R9 L o4)
def Tb(a0:Ad):Option Int:=Ars L a0
def X24:Gh:=E1 I 24 C6 (Tb L) fun a0 r h=>hF Tryz.func24 (C:=O24 L) (oS _) L (fun kk=>eE (Ws L a0 (ho (Cb6 L (Bwu L kk) a0 L (0,0)) fun o4=>Cnr L kk a0 o4))) h
def Al1 [An A Bool](a0:Int)(a1:Int):A:=
 (cn (a0 == 2)
 (jp (.cn (a1 == 0)
 (.lf true)
 (.lf (a1 == 1))) (fun b1=>
 (lf b1)))
 (cn (a0 == 3)
 (jp (.cn (decide (a1≥0))
 (.lf (decide (a1≤1000000000)))
 (.lf false)) (fun b2=>
 (lf b2)))
 (bd (Agx L a1) fun r3=>
 (lf r3))))
def j7(a0:Int)(a1:Int):Option Bool:=Al1 L a0 a1
def X46:Gh:=E2 B 46 (cI .i64) (cI .i64) (j7 L) fun a0 a1 r h=>hF Tryz.func46 (oS [X59 L]) L (fun kk=>eE (Al1 L a0 a1)) h
def c29:=CC Tryz.f29
def O29:Bi:=oL [X46 L]
def Bye(a0:Int)(a1:List Int)(v:Cp):St:=⟨[(0,I a0),(1,lv (.t3 a1)),(4,I v.1),(13,lv (.t3 a1)),(14,I (a1.length:Int)),(15,I v.2)],[],0⟩
def Ut [An A B8](a0:Int)(a1:List Int)(rec:Int→Int→A)(Aj:Int)(Qk:Int):A:=
 (lw Qk a1
 (bd (j7 L a0 (a1.getD (Int.toNat Qk) default)) fun r1=>
 (cn (!r1)
 (lf (0,2,Qk))
 (jb (.cn (decide (Qk > 0))
 (.gq (0≤(Cq (Qk - 1)))
 (.gq ((Cq (Qk - 1)) < (a1.length:Int))
 (.lf (decide ((a1.getD (Int.toNat Qk) default)≤(a1.getD (Int.toNat (Cq (Qk - 1))) default))))))
 (.lf false)) (fun b2=>
 (cn b2
 (lf (0,12,Qk))
 (rec Aj (Cq (Qk+1))))))))
 (lf (1,Aj,Qk)))
def Iu(L:Nat)(a0:Int)(a1:List Int):Nat→Int→Int→Option B8
 |0,_,_=>none
 |n+1,Aj,Qk=>Ut L a0 a1 (Iu L a0 a1 n) Aj Qk
theorem Cb8(a0:Int)(a1:List Int):LP (EV (O29 L) L 9 c29.w.u.l.u.l.l) [0,1,4,13,14,15] [] (Bye a0 a1) [.ret,.exit 0] (fun n v=>Iu L a0 a1 n v.1 v.2) K:=lE (fun _=>rfl) fun n v ih=>eE (Ut L a0 a1 (fun Aj Qk=>re (ih (Aj,Qk))) v.1 v.2)
def P9 [An A Int](L:Nat)(o3:Nat×Cp):A:=
 (sl o3.1 [(lf o3.2.1),
 (lf 0)])
def Bwv:Be:=(Ax 0 (Bk (EV (O29 L) L 9 c29.w.u.r) (C0 Tryz.prog (RS Tryz.f29) kk)))
theorem Cns(a0:Int)(a1:List Int)(o3:Nat×Cp):kX [.ret,.exit 0] (Bye a0 a1) (Bwv L kk) o3=ob (P9 L o3) (kQ I kk):=eE (P9 L o3)
def U4 [An A Int](L:Nat)(a0:Int)(a1:List Int)(nx1:A):A:=
 (cn ((a1.length:Int) == 0)
 (lf 7)
 (cn (decide ((a1.length:Int) > 10))
 (lf 6)
 nx1))
def Aqa [An A Int](a0:Int)(a1:List Int):A:=U4 L a0 a1 (bd (Iu L a0 a1 L 0 0) fun o3=>P9 L o3)
def U8(a0:Int)(a1:List Int):Option Int:=Aqa L a0 a1
def X29:Gh:=E2 I 29 (cI .i64) cl3 (U8 L) fun a0 a1 r h=>hF Tryz.func29 (C:=O29 L) (oS _) L (fun kk=>eE (U4 L a0 a1 (ho (Cb8 L (Bwv L kk) a0 a1 L (0,0)) fun o3=>Cns L kk a0 a1 o3))) h
def Au8 [An A Int](L:Nat)(a0:Int):A:=
 (lf (if (if 1000000000000 < a0 then 1000000000000 else a0) > (-1000000000000) then (if 1000000000000 < a0 then 1000000000000 else a0) else (-1000000000000)))
def Aov(a0:Int):Option Int:=Au8 L a0
def X52:Gh:=E1 I 52 (cI .i64) (Aov L) fun a0 r h=>hF Tryz.func52 (oS []) L (fun kk=>eE (Au8 L a0)) h
def Au9 [An A Int](L:Nat)(a0:Int):A:=
 (lf (if (Cq (0 - a0)) > a0 then (Cq (0 - a0)) else a0))
def Aow(a0:Int):Option Int:=Au9 L a0
def X54:Gh:=E1 I 54 (cI .i64) (Aow L) fun a0 r h=>hF Tryz.func54 (oS []) L (fun kk=>eE (Au9 L a0)) h
def Ao7 [An A Cp](L:Nat)(a0:Int)(a1:Int):A:=
 (lf ((IntKind.wrap .u64 ((IntKind.wrap .u64 ((IntKind.wrap .u64 ((Int.fdiv a0 (2 ^ 32))*(Int.fdiv a1 (2 ^ 32))))+(Int.fdiv (IntKind.wrap .u64 ((IntKind.wrap .u64 ((Int.fdiv a0 (2 ^ 32))*(IntKind.wrap .u64 (((BitVec.ofInt 64 a1 &&& BitVec.ofInt 64 4294967295).toNat:Int)))))+(Int.fdiv (IntKind.wrap .u64 ((IntKind.wrap .u64 (((BitVec.ofInt 64 a0 &&& BitVec.ofInt 64 4294967295).toNat:Int)))*(IntKind.wrap .u64 (((BitVec.ofInt 64 a1 &&& BitVec.ofInt 64 4294967295).toNat:Int))))) (2 ^ 32)))) (2 ^ 32))))+(Int.fdiv (IntKind.wrap .u64 ((IntKind.wrap .u64 (((BitVec.ofInt 64 (IntKind.wrap .u64 ((IntKind.wrap .u64 ((Int.fdiv a0 (2 ^ 32))*(IntKind.wrap .u64 (((BitVec.ofInt 64 a1 &&& BitVec.ofInt 64 4294967295).toNat:Int)))))+(Int.fdiv (IntKind.wrap .u64 ((IntKind.wrap .u64 (((BitVec.ofInt 64 a0 &&& BitVec.ofInt 64 4294967295).toNat:Int)))*(IntKind.wrap .u64 (((BitVec.ofInt 64 a1 &&& BitVec.ofInt 64 4294967295).toNat:Int))))) (2 ^ 32)))) &&& BitVec.ofInt 64 4294967295).toNat:Int)))+(IntKind.wrap .u64 ((IntKind.wrap .u64 (((BitVec.ofInt 64 a0 &&& BitVec.ofInt 64 4294967295).toNat:Int)))*(Int.fdiv a1 (2 ^ 32)))))) (2 ^ 32)))),(IntKind.wrap .u64 (a0*a1))))
def Ail(a0:Int)(a1:Int):Option Cp:=Ao7 L a0 a1
def X53:Gh:=E2 (fun(x:Cp)=> .tup [V .u64 x.1,V .u64 x.2]) 53 (cI .u64) (cI .u64) (Ail L) fun a0 a1 r h=>hF Tryz.func53 (oS []) L (fun kk=>eE (Ao7 L a0 a1)) h
def Ayu [An A Int](a0:Int)(a1:Int):A:=
 (bd (Aov L a0) fun r1=>
 (bd (Aov L a1) fun r2=>
 (bd (Aow L r1) fun r3=>
 (bd (Aow L r2) fun r4=>
 (bd (Ail L (IntKind.wrap .u64 (r3)) (IntKind.wrap .u64 (r4))) fun r5=>
 (jp (.cn (r5.1 == 0)
 (.lf (decide (r5.2 < 1000000000000)))
 (.lf false)) (fun b6=>
 (cn b6
 (cn (!((decide (r1 < 0)) == (decide (r2 < 0))))
 (lf (Cq (0 - (Cq (r5.2)))))
 (lf (Cq (r5.2))))
 (cn (!((decide (r1 < 0)) == (decide (r2 < 0))))
 (lf (-1000000000000))
 (lf 1000000000000))))))))))
def Am4(a0:Int)(a1:Int):Option Int:=Ayu L a0 a1
def X32:Gh:=E2 I 32 (cI .i64) (cI .i64) (Am4 L) fun a0 a1 r h=>hF Tryz.func32 (oS [X52 L,X53 L,X54 L]) L (fun kk=>eE (Ayu L a0 a1)) h
def c10:=CC Tryz.f10
def O10:Bi:=oL [X32 L]
def Bya(a0:List Ah)(v:Cp):St:=⟨[(0,.any),(2,I 0),(3,I v.1),(9,lv (.t46 a0)),(10,I (a0.length:Int)),(11,I v.2)],[],0⟩
def Yt [An A B8](a0:List Ah)(rec:Int→Int→A)(Ag:Int)(Bg:Int):A:=
 (lw Bg a0
 (bd (Am4 L Ag (((a0.getD (Int.toNat Bg) default).Levels).length:Int)) fun r1=>
 (rec r1 (Cq (Bg+1))))
 (lf (0,Ag,Bg)))
def Ku(L:Nat)(a0:List Ah):Nat→Int→Int→Option B8
 |0,_,_=>none
 |n+1,Ag,Bg=>Yt L a0 (Ku L a0 n) Ag Bg
theorem Cb2(a0:List Ah):LP (EV (O10 L) L 9 c10.w.u.l.u.l.l) [0,2,3,9,10,11] [] (Bya a0) [.exit 0] (fun n v=>Ku L a0 n v.1 v.2) K:=lE (fun _=>rfl) fun n v ih=>eE (Yt L a0 (fun Ag Bg=>re (ih (Ag,Bg))) v.1 v.2)
def Tv [An A Int](L:Nat)(o2:Nat×Cp):A:=
 (sl o2.1 [(lf o2.2.1)])
def Bwp:Be:=(Ax 0 (Bk (EV (O10 L) L 9 c10.w.u.r) (C0 Tryz.prog (RS Tryz.f10) kk)))
theorem Cnm(a0:List Ah)(o2:Nat×Cp):kX [.exit 0] (Bya a0) (Bwp L kk) o2=ob (Tv L o2) (kQ I kk):=eE (Tv L o2)
def Zm [An A Int](L:Nat)(a0:List Ah)(nx1:A):A:=
 (cn ((a0.length:Int) == 0)
 (lf 0)
 nx1)
def At5 [An A Int](a0:List Ah):A:=Zm L a0 (bd (Ku L a0 L 1 0) fun o2=>Tv L o2)
def j6(a0:List Ah):Option Int:=At5 L a0
def X10:Gh:=E1 I 10 Bs6 (j6 L) fun a0 r h=>hF Tryz.func10 (C:=O10 L) (oS _) L (fun kk=>eE (Zm L a0 (ho (Cb2 L (Bwp L kk) a0 L (1,0)) fun o2=>Cnm L kk a0 o2))) h
def c27:=CC Tryz.f27
def c45:=CC Tryz.f45
def c8:=CC Tryz.f8
def O8:Bi:=oL [X10 L,X24 L,X29 L]
def B7s:Be:=(Ax 1 (Bk (EV (O8 L) L 9 c8.x.l.u.l.l.w.r) (Ir (Lh (EV (O8 L) L 9 c8.x.l.u.l.l) [0,1,2,4,5,21,22,23] [2] n) [0,1,2,4,5,21,22,23] [2] K)))
def B79(p1_0:List Al)(p1_1:Ad)(p1_2:Ah)(v:Cp):St:=⟨[(0,lv (.t77 p1_0)),(1,.clo 26 0 [.loc 7 0]),(4,I v.1),(7,I (p1_0.length:Int)),(8,I v.2)],[(2,(Aw p1_1)),(7,(Ed p1_2))],8⟩
def V8 [An A B8](L:Nat)(p1_0:List Al)(p1_1:Ad)(p1_2:Ah)(rec:Int→Int→A)(Ct:Int)(Bw:Int):A:=
 (lw Bw p1_0
 (cn (((p1_0.getD (Int.toNat Bw) default).Name).toList == p1_2.Name.toList)
 (lf (0,Bw,Bw))
 (rec Ct (Cq (Bw+1))))
 (lf (1,Ct,Bw)))
def Jp(L:Nat)(p1_0:List Al)(p1_1:Ad)(p1_2:Ah):Nat→Int→Int→Option B8
 |0,_,_=>none
 |n+1,Ct,Bw=>V8 L p1_0 p1_1 p1_2 (Jp L p1_0 p1_1 p1_2 n) Ct Bw
theorem Cl7(p1_0:List Al)(p1_1:Ad)(p1_2:Ah):LP (EV (O8 L) L 8 c25.u.l.u.l.l) [0,1,4,7,8] [2,7] (B79 p1_0 p1_1 p1_2) [.ret,.exit 0] (fun n v=>Jp L p1_0 p1_1 p1_2 n v.1 v.2) K:=lE (fun _=>rfl) fun n v ih=>eE (V8 L p1_0 p1_1 p1_2 (fun Ct Bw=>re (ih (Ct,Bw))) v.1 v.2)
def Buu(p1_0:List Al)(p1_1:Ad)(p1_2:Ah)(k:Bx):Int→Prop:=fun o=>k (I o) [(2,(Aw p1_1)),(7,(Ed p1_2))]
def Wb [An A Int](L:Nat)(o2:Nat×Cp):A:=
 (sl o2.1 [(lf o2.2.1),
 (lf (-1))])
def B7m:Be:=(Ax 0 (Bk (EV (O8 L) L 8 c25.u.r) (E8 Tryz.prog (RS Tryz.f25) k)))
theorem Cqu(p1_0:List Al)(p1_1:Ad)(p1_2:Ah)(o2:Nat×Cp):kX [.ret,.exit 0] (B79 p1_0 p1_1 p1_2) (B7m L k) o2=ob (Wb L o2) (Buu p1_0 p1_1 p1_2 k):=eE (Wb L o2)
def Alb [An A Int](p1_0:List Al)(p1_1:Ad)(p1_2:Ah):A:=(bd (Jp L p1_0 p1_1 p1_2 L 0 0) fun o2=>Wb L o2)
def Rq(p1_0:List Al)(p1_1:Ad)(p1_2:Ah):Option Int:=Alb L p1_0 p1_1 p1_2
theorem Clg(p1_0:List Al)(p1_1:Ad)(p1_2:Ah):YO (O8 L) L 9 25 [lv (.t77 p1_0),.clo 26 0 [.loc 7 0]] [(2,(Aw p1_1)),(7,(Ed p1_2))] k=ob (Rq L p1_0 p1_1 p1_2) (Buu p1_0 p1_1 p1_2 k):=(Dg _ _ _ jn4 _ _ _ _ _ _ _).trans (eE ((ho (Cl7 L (B7m L k) p1_0 p1_1 p1_2 L (0,0)) fun o2=>Cqu L k p1_0 p1_1 p1_2 o2)))
def B8a(p2_0:List Ah)(p2_1:Ad)(p2_2:Ah)(v:Cp):St:=⟨[(0,lv (.t46 p2_0)),(1,.clo 28 0 [.loc 7 0]),(4,I v.1),(7,I (p2_0.length:Int)),(8,I v.2)],[(2,(Aw p2_1)),(7,(Ed p2_2))],8⟩
def V9 [An A B8](L:Nat)(p2_0:List Ah)(p2_1:Ad)(p2_2:Ah)(rec:Int→Int→A)(Jz:Int)(H0:Int):A:=
 (lw H0 p2_0
 (cn (((p2_0.getD (Int.toNat H0) default).Name).toList == p2_2.Name.toList)
 (lf (0,H0,H0))
 (rec Jz (Cq (H0+1))))
 (lf (1,Jz,H0)))
def Jq(L:Nat)(p2_0:List Ah)(p2_1:Ad)(p2_2:Ah):Nat→Int→Int→Option B8
 |0,_,_=>none
 |n+1,Jz,H0=>V9 L p2_0 p2_1 p2_2 (Jq L p2_0 p2_1 p2_2 n) Jz H0
theorem Cl8(p2_0:List Ah)(p2_1:Ad)(p2_2:Ah):LP (EV (O8 L) L 7 c45.u.l.u.l.l) [0,1,4,7,8] [2,7] (B8a p2_0 p2_1 p2_2) [.ret,.exit 0] (fun n v=>Jq L p2_0 p2_1 p2_2 n v.1 v.2) K:=lE (fun _=>rfl) fun n v ih=>eE (V9 L p2_0 p2_1 p2_2 (fun Jz H0=>re (ih (Jz,H0))) v.1 v.2)
def Buv(p2_0:List Ah)(p2_1:Ad)(p2_2:Ah)(k:Bx):Int→Prop:=fun o=>k (I o) [(2,(Aw p2_1)),(7,(Ed p2_2))]
def Wd [An A Int](L:Nat)(o4:Nat×Cp):A:=
 (sl o4.1 [(lf o4.2.1),
 (lf (-1))])
def B7o:Be:=(Ax 0 (Bk (EV (O8 L) L 7 c45.u.r) (E8 Tryz.prog (RS Tryz.f45) k)))
theorem Cqw(p2_0:List Ah)(p2_1:Ad)(p2_2:Ah)(o4:Nat×Cp):kX [.ret,.exit 0] (B8a p2_0 p2_1 p2_2) (B7o L k) o4=ob (Wd L o4) (Buv p2_0 p2_1 p2_2 k):=eE (Wd L o4)
def Alc [An A Int](p2_0:List Ah)(p2_1:Ad)(p2_2:Ah):A:=(bd (Jq L p2_0 p2_1 p2_2 L 0 0) fun o4=>Wd L o4)
def Rr(p2_0:List Ah)(p2_1:Ad)(p2_2:Ah):Option Int:=Alc L p2_0 p2_1 p2_2
theorem Clh(p2_0:List Ah)(p2_1:Ad)(p2_2:Ah):YO (O8 L) L 8 45 [lv (.t46 p2_0),.clo 28 0 [.loc 7 0]] [(2,(Aw p2_1)),(7,(Ed p2_2))] k=ob (Rr L p2_0 p2_1 p2_2) (Buv p2_0 p2_1 p2_2 k):=(Dg _ _ _ jn4 _ _ _ _ _ _ _).trans (eE ((ho (Cl8 L (B7o L k) p2_0 p2_1 p2_2 L (0,0)) fun o4=>Cqw L k p2_0 p2_1 p2_2 o4)))
def Bsa(a1:List Ah)(a0:Ad)(v:Cp):St:=⟨[(0,.any),(1,lv (.t46 a1)),(2,.loc 2 0),(4,I v.1),(5,.any),(21,lv (.t46 a1)),(22,I (a1.length:Int)),(23,I v.2)],[(2,(Aw a0))],0⟩
def Rz [An A B8](Bg:Int)(o3:Int)(a0:Ad)(a1:List Ah)(Ag:Int)(rec:Int→Int→A)(o5:Int):A:=
 (cn (decide (o5≥0))
 (lf (0,4,Bg))
 (gi o3 a0.Params
 (bd (U8 L ((a0.Params.getD (Int.toNat o3) default).Type_) ((a1.getD (Int.toNat Bg) default).Levels)) fun r6=>
 (cn (r6 != 0)
 (lf (0,r6,Bg))
 (rec Ag (Cq (Bg+1)))))))
def Wl [An A B8](L:Nat)(Bg:Int)(a1:List Ah)(Ag:Int)(a0:Ad)(rec:Int→Int→A)(o3:Int)(nx6:Int→Int→Int→A):A:=
 (cn (decide (o3 < 0))
 (lf (0,5,Bg))
 (gq (0≤0)
 (gq (0≤Bg)
 (gq ((Bg:Int)≤(a1.length:Int))
 (gq (((a1.length:Int):Int)≤(a1.length:Int))
 (nx6 Bg Ag o3))))))
def Wc [An A B8](Bg:Int)(a1:List Ah)(Ag:Int)(a0:Ad)(rec:Int→Int→A)(o3:Int):A:=Wl L Bg a1 Ag a0 rec o3 (fun Bg Ag o3=>bd (Rr L ((a1.take (Int.toNat Bg)).drop 0) a0 (a1.getD (Int.toNat Bg) default)) fun o5=>Rz L Bg o3 a0 a1 Ag rec o5)
def Wk [An A B8](L:Nat)(a1:List Ah)(a0:Ad)(rec:Int→Int→A)(Ag:Int)(Bg:Int)(nx3:Int→Int→A):A:=
 (lw Bg a1
 (nx3 Bg Ag)
 (lf (1,Ag,Bg)))
def Ace [An A B8](a1:List Ah)(a0:Ad)(rec:Int→Int→A)(Ag:Int)(Bg:Int):A:=Wk L a1 a0 rec Ag Bg (fun Bg Ag=>bd (Rq L a0.Params a0 (a1.getD (Int.toNat Bg) default)) fun o3=>Wc L Bg a1 Ag a0 rec o3)
def Hf(L:Nat)(a1:List Ah)(a0:Ad):Nat→Int→Int→Option B8
 |0,_,_=>none
 |n+1,Ag,Bg=>Ace L a1 a0 (Hf L a1 a0 n) Ag Bg
def Bur(a1:List Ah)(a0:Ad):Prop:=LI (EV (O8 L) L 9 c8.x.l.u.l.l) [0,1,2,4,5,21,22,23] [2] (Bsa a1 a0) [.ret,.exit 0] (fun n v=>Hf L a1 a0 n v.1 v.2) K n
def B7p(a1:List Ah)(Bg:Int)(a0:Ad)(Ag:Int)(o3:Int):Bx:=(Cm Tryz.prog (O8 L) (EI (O8 L) L 8) 2 (List.drop 3 c27.u.l.ops) ⟨[(6,.clo 28 0 [.loc 7 0]),(5,lv (.t46 ((a1.take (Int.toNat Bg)).drop 0))),(0,lv (.t46 ((a1.take (Int.toNat Bg)).drop 0))),(1,.clo 28 0 [.loc 7 0]),(4,B false)],[(2,(Aw a0)),(7,(Ed (a1.getD (Int.toNat Bg) default)))],8⟩ (some 7) (fun st9=>(Bk (EV (O8 L) L 8 c27.u.r) (E8 Tryz.prog (RS Tryz.f27) (Cm Tryz.prog (O8 L) (EI (O8 L) L 9) 0 (List.drop 5 c8.x.l.u.l.l.w.l.l.w.u.l.l.ops) ⟨[(37,.clo 28 0 [.loc 7 0]),(36,lv (.t46 ((a1.take (Int.toNat Bg)).drop 0))),(35,I Bg),(34,lv (.t46 a1)),(1,lv (.t46 a1)),(2,.loc 2 0),(4,I Ag),(6,I Bg),(7,.loc 7 0),(8,I o3),(21,lv (.t46 a1)),(22,I (a1.length:Int)),(23,I Bg),(24,B (decide (Bg < (a1.length:Int)))),(25,I Bg),(26,.ref (Ed (a1.getD (Int.toNat Bg) default))),(27,.agg (Ed (a1.getD (Int.toNat Bg) default))),(28,.loc 2 1),(29,lv (.t77 a0.Params)),(30,.clo 26 0 [.loc 7 0]),(31,I o3),(32,I o3),(33,B (decide (o3 < 0)))],[(2,(Aw a0)),(7,(Ed (a1.getD (Int.toNat Bg) default)))],0⟩ (some 38) (fun st9=>(Bk (EV (O8 L) L 9 c8.x.l.u.l.l.w.l.l.w.u.l.r) (Bk (EV (O8 L) L 9 c8.x.l.u.l.l.w.l.l.w.u.r) (B7s L n K))) .normal st9)))) .normal st9))
theorem Cqx(a1:List Ah)(Bg:Int)(a0:Ad)(Ag:Int)(o3:Int)(ih:Bur L n K a1 a0)(o5:Int):Buv ((a1.take (Int.toNat Bg)).drop 0) a0 (a1.getD (Int.toNat Bg) default) (B7p L n K a1 Bg a0 Ag o3) o5=ob (Rz L Bg o3 a0 a1 Ag (Hf L a1 a0 n) o5) (kX [.ret,.exit 0] (Bsa a1 a0) K):=eE (Rz L Bg o3 a0 a1 Ag (fun Ag Bg=>re (ih (Ag,Bg))) o5)
def B7n(a0:Ad)(a1:List Ah)(Ag:Int)(Bg:Int):Bx:=(Cm Tryz.prog (O8 L) (EI (O8 L) L 9) 1 (List.drop 4 c8.x.l.u.l.l.w.l.l.u.l.ops) ⟨[(30,.clo 26 0 [.loc 7 0]),(29,lv (.t77 a0.Params)),(28,.loc 2 1),(1,lv (.t46 a1)),(2,.loc 2 0),(4,I Ag),(6,I Bg),(7,.loc 7 0),(21,lv (.t46 a1)),(22,I (a1.length:Int)),(23,I Bg),(24,B (decide (Bg < (a1.length:Int)))),(25,I Bg),(26,.ref (Ed (a1.getD (Int.toNat Bg) default))),(27,.agg (Ed (a1.getD (Int.toNat Bg) default)))],[(2,(Aw a0)),(7,(Ed (a1.getD (Int.toNat Bg) default)))],0⟩ (some 31) (fun st9=>(Bk (EV (O8 L) L 9 c8.x.l.u.l.l.w.l.l.u.r) (B7s L n K)) .normal st9))
theorem Cqv(a0:Ad)(a1:List Ah)(Bg:Int)(Ag:Int)(ih:Bur L n K a1 a0)(o3:Int):Buu a0.Params a0 (a1.getD (Int.toNat Bg) default) (B7n L n K a0 a1 Ag Bg) o3=ob (Wc L Bg a1 Ag a0 (Hf L a1 a0 n) o3) (kX [.ret,.exit 0] (Bsa a1 a0) K):=eE (Wl L Bg a1 Ag a0 (fun Ag Bg=>re (ih (Ag,Bg))) o3 (fun Bg Ag o3=>ho (Clh L (B7p L n K a1 Bg a0 Ag o3) ((a1.take (Int.toNat Bg)).drop 0) a0 (a1.getD (Int.toNat Bg) default)) fun o5=>Cqx L n K a1 Bg a0 Ag o3 ih o5))
theorem Cl6(a1:List Ah)(a0:Ad):∀n,Bur L n K a1 a0:=lE (fun _=>rfl) fun n v ih=>eE (Wk L a1 a0 (fun Ag Bg=>re (ih (Ag,Bg))) v.1 v.2 (fun Bg Ag=>ho (Clg L (B7n L n K a0 a1 Ag Bg) a0.Params a0 (a1.getD (Int.toNat Bg) default)) fun o3=>Cqv L n K a0 a1 Bg Ag ih o3))
def R2 [An A Int](a1:List Ah)(o7:Nat×Cp):A:=
 (sl o7.1 [(lf o7.2.1),
 (bd (j6 L a1) fun r8=>
 (cn (decide (r8 > 200))
 (lf 6)
 (lf 0)))])
def B7q:Be:=(Ax 0 (Bk (EV (O8 L) L 9 c8.x.r) (C0 Tryz.prog (RS Tryz.f8) kk)))
theorem Cqy(a1:List Ah)(a0:Ad)(o7:Nat×Cp):kX [.ret,.exit 0] (Bsa a1 a0) (B7q L kk) o7=ob (R2 L a1 o7) (kQ I kk):=eE (R2 L a1 o7)
def Wm [An A Int](a0:Ad)(a1:List Ah)(nx7:A):A:=
 (bd (Tb L a0) fun r1=>
 (cn (r1 != 0)
 (lf r1)
 (cn ((a1.length:Int) == 0)
 (lf 7)
 (cn (decide ((a1.length:Int) > 6))
 (lf 6)
 nx7))))
def Aro [An A Int](a0:Ad)(a1:List Ah):A:=Wm L a0 a1 (bd (Hf L a1 a0 L 0 0) fun o7=>R2 L a1 o7)
def W1(a0:Ad)(a1:List Ah):Option Int:=Aro L a0 a1
def X8:Gh:=E2 I 8 C6 Bs6 (W1 L) fun a0 a1 r h=>hF Tryz.func8 (C:=O8 L) (oS _) L (fun kk=>eE (Wm L a0 a1 (ho (Cl6 L (B7q L kk) a1 a0 L (0,0)) fun o7=>Cqy L kk a1 a0 o7))) h
end
end Go.Proofs.YtfencmicmnhglaaGreat.Ev
