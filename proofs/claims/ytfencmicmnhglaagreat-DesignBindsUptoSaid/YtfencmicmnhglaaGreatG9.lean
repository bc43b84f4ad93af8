import Derived.Test.YtfencmicmnhglaaGreatG3
import Derived.Test.YtfencmicmnhglaaGreatG4
import Derived.Test.YtfencmicmnhglaaGreatG7
import Derived.Test.YtfencmicmnhglaaGreatG8
namespace Go.Proofs.YtfencmicmnhglaaGreat.Ev
open Go An
set_option maxRecDepth 100000
set_option maxHeartbeats 4000000
set_option linter.unusedVariables false
set_option linter.unusedSimpArgs false
set_option linter.unnecessarySimpa false
noncomputable section
variable {A:Type} (L n:Nat) (kk:Il) (K:Br) (k:Bn)
def Biw(F:Aj→(List Ac)→Option Int):Prop:=∀y0 y1 r,F y0 y1=some r→Ho Tryz.prog 68 [Dt.en y0,Aib.en y1] I r
def c68:=CC Tryz.f68
def O68(Hv:Aj→(List Ac)→Option Int)(L:Nat):Bq:=(orc 68 (A2 I Dt Aib Hv) (oL [Bp3 L]))
theorem s68(Hv:Aj→(List Ac)→Option Int)(Brn:Biw Hv)(L:Nat):Gd Tryz.prog (O68 Hv L):=(M5 (a2 _ Brn) (oS [Bp3 L]))
def Bhq(a0:Aj)(a1:List Ac)(v:D2):St:=⟨[(0,.ref (F1 a0)),(1,.any),(4,I v.1),(10,lv (.t99 a1)),(11,I (a1.length:Int)),(12,I v.2)],[],0⟩
def Kn [An A Ki](Hv:Aj→(List Ac)→Option Int)(L:Nat)(a0:Aj)(a1:List Ac)(rec:Int→Int→A)(Cz:Int)(Kz:Int):A:=
 (lw Kz a1
 (bd (Kt L a0 (Ac.cp (a1.getD (Int.toNat Kz) default))) fun r1=>
 (cn (r1 != 0)
 (lf (0,r1,Kz))
 (bd (Hv a0 ((a1.getD (Int.toNat Kz) default).Body)) fun r2=>
 (cn (r2 != 0)
 (lf (0,r2,Kz))
 (bd (Hv a0 ((a1.getD (Int.toNat Kz) default).Else)) fun r3=>
 (cn (r3 != 0)
 (lf (0,r3,Kz))
 (rec Cz (Dp (Kz+1)))))))))
 (lf (1,Cz,Kz)))
def Ec(Hv:Aj→(List Ac)→Option Int)(L:Nat)(a0:Aj)(a1:List Ac):Nat→Int→Int→Option Ki
 |0,_,_=>none
 |n+1,Cz,Kz=>Kn Hv L a0 a1 (Ec Hv L a0 a1 n) Cz Kz
theorem Bsx(Hv:Aj→(List Ac)→Option Int)(L:Nat)(K:Br)(a0:Aj)(a1:List Ac):LP (EV (O68 Hv L) L 9 c68.u.l.u.l.l) [0,1,4,10,11,12] [] (Bhq a0 a1) [.ret,.exit 0] (fun n v=>Ec Hv L a0 a1 n v.1 v.2) K:=lE (fun _=>rfl) fun n v ih=>eE (Kn Hv L a0 a1 (fun Cz Kz=>re (ih (Cz,Kz))) v.1 v.2)
def Hi [An A Int](Hv:Aj→(List Ac)→Option Int)(L:Nat)(o4:Nat×D2):A:=
 (sl o4.1 [(lf o4.2.1),
 (lf 0)])
def Bf9(Hv:Aj→(List Ac)→Option Int)(L:Nat)(kk:Il):Br:=(Ba 0 (Bg (EV (O68 Hv L) L 9 c68.u.r) (Gu Tryz.prog (RS Tryz.f68) kk)))
theorem B1z(Hv:Aj→(List Ac)→Option Int)(L:Nat)(kk:Il)(a0:Aj)(a1:List Ac)(o4:Nat×D2):kX [.ret,.exit 0] (Bhq a0 a1) (Bf9 Hv L kk) o4=ob (Hi Hv L o4) (kQ I kk):=eE (Hi Hv L o4)
def Zr [An A Int](Hv:Aj→(List Ac)→Option Int)(L:Nat)(a0:Aj)(a1:List Ac):A:=(bd (Ec Hv L a0 a1 L 0 0) fun o4=>Hi Hv L o4)
def Sz(Hv:Aj→(List Ac)→Option Int)(L:Nat)(a0:Aj)(a1:List Ac):Option Int:=Zr Hv L a0 a1
theorem b68(Hv:Aj→(List Ac)→Option Int)(Brn:Biw Hv)(L:Nat):Biw (Sz Hv L):=fun a0 a1 r h=>hF Tryz.func68 (s68 Hv Brn L) L (fun kk=>eE ((ho (Bsx Hv L (Bf9 Hv L kk) a0 a1 L (0,0)) fun o4=>B1z Hv L kk a0 a1 o4))) h
def Dx:Nat→Aj→(List Ac)→Option Int
 |0,_,_=>none
 |L+1,a0,a1=>Sz (Dx L) L a0 a1
theorem Brk(L:Nat):Biw (Dx L):=by
 induction L with
 |zero=>exact fun _ _ _ h=>(by cases h)
 |succ L ih=>
  have i68:=ih
  exact b68 (Dx L) i68 L
def X68(L:Nat):N2:=E2 I 68 Dt Aib (Dx L) (Brk L)
def Ab5 [An A Int](a0:Ad)(a1:Int)(a2:List Ap)(a3:List Ac):A:=
 (bd (X1 L a3) fun r1=>
 (cn (r1 != 0)
 (lf r1)
 (jp (.cn (decide (a1 < 0))
 (.lf true)
 (.lf (decide (a1≥(a0.Sites.length:Int))))) (fun b2=>
 (cn b2
 (lf 2)
 (gi a1 a0.Sites
 (bd (Dx L (⟨a0,a1,(⟨a0.Params,a2,(a0.Sites.getD (Int.toNat a1) default)⟩:Bf)⟩:Aj) a3) fun r3=>
 (lf r3))))))))
def Qb(a0:Ad)(a1:Int)(a2:List Ap)(a3:List Ac):Option Int:=Ab5 L a0 a1 a2 a3
def X44:N2:=E4 I 44 Ml (cI .i64) Bof Aib (Qb L) fun a0 a1 a2 a3 r h=>hF Tryz.func44 (oS [X67 L,X68 L]) L (fun kk=>eE (Ab5 L a0 a1 a2 a3)) h
def c24:=CC Tryz.f24
def O24:Bq:=oL [X43 L,X44 L]
def Bhj(Al:Int)(a0:Ad)(v:D2):St:=⟨[(0,.any),(1,.loc 1 0),(2,I v.1),(3,.any),(4,I Al),(5,.loc 5 0),(16,lv (.t55 a0.Sites)),(17,I (a0.Sites.length:Int)),(18,I Al),(24,lv (.t60 ((a0.Sites.getD (Int.toNat Al) default).Routines))),(25,I (((a0.Sites.getD (Int.toNat Al) default).Routines).length:Int)),(26,I v.2)],[(1,Ar a0),(5,(Ae (a0.Sites.getD (Int.toNat Al) default)))],0⟩
def Ta [An A Ki](Al:Int)(a0:Ad)(rec:Int→Int→A)(Cv:Int)(Ajl:Int):A:=
 (lw Ajl ((a0.Sites.getD (Int.toNat Al) default).Routines)
 (gq ((0+((((a0.Sites.getD (Int.toNat Al) default).Routines).getD (Int.toNat Ajl) default).Params).length)*24≤140737488355328)
 (gq (0+((((a0.Sites.getD (Int.toNat Al) default).Routines).getD (Int.toNat Ajl) default).Params).length≤maxLen)
 (gq ((((((a0.Sites.getD (Int.toNat Al) default).Routines).getD (Int.toNat Ajl) default).Params).length+((((a0.Sites.getD (Int.toNat Al) default).Routines).getD (Int.toNat Ajl) default).Locals).length)*24≤140737488355328)
 (gq (((((a0.Sites.getD (Int.toNat Al) default).Routines).getD (Int.toNat Ajl) default).Params).length+((((a0.Sites.getD (Int.toNat Al) default).Routines).getD (Int.toNat Ajl) default).Locals).length≤maxLen)
 (bd (Qb L a0 Al ((((a0.Sites.getD (Int.toNat Al) default).Routines).getD (Int.toNat Ajl) default).Params++(((a0.Sites.getD (Int.toNat Al) default).Routines).getD (Int.toNat Ajl) default).Locals) ((((a0.Sites.getD (Int.toNat Al) default).Routines).getD (Int.toNat Ajl) default).Body)) fun r2=>
 (cn (r2 != 0)
 (lf (0,r2,Ajl))
 (rec Cv (Dp (Ajl+1)))))))))
 (lf (1,Cv,Ajl)))
def Hc(L:Nat)(Al:Int)(a0:Ad):Nat→Int→Int→Option Ki
 |0,_,_=>none
 |n+1,Cv,Ajl=>Ta L Al a0 (Hc L Al a0 n) Cv Ajl
theorem Bsh(Al:Int)(a0:Ad):LP (EV (O24 L) L 9 c24.w.l.u.l.l.w.l.l.w.l.l) [0,1,2,3,4,5,16,17,18,24,25,26] [1,5] (Bhj Al a0) [.ret,.exit 2] (fun n v=>Hc L Al a0 n v.1 v.2) K:=lE (fun _=>rfl) fun n v ih=>eE (Ta L Al a0 (fun Cv Ajl=>re (ih (Cv,Ajl))) v.1 v.2)
def A5l(a0:Ad)(v:D2):St:=⟨[(0,.any),(1,.loc 1 0),(2,I v.1),(3,.any),(16,lv (.t55 a0.Sites)),(17,I (a0.Sites.length:Int)),(18,I v.2)],[(1,Ar a0)],0⟩
def Pr [An A Ki](L:Nat)(Al:Int)(rec:Int→Int→A)(o3:Nat×D2):A:=
 (sl o3.1 [(lf (0,o3.2.1,Al)),
 (rec o3.2.1 (Dp (Al+1)))])
def Ts [An A Ki](L:Nat)(a0:Ad)(rec:Int→Int→A)(Au:Int)(Al:Int)(nx1:Int→Int→A):A:=
 (lw Al a0.Sites
 (nx1 Al Au)
 (lf (1,Au,Al)))
def Yz [An A Ki](a0:Ad)(rec:Int→Int→A)(Au:Int)(Al:Int):A:=Ts L a0 rec Au Al (fun Al Au=>bd (Hc L Al a0 L Au 0) fun o3=>Pr L Al rec o3)
def Hb(L:Nat)(a0:Ad):Nat→Int→Int→Option Ki
 |0,_,_=>none
 |n+1,Au,Al=>Yz L a0 (Hb L a0 n) Au Al
def Bda(a0:Ad):Prop:=LI (EV (O24 L) L 9 c24.w.l.u.l.l) [0,1,2,3,16,17,18] [1] (A5l a0) [.ret,.exit 0] (fun n v=>Hb L a0 n v.1 v.2) K n
def Bfu:Br:=(Ba 2 (Ba 1 (Bg (EV (O24 L) L 9 c24.w.l.u.l.l.w.r) (Ii (Kw (EV (O24 L) L 9 c24.w.l.u.l.l) [0,1,2,3,16,17,18] [1] n) [0,1,2,3,16,17,18] [1] K))))
theorem B1k(Al:Int)(a0:Ad)(ih:Bda L n K a0)(o3:Nat×D2):kX [.ret,.exit 2] (Bhj Al a0) (Bfu L n K) o3=ob (Pr L Al (Hb L a0 n) o3) (kX [.ret,.exit 0] (A5l a0) K):=eE (Pr L Al (fun Au Al=>re (ih (Au,Al))) o3)
theorem Bsg(a0:Ad):∀n,Bda L n K a0:=lE (fun _=>rfl) fun n v ih=>eE (Ts L a0 (fun Au Al=>re (ih (Au,Al))) v.1 v.2 (fun Al Au=>ho (Bsh L (Bfu L n K) Al a0 L (Au,0)) fun o3=>B1k L n K Al a0 ih o3))
def Ps [An A Int](L:Nat)(o4:Nat×D2):A:=
 (sl o4.1 [(lf o4.2.1),
 (lf 0)])
def Bfv:Br:=(Ba 0 (Bg (EV (O24 L) L 9 c24.w.r) (Gu Tryz.prog (RS Tryz.f24) kk)))
theorem B1l(a0:Ad)(o4:Nat×D2):kX [.ret,.exit 0] (A5l a0) (Bfv L kk) o4=ob (Ps L o4) (kQ I kk):=eE (Ps L o4)
def Tt [An A Int](a0:Ad)(nx2:A):A:=
 (bd (u3 L a0) fun r1=>
 (cn (r1 != 0)
 (lf r1)
 nx2))
def Ah4 [An A Int](a0:Ad):A:=Tt L a0 (bd (Hb L a0 L 0 0) fun o4=>Ps L o4)
def Ks(a0:Ad):Option Int:=Ah4 L a0
def X24:N2:=E1 I 24 Ml (Ks L) fun a0 r h=>hF Tryz.func24 (C:=O24 L) (oS _) L (fun kk=>eE (Tt L a0 (ho (Bsg L (Bfv L kk) a0 L (0,0)) fun o4=>B1l L kk a0 o4))) h
def Adn [An A Bool](a0:Int)(a1:Int):A:=
 (cn (a0 == 2)
 (jp (.cn (a1 == 0)
 (.lf true)
 (.lf (a1 == 1))) (fun b1=>
 (lf b1)))
 (cn (a0 == 3)
 (jp (.cn (decide (a1≥0))
 (.lf (decide (a1≤1000000000)))
 (.lf false)) (fun b2=>
 (lf b2)))
 (bd (X0 L a1) fun r3=>
 (lf r3))))
def V7(a0:Int)(a1:Int):Option Bool:=Adn L a0 a1
def X46:N2:=E2 B 46 (cI .i64) (cI .i64) (V7 L) fun a0 a1 r h=>hF Tryz.func46 (oS [X59 L]) L (fun kk=>eE (Adn L a0 a1)) h
def c29:=CC Tryz.f29
def O29:Bq:=oL [X46 L]
def Bhk(a0:Int)(a1:List Int)(v:D2):St:=⟨[(0,I a0),(1,lv (.t3 a1)),(4,I v.1),(13,lv (.t3 a1)),(14,I (a1.length:Int)),(15,I v.2)],[],0⟩
def Rr [An A Ki](a0:Int)(a1:List Int)(rec:Int→Int→A)(Bc:Int)(Ih:Int):A:=
 (lw Ih a1
 (bd (V7 L a0 (a1.getD (Int.toNat Ih) default)) fun r1=>
 (cn (!r1)
 (lf (0,2,Ih))
 (jb (.cn (decide (Ih > 0))
 (.gq (0≤(Dp (Ih - 1)))
 (.gq ((Dp (Ih - 1)) < (a1.length:Int))
 (.lf (decide ((a1.getD (Int.toNat Ih) default)≤(a1.getD (Int.toNat (Dp (Ih - 1))) default))))))
 (.lf false)) (fun b2=>
 (cn b2
 (lf (0,12,Ih))
 (rec Bc (Dp (Ih+1))))))))
 (lf (1,Bc,Ih)))
def Hy(L:Nat)(a0:Int)(a1:List Int):Nat→Int→Int→Option Ki
 |0,_,_=>none
 |n+1,Bc,Ih=>Rr L a0 a1 (Hy L a0 a1 n) Bc Ih
theorem Bsi(a0:Int)(a1:List Int):LP (EV (O29 L) L 9 c29.w.u.l.u.l.l) [0,1,4,13,14,15] [] (Bhk a0 a1) [.ret,.exit 0] (fun n v=>Hy L a0 a1 n v.1 v.2) K:=lE (fun _=>rfl) fun n v ih=>eE (Rr L a0 a1 (fun Bc Ih=>re (ih (Bc,Ih))) v.1 v.2)
def Ng [An A Int](L:Nat)(o3:Nat×D2):A:=
 (sl o3.1 [(lf o3.2.1),
 (lf 0)])
def Bfw:Br:=(Ba 0 (Bg (EV (O29 L) L 9 c29.w.u.r) (Gu Tryz.prog (RS Tryz.f29) kk)))
theorem B1m(a0:Int)(a1:List Int)(o3:Nat×D2):kX [.ret,.exit 0] (Bhk a0 a1) (Bfw L kk) o3=ob (Ng L o3) (kQ I kk):=eE (Ng L o3)
def R2 [An A Int](L:Nat)(a0:Int)(a1:List Int)(nx1:A):A:=
 (cn ((a1.length:Int) == 0)
 (lf 7)
 (cn (decide ((a1.length:Int) > 10))
 (lf 6)
 nx1))
def Agv [An A Int](a0:Int)(a1:List Int):A:=R2 L a0 a1 (bd (Hy L a0 a1 L 0 0) fun o3=>Ng L o3)
def R7(a0:Int)(a1:List Int):Option Int:=Agv L a0 a1
def X29:N2:=E2 I 29 (cI .i64) cl3 (R7 L) fun a0 a1 r h=>hF Tryz.func29 (C:=O29 L) (oS _) L (fun kk=>eE (R2 L a0 a1 (ho (Bsi L (Bfw L kk) a0 a1 L (0,0)) fun o3=>B1m L kk a0 a1 o3))) h
def Ak0 [An A Int](L:Nat)(a0:Int):A:=
 (lf (if (if 1000000000000 < a0 then 1000000000000 else a0) > (-1000000000000) then (if 1000000000000 < a0 then 1000000000000 else a0) else (-1000000000000)))
def Afs(a0:Int):Option Int:=Ak0 L a0
def X52:N2:=E1 I 52 (cI .i64) (Afs L) fun a0 r h=>hF Tryz.func52 (oS []) L (fun kk=>eE (Ak0 L a0)) h
def Ak1 [An A Int](L:Nat)(a0:Int):A:=
 (lf (if (Dp (0 - a0)) > a0 then (Dp (0 - a0)) else a0))
def Aft(a0:Int):Option Int:=Ak1 L a0
def X54:N2:=E1 I 54 (cI .i64) (Aft L) fun a0 r h=>hF Tryz.func54 (oS []) L (fun kk=>eE (Ak1 L a0)) h
def Afw [An A D2](L:Nat)(a0:Int)(a1:Int):A:=
 (lf ((IntKind.wrap .u64 ((IntKind.wrap .u64 ((IntKind.wrap .u64 ((Int.fdiv a0 (2 ^ 32))*(Int.fdiv a1 (2 ^ 32))))+(Int.fdiv (IntKind.wrap .u64 ((IntKind.wrap .u64 ((Int.fdiv a0 (2 ^ 32))*(IntKind.wrap .u64 (((BitVec.ofInt 64 a1 &&& BitVec.ofInt 64 4294967295).toNat:Int)))))+(Int.fdiv (IntKind.wrap .u64 ((IntKind.wrap .u64 (((BitVec.ofInt 64 a0 &&& BitVec.ofInt 64 4294967295).toNat:Int)))*(IntKind.wrap .u64 (((BitVec.ofInt 64 a1 &&& BitVec.ofInt 64 4294967295).toNat:Int))))) (2 ^ 32)))) (2 ^ 32))))+(Int.fdiv (IntKind.wrap .u64 ((IntKind.wrap .u64 (((BitVec.ofInt 64 (IntKind.wrap .u64 ((IntKind.wrap .u64 ((Int.fdiv a0 (2 ^ 32))*(IntKind.wrap .u64 (((BitVec.ofInt 64 a1 &&& BitVec.ofInt 64 4294967295).toNat:Int)))))+(Int.fdiv (IntKind.wrap .u64 ((IntKind.wrap .u64 (((BitVec.ofInt 64 a0 &&& BitVec.ofInt 64 4294967295).toNat:Int)))*(IntKind.wrap .u64 (((BitVec.ofInt 64 a1 &&& BitVec.ofInt 64 4294967295).toNat:Int))))) (2 ^ 32)))) &&& BitVec.ofInt 64 4294967295).toNat:Int)))+(IntKind.wrap .u64 ((IntKind.wrap .u64 (((BitVec.ofInt 64 a0 &&& BitVec.ofInt 64 4294967295).toNat:Int)))*(Int.fdiv a1 (2 ^ 32)))))) (2 ^ 32)))),(IntKind.wrap .u64 (a0*a1))))
def Abj(a0:Int)(a1:Int):Option D2:=Afw L a0 a1
def X53:N2:=E2 (fun(x:D2)=> .tup [V .u64 x.1,V .u64 x.2]) 53 (cI .u64) (cI .u64) (Abj L) fun a0 a1 r h=>hF Tryz.func53 (oS []) L (fun kk=>eE (Afw L a0 a1)) h
def Aoj [An A Int](a0:Int)(a1:Int):A:=
 (bd (Afs L a0) fun r1=>
 (bd (Afs L a1) fun r2=>
 (bd (Aft L r1) fun r3=>
 (bd (Aft L r2) fun r4=>
 (bd (Abj L (IntKind.wrap .u64 (r3)) (IntKind.wrap .u64 (r4))) fun r5=>
 (jp (.cn (r5.1 == 0)
 (.lf (decide (r5.2 < 1000000000000)))
 (.lf false)) (fun b6=>
 (cn b6
 (cn (!((decide (r1 < 0)) == (decide (r2 < 0))))
 (lf (Dp (0 - (Dp (r5.2)))))
 (lf (Dp (r5.2))))
 (cn (!((decide (r1 < 0)) == (decide (r2 < 0))))
 (lf (-1000000000000))
 (lf 1000000000000))))))))))
def Ad6(a0:Int)(a1:Int):Option Int:=Aoj L a0 a1
def X32:N2:=E2 I 32 (cI .i64) (cI .i64) (Ad6 L) fun a0 a1 r h=>hF Tryz.func32 (oS [X52 L,X53 L,X54 L]) L (fun kk=>eE (Aoj L a0 a1)) h
def c10:=CC Tryz.f10
def O10:Bq:=oL [X32 L]
def Bha(a0:List Af)(v:D2):St:=⟨[(0,.any),(2,I 0),(3,I v.1),(9,lv (.t46 a0)),(10,I (a0.length:Int)),(11,I v.2)],[],0⟩
def Um [An A Ki](a0:List Af)(rec:Int→Int→A)(Ao:Int)(Bi:Int):A:=
 (lw Bi a0
 (bd (Ad6 L Ao (((a0.getD (Int.toNat Bi) default).Levels).length:Int)) fun r1=>
 (rec r1 (Dp (Bi+1))))
 (lf (0,Ao,Bi)))
def Jy(L:Nat)(a0:List Af):Nat→Int→Int→Option Ki
 |0,_,_=>none
 |n+1,Ao,Bi=>Um L a0 (Jy L a0 n) Ao Bi
theorem Br4(a0:List Af):LP (EV (O10 L) L 9 c10.w.u.l.u.l.l) [0,2,3,9,10,11] [] (Bha a0) [.exit 0] (fun n v=>Jy L a0 n v.1 v.2) K:=lE (fun _=>rfl) fun n v ih=>eE (Um L a0 (fun Ao Bi=>re (ih (Ao,Bi))) v.1 v.2)
def Qq [An A Int](L:Nat)(o2:Nat×D2):A:=
 (sl o2.1 [(lf o2.2.1)])
def Bfi:Br:=(Ba 0 (Bg (EV (O10 L) L 9 c10.w.u.r) (Gu Tryz.prog (RS Tryz.f10) kk)))
theorem B08(a0:List Af)(o2:Nat×D2):kX [.exit 0] (Bha a0) (Bfi L kk) o2=ob (Qq L o2) (kQ I kk):=eE (Qq L o2)
def Vi [An A Int](L:Nat)(a0:List Af)(nx1:A):A:=
 (cn ((a0.length:Int) == 0)
 (lf 0)
 nx1)
def Aka [An A Int](a0:List Af):A:=Vi L a0 (bd (Jy L a0 L 1 0) fun o2=>Qq L o2)
def Py(a0:List Af):Option Int:=Aka L a0
def X10:N2:=E1 I 10 A4g (Py L) fun a0 r h=>hF Tryz.func10 (C:=O10 L) (oS _) L (fun kk=>eE (Vi L a0 (ho (Br4 L (Bfi L kk) a0 L (1,0)) fun o2=>B08 L kk a0 o2))) h
def c27:=CC Tryz.f27
def c45:=CC Tryz.f45
def c8:=CC Tryz.f8
def O8:Bq:=oL [X10 L,X24 L,X29 L]
def Bou:Br:=(Ba 1 (Bg (EV (O8 L) L 9 c8.x.l.u.l.l.w.r) (Ii (Kw (EV (O8 L) L 9 c8.x.l.u.l.l) [0,1,2,4,5,21,22,23] [2] n) [0,1,2,4,5,21,22,23] [2] K)))
def Bpi(p1_0:List Ah)(p1_1:Ad)(p1_2:Af)(v:D2):St:=⟨[(0,lv (.t77 p1_0)),(1,.clo 26 0 [.loc 7 0]),(4,I v.1),(7,I (p1_0.length:Int)),(8,I v.2)],[(2,Ar p1_1),(7,Dy p1_2)],8⟩
def S6 [An A Ki](L:Nat)(p1_0:List Ah)(p1_1:Ad)(p1_2:Af)(rec:Int→Int→A)(Dz:Int)(B7:Int):A:=
 (lw B7 p1_0
 (cn (((p1_0.getD (Int.toNat B7) default).Name).toList == p1_2.Name.toList)
 (lf (0,B7,B7))
 (rec Dz (Dp (B7+1))))
 (lf (1,Dz,B7)))
def Iq(L:Nat)(p1_0:List Ah)(p1_1:Ad)(p1_2:Af):Nat→Int→Int→Option Ki
 |0,_,_=>none
 |n+1,Dz,B7=>S6 L p1_0 p1_1 p1_2 (Iq L p1_0 p1_1 p1_2 n) Dz B7
theorem Bzq(p1_0:List Ah)(p1_1:Ad)(p1_2:Af):LP (EV (O8 L) L 8 c25.u.l.u.l.l) [0,1,4,7,8] [2,7] (Bpi p1_0 p1_1 p1_2) [.ret,.exit 0] (fun n v=>Iq L p1_0 p1_1 p1_2 n v.1 v.2) K:=lE (fun _=>rfl) fun n v ih=>eE (S6 L p1_0 p1_1 p1_2 (fun Dz B7=>re (ih (Dz,B7))) v.1 v.2)
def Bdn(p1_0:List Ah)(p1_1:Ad)(p1_2:Af)(k:Bn):Int→Prop:=fun o=>k (I o) [(2,Ar p1_1),(7,Dy p1_2)]
def Tb [An A Int](L:Nat)(o2:Nat×D2):A:=
 (sl o2.1 [(lf o2.2.1),
 (lf (-1))])
def Boo:Br:=(Ba 0 (Bg (EV (O8 L) L 8 c25.u.r) (Dq Tryz.prog (RS Tryz.f25) k)))
theorem B4h(p1_0:List Ah)(p1_1:Ad)(p1_2:Af)(o2:Nat×D2):kX [.ret,.exit 0] (Bpi p1_0 p1_1 p1_2) (Boo L k) o2=ob (Tb L o2) (Bdn p1_0 p1_1 p1_2 k):=eE (Tb L o2)
def Ac6 [An A Int](p1_0:List Ah)(p1_1:Ad)(p1_2:Af):A:=(bd (Iq L p1_0 p1_1 p1_2 L 0 0) fun o2=>Tb L o2)
def Ov(p1_0:List Ah)(p1_1:Ad)(p1_2:Af):Option Int:=Ac6 L p1_0 p1_1 p1_2
theorem By3(p1_0:List Ah)(p1_1:Ad)(p1_2:Af):YO (O8 L) L 9 25 [lv (.t77 p1_0),.clo 26 0 [.loc 7 0]] [(2,Ar p1_1),(7,Dy p1_2)] k=ob (Ov L p1_0 p1_1 p1_2) (Bdn p1_0 p1_1 p1_2 k):=(Cr _ _ _ jn4 _ _ _ _ _ _ _).trans (eE ((ho (Bzq L (Boo L k) p1_0 p1_1 p1_2 L (0,0)) fun o2=>B4h L k p1_0 p1_1 p1_2 o2)))
def Bpj(p2_0:List Af)(p2_1:Ad)(p2_2:Af)(v:D2):St:=⟨[(0,lv (.t46 p2_0)),(1,.clo 28 0 [.loc 7 0]),(4,I v.1),(7,I (p2_0.length:Int)),(8,I v.2)],[(2,Ar p2_1),(7,Dy p2_2)],8⟩
def S7 [An A Ki](L:Nat)(p2_0:List Af)(p2_1:Ad)(p2_2:Af)(rec:Int→Int→A)(Pu:Int)(E7:Int):A:=
 (lw E7 p2_0
 (cn (((p2_0.getD (Int.toNat E7) default).Name).toList == p2_2.Name.toList)
 (lf (0,E7,E7))
 (rec Pu (Dp (E7+1))))
 (lf (1,Pu,E7)))
def Ir(L:Nat)(p2_0:List Af)(p2_1:Ad)(p2_2:Af):Nat→Int→Int→Option Ki
 |0,_,_=>none
 |n+1,Pu,E7=>S7 L p2_0 p2_1 p2_2 (Ir L p2_0 p2_1 p2_2 n) Pu E7
theorem Bzr(p2_0:List Af)(p2_1:Ad)(p2_2:Af):LP (EV (O8 L) L 7 c45.u.l.u.l.l) [0,1,4,7,8] [2,7] (Bpj p2_0 p2_1 p2_2) [.ret,.exit 0] (fun n v=>Ir L p2_0 p2_1 p2_2 n v.1 v.2) K:=lE (fun _=>rfl) fun n v ih=>eE (S7 L p2_0 p2_1 p2_2 (fun Pu E7=>re (ih (Pu,E7))) v.1 v.2)
def Bdo(p2_0:List Af)(p2_1:Ad)(p2_2:Af)(k:Bn):Int→Prop:=fun o=>k (I o) [(2,Ar p2_1),(7,Dy p2_2)]
def Td [An A Int](L:Nat)(o4:Nat×D2):A:=
 (sl o4.1 [(lf o4.2.1),
 (lf (-1))])
def Boq:Br:=(Ba 0 (Bg (EV (O8 L) L 7 c45.u.r) (Dq Tryz.prog (RS Tryz.f45) k)))
theorem B4j(p2_0:List Af)(p2_1:Ad)(p2_2:Af)(o4:Nat×D2):kX [.ret,.exit 0] (Bpj p2_0 p2_1 p2_2) (Boq L k) o4=ob (Td L o4) (Bdo p2_0 p2_1 p2_2 k):=eE (Td L o4)
def Ac7 [An A Int](p2_0:List Af)(p2_1:Ad)(p2_2:Af):A:=(bd (Ir L p2_0 p2_1 p2_2 L 0 0) fun o4=>Td L o4)
def Ow(p2_0:List Af)(p2_1:Ad)(p2_2:Af):Option Int:=Ac7 L p2_0 p2_1 p2_2
theorem By4(p2_0:List Af)(p2_1:Ad)(p2_2:Af):YO (O8 L) L 8 45 [lv (.t46 p2_0),.clo 28 0 [.loc 7 0]] [(2,Ar p2_1),(7,Dy p2_2)] k=ob (Ow L p2_0 p2_1 p2_2) (Bdo p2_0 p2_1 p2_2 k):=(Cr _ _ _ jn4 _ _ _ _ _ _ _).trans (eE ((ho (Bzr L (Boq L k) p2_0 p2_1 p2_2 L (0,0)) fun o4=>B4j L k p2_0 p2_1 p2_2 o4)))
def Bbb(a1:List Af)(a0:Ad)(v:D2):St:=⟨[(0,.any),(1,lv (.t46 a1)),(2,.loc 2 0),(4,I v.1),(5,.any),(21,lv (.t46 a1)),(22,I (a1.length:Int)),(23,I v.2)],[(2,Ar a0)],0⟩
def O0 [An A Ki](Bi:Int)(o3:Int)(a0:Ad)(a1:List Af)(Ao:Int)(rec:Int→Int→A)(o5:Int):A:=
 (cn (decide (o5≥0))
 (lf (0,4,Bi))
 (gi o3 a0.Params
 (bd (R7 L ((a0.Params.getD (Int.toNat o3) default).Type_) ((a1.getD (Int.toNat Bi) default).Levels)) fun r6=>
 (cn (r6 != 0)
 (lf (0,r6,Bi))
 (rec Ao (Dp (Bi+1)))))))
def Tj [An A Ki](L:Nat)(Bi:Int)(a1:List Af)(Ao:Int)(a0:Ad)(rec:Int→Int→A)(o3:Int)(nx6:Int→Int→Int→A):A:=
 (cn (decide (o3 < 0))
 (lf (0,5,Bi))
 (gq (0≤0)
 (gq (0≤Bi)
 (gq ((Bi:Int)≤(a1.length:Int))
 (gq (((a1.length:Int):Int)≤(a1.length:Int))
 (nx6 Bi Ao o3))))))
def Tc [An A Ki](Bi:Int)(a1:List Af)(Ao:Int)(a0:Ad)(rec:Int→Int→A)(o3:Int):A:=Tj L Bi a1 Ao a0 rec o3 (fun Bi Ao o3=>bd (Ow L ((a1.take (Int.toNat Bi)).drop 0) a0 (a1.getD (Int.toNat Bi) default)) fun o5=>O0 L Bi o3 a0 a1 Ao rec o5)
def Ti [An A Ki](L:Nat)(a1:List Af)(a0:Ad)(rec:Int→Int→A)(Ao:Int)(Bi:Int)(nx3:Int→Int→A):A:=
 (lw Bi a1
 (nx3 Bi Ao)
 (lf (1,Ao,Bi)))
def Yx [An A Ki](a1:List Af)(a0:Ad)(rec:Int→Int→A)(Ao:Int)(Bi:Int):A:=Ti L a1 a0 rec Ao Bi (fun Bi Ao=>bd (Ov L a0.Params a0 (a1.getD (Int.toNat Bi) default)) fun o3=>Tc L Bi a1 Ao a0 rec o3)
def Gb(L:Nat)(a1:List Af)(a0:Ad):Nat→Int→Int→Option Ki
 |0,_,_=>none
 |n+1,Ao,Bi=>Yx L a1 a0 (Gb L a1 a0 n) Ao Bi
def Bdk(a1:List Af)(a0:Ad):Prop:=LI (EV (O8 L) L 9 c8.x.l.u.l.l) [0,1,2,4,5,21,22,23] [2] (Bbb a1 a0) [.ret,.exit 0] (fun n v=>Gb L a1 a0 n v.1 v.2) K n
def Bor(a1:List Af)(Bi:Int)(a0:Ad)(Ao:Int)(o3:Int):Bn:=(Bu Tryz.prog (O8 L) (EI (O8 L) L 8) 2 (List.drop 3 c27.u.l.ops) ⟨[(6,.clo 28 0 [.loc 7 0]),(5,lv (.t46 ((a1.take (Int.toNat Bi)).drop 0))),(0,lv (.t46 ((a1.take (Int.toNat Bi)).drop 0))),(1,.clo 28 0 [.loc 7 0]),(4,B false)],[(2,Ar a0),(7,(Dy (a1.getD (Int.toNat Bi) default)))],8⟩ (some 7) (fun st9=>(Bg (EV (O8 L) L 8 c27.u.r) (Dq Tryz.prog (RS Tryz.f27) (Bu Tryz.prog (O8 L) (EI (O8 L) L 9) 0 (List.drop 5 c8.x.l.u.l.l.w.l.l.w.u.l.l.ops) ⟨[(37,.clo 28 0 [.loc 7 0]),(36,lv (.t46 ((a1.take (Int.toNat Bi)).drop 0))),(35,I Bi),(34,lv (.t46 a1)),(1,lv (.t46 a1)),(2,.loc 2 0),(4,I Ao),(6,I Bi),(7,.loc 7 0),(8,I o3),(21,lv (.t46 a1)),(22,I (a1.length:Int)),(23,I Bi),(24,B (decide (Bi < (a1.length:Int)))),(25,I Bi),(26,.ref (Dy (a1.getD (Int.toNat Bi) default))),(27,.agg (Dy (a1.getD (Int.toNat Bi) default))),(28,.loc 2 1),(29,lv (.t77 a0.Params)),(30,.clo 26 0 [.loc 7 0]),(31,I o3),(32,I o3),(33,B (decide (o3 < 0)))],[(2,Ar a0),(7,(Dy (a1.getD (Int.toNat Bi) default)))],0⟩ (some 38) (fun st9=>(Bg (EV (O8 L) L 9 c8.x.l.u.l.l.w.l.l.w.u.l.r) (Bg (EV (O8 L) L 9 c8.x.l.u.l.l.w.l.l.w.u.r) (Bou L n K))) .normal st9)))) .normal st9))
theorem B4k(a1:List Af)(Bi:Int)(a0:Ad)(Ao:Int)(o3:Int)(ih:Bdk L n K a1 a0)(o5:Int):Bdo ((a1.take (Int.toNat Bi)).drop 0) a0 (a1.getD (Int.toNat Bi) default) (Bor L n K a1 Bi a0 Ao o3) o5=ob (O0 L Bi o3 a0 a1 Ao (Gb L a1 a0 n) o5) (kX [.ret,.exit 0] (Bbb a1 a0) K):=eE (O0 L Bi o3 a0 a1 Ao (fun Ao Bi=>re (ih (Ao,Bi))) o5)
def Bop(a0:Ad)(a1:List Af)(Ao:Int)(Bi:Int):Bn:=(Bu Tryz.prog (O8 L) (EI (O8 L) L 9) 1 (List.drop 4 c8.x.l.u.l.l.w.l.l.u.l.ops) ⟨[(30,.clo 26 0 [.loc 7 0]),(29,lv (.t77 a0.Params)),(28,.loc 2 1),(1,lv (.t46 a1)),(2,.loc 2 0),(4,I Ao),(6,I Bi),(7,.loc 7 0),(21,lv (.t46 a1)),(22,I (a1.length:Int)),(23,I Bi),(24,B (decide (Bi < (a1.length:Int)))),(25,I Bi),(26,.ref (Dy (a1.getD (Int.toNat Bi) default))),(27,.agg (Dy (a1.getD (Int.toNat Bi) default)))],[(2,Ar a0),(7,(Dy (a1.getD (Int.toNat Bi) default)))],0⟩ (some 31) (fun st9=>(Bg (EV (O8 L) L 9 c8.x.l.u.l.l.w.l.l.u.r) (Bou L n K)) .normal st9))
theorem B4i(a0:Ad)(a1:List Af)(Bi:Int)(Ao:Int)(ih:Bdk L n K a1 a0)(o3:Int):Bdn a0.Params a0 (a1.getD (Int.toNat Bi) default) (Bop L n K a0 a1 Ao Bi) o3=ob (Tc L Bi a1 Ao a0 (Gb L a1 a0 n) o3) (kX [.ret,.exit 0] (Bbb a1 a0) K):=eE (Tj L Bi a1 Ao a0 (fun Ao Bi=>re (ih (Ao,Bi))) o3 (fun Bi Ao o3=>ho (By4 L (Bor L n K a1 Bi a0 Ao o3) ((a1.take (Int.toNat Bi)).drop 0) a0 (a1.getD (Int.toNat Bi) default)) fun o5=>B4k L n K a1 Bi a0 Ao o3 ih o5))
theorem Bzp(a1:List Af)(a0:Ad):∀n,Bdk L n K a1 a0:=lE (fun _=>rfl) fun n v ih=>eE (Ti L a1 a0 (fun Ao Bi=>re (ih (Ao,Bi))) v.1 v.2 (fun Bi Ao=>ho (By3 L (Bop L n K a0 a1 Ao Bi) a0.Params a0 (a1.getD (Int.toNat Bi) default)) fun o3=>B4i L n K a0 a1 Bi Ao ih o3))
def O1 [An A Int](a1:List Af)(o7:Nat×D2):A:=
 (sl o7.1 [(lf o7.2.1),
 (bd (Py L a1) fun r8=>
 (cn (decide (r8 > 200))
 (lf 6)
 (lf 0)))])
def Bos:Br:=(Ba 0 (Bg (EV (O8 L) L 9 c8.x.r) (Gu Tryz.prog (RS Tryz.f8) kk)))
theorem B4l(a1:List Af)(a0:Ad)(o7:Nat×D2):kX [.ret,.exit 0] (Bbb a1 a0) (Bos L kk) o7=ob (O1 L a1 o7) (kQ I kk):=eE (O1 L a1 o7)
def Tk [An A Int](a0:Ad)(a1:List Af)(nx7:A):A:=
 (bd (Ks L a0) fun r1=>
 (cn (r1 != 0)
 (lf r1)
 (cn ((a1.length:Int) == 0)
 (lf 7)
 (cn (decide ((a1.length:Int) > 6))
 (lf 6)
 nx7))))
def Ahy [An A Int](a0:Ad)(a1:List Af):A:=Tk L a0 a1 (bd (Gb L a1 a0 L 0 0) fun o7=>O1 L a1 o7)
def Xx(a0:Ad)(a1:List Af):Option Int:=Ahy L a0 a1
def X8:N2:=E2 I 8 Ml A4g (Xx L) fun a0 a1 r h=>hF Tryz.func8 (C:=O8 L) (oS _) L (fun kk=>eE (Tk L a0 a1 (ho (Bzp L (Bos L kk) a1 a0 L (0,0)) fun o7=>B4l L kk a1 a0 o7))) h
def c34:=CC Tryz.f34
def O34:Bq:=oL [X10 L]
def Bhl(p1_0:List Af)(v:D2):St:=⟨[(0,lv (.t46 p1_0)),(1,.clo 57 0 []),(4,I v.1),(7,I (p1_0.length:Int)),(8,I v.2)],[],0⟩
def Rs [An A Ki](L:Nat)(p1_0:List Af)(rec:Int→Int→A)(Ao:Int)(Al:Int):A:=
 (lw Al p1_0
 (cn ((((p1_0.getD (Int.toNat Al) default).Levels).length:Int) == 0)
 (lf (0,Al,Al))
 (rec Ao (Dp (Al+1))))
 (lf (1,Ao,Al)))
def Hz(L:Nat)(p1_0:List Af):Nat→Int→Int→Option Ki
 |0,_,_=>none
 |n+1,Ao,Al=>Rs L p1_0 (Hz L p1_0 n) Ao Al
theorem Bsj(p1_0:List Af):LP (EV (O34 L) L 7 c45.u.l.u.l.l) [0,1,4,7,8] [] (Bhl p1_0) [.ret,.exit 0] (fun n v=>Hz L p1_0 n v.1 v.2) K:=lE (fun _=>rfl) fun n v ih=>eE (Rs L p1_0 (fun Ao Al=>re (ih (Ao,Al))) v.1 v.2)
def A32(p1_0:List Af)(k:Bn):Int→Prop:=fun o=>k (I o) []
def Rv [An A Int](L:Nat)(o1:Nat×D2):A:=
 (sl o1.1 [(lf o1.2.1),
 (lf (-1))])
def Bfx:Br:=(Ba 0 (Bg (EV (O34 L) L 7 c45.u.r) (Dq Tryz.prog (RS Tryz.f45) k)))
theorem B1n(p1_0:List Af)(o1:Nat×D2):kX [.ret,.exit 0] (Bhl p1_0) (Bfx L k) o1=ob (Rv L o1) (A32 p1_0 k):=eE (Rv L o1)
def Acf [An A Int](p1_0:List Af):A:=(bd (Hz L p1_0 L 0 0) fun o1=>Rv L o1)
def Rp(p1_0:List Af):Option Int:=Acf L p1_0
theorem Brs(p1_0:List Af):YO (O34 L) L 8 45 [lv (.t46 p1_0),.clo 57 0 []] [] k=ob (Rp L p1_0) (A32 p1_0 k):=(Cr _ _ _ jn4 _ _ _ _ _ _ _).trans (eE ((ho (Bsj L (Bfx L k) p1_0 L (0,0)) fun o1=>B1n L k p1_0 o1)))
def Nh [An A Int](a0:List Af)(o2:Int):A:=
 (cn (decide (o2≥0))
 (lf 7)
 (jb (.cn (decide ((a0.length:Int) > 6))
 (.lf true)
 (.bd (Py L a0) fun r4=>
 (.lf (decide (r4 > 200))))) (fun b3=>
 (cn b3
 (lf 6)
 (lf 0)))))
def Bfy(a0:List Af):Bn:=(Bu Tryz.prog (O34 L) (EI (O34 L) L 8) 2 (List.drop 3 c27.u.l.ops) ⟨[(6,.clo 57 0 []),(5,lv (.t46 a0)),(0,lv (.t46 a0)),(1,.clo 57 0 []),(4,B false)],[],0⟩ (some 7) (fun st9=>(Bg (EV (O34 L) L 8 c27.u.r) (Dq Tryz.prog (RS Tryz.f27) (Bu Tryz.prog (O34 L) (EI (O34 L) L 9) 1 (List.drop 6 c34.u.l.l.ops) ⟨[(6,B false),(7,lv (.t46 a0)),(6,B false),(6,B ((a0.length:Int) == 0)),(5,B ((a0.length:Int) == 0)),(4,I (a0.length:Int)),(3,lv (.t46 a0)),(0,lv (.t46 a0)),(2,I 0)],[],0⟩ (some 8) (fun st9=>(Bg (EV (O34 L) L 9 c34.u.l.r) (Bg (EV (O34 L) L 9 c34.u.r) (Gu Tryz.prog (RS Tryz.f34) kk))) .normal st9)))) .normal st9))
theorem B1o(a0:List Af)(o2:Int):A32 a0 (Bfy L kk a0) o2=ob (Nh L a0 o2) (kQ I kk):=eE (Nh L a0 o2)
def R3 [An A Int](L:Nat)(a0:List Af)(nx3:A):A:=
 (cn ((a0.length:Int) == 0)
 (lf 7)
 nx3)
def Agw [An A Int](a0:List Af):A:=R3 L a0 (bd (Rp L a0) fun o2=>Nh L a0 o2)
def R8(a0:List Af):Option Int:=Agw L a0
def X34:N2:=E1 I 34 A4g (R8 L) fun a0 r h=>hF Tryz.func34 (C:=O34 L) (oS _) L (fun kk=>eE (R3 L a0 (ho (Brs L (Bfy L kk a0) a0) fun o2=>B1o L kk a0 o2))) h
def c12:=CC Tryz.f12
def O12:Bq:=oL [X10 L,X34 L]
def B3s:((List Int)×Int)→Prop:=fun x=>kk ((fun(x:(List Int)×Int)=> .tup [lv (.t3 x.1),I x.2]) x)
def Bhb(a0:List Af)(v:Int×Int×List Int):St:=⟨[(0,lv (.t46 a0)),(1,I v.1),(4,.lst true (.t3 [])),(5,I 0),(6,.any),(7,.vw false 25 3 1 (Int.toNat (a0.length:Int))),(8,I v.2.1)],[(25,[.arrO (.t3 v.2.2)])],0⟩
def S8 [An A (Nat×Int×Int×List Int)](L:Nat)(a0:List Af)(rec:Int→Int→List Int→A)(Ao:Int)(Ih:Int)(o0:List Int):A:=
 (cn (decide (Ih≥0))
 (gi Ih a0
 (cn (!decide ((((a0.getD (Int.toNat Ih) default).Levels).length:Int)=0))
 (gq (0≤Ih)
 (gq (Ih < (((Int.toNat (a0.length:Int)):Nat):Int))
 (cn (!decide ((((a0.getD (Int.toNat Ih) default).Levels).length:Int)=0))
 (rec (Dp (Int.tdiv Ao (((a0.getD (Int.toNat Ih) default).Levels).length:Int))) (Dp (Ih - 1)) (o0.set (Int.toNat Ih) (Int.tmod Ao (((a0.getD (Int.toNat Ih) default).Levels).length:Int))))
 fl)))
 fl))
 (lf (0,Ao,Ih,o0)))
def K4(L:Nat)(a0:List Af):Nat→Int→Int→List Int→Option (Nat×Int×Int×List Int)
 |0,_,_,_=>none
 |n+1,Ao,Ih,o0=>S8 L a0 (K4 L a0 n) Ao Ih o0
theorem Br5(a0:List Af):LP (EV (O12 L) L 9 c12.x.l.u.l.l) [0,1,4,5,6,7,8] [25] (Bhb a0) [.exit 0] (fun n v=>K4 L a0 n v.1 v.2.1 v.2.2) K:=lE (fun _=>rfl) fun n v ih=>eE (S8 L a0 (fun Ao Ih o0=>re (ih (Ao,Ih,o0))) v.1 v.2.1 v.2.2)
def O2 [An A ((List Int)×Int)](L:Nat)(o4:Nat×Int×Int×List Int):A:=
 (sl o4.1 [(lf (o4.2.2.2,0))])
def Bfj:Br:=(Ba 0 (Bg (EV (O12 L) L 9 c12.x.r) (Gu Tryz.prog (RS Tryz.f12) kk)))
theorem B09(a0:List Af)(o4:Nat×Int×Int×List Int):kX [.exit 0] (Bhb a0) (Bfj L kk) o4=ob (O2 L o4) (B3s kk):=eE (O2 L o4)
def Tl [An A ((List Int)×Int)](a0:List Af)(a1:Int)(nx1:A):A:=
 (bd (R8 L a0) fun r1=>
 (cn (r1 != 0)
 (lf ([],r1))
 (jb (.cn (decide (a1 < 0))
 (.lf true)
 (.bd (Py L a0) fun r3=>
 (.lf (decide (a1≥r3))))) (fun b2=>
 (cn b2
 (lf ([],2))
 (gq (0≤(a0.length:Int))
 (gq ((a0.length:Int)*((8:Nat):Int)≤140737488355328)
 (gq ((a0.length:Int)≤9223372036854775807)
 nx1))))))))
def Ahz [An A ((List Int)×Int)](a0:List Af)(a1:Int):A:=Tl L a0 a1 (bd (K4 L a0 L a1 (Dp ((a0.length:Int) - 1)) (List.replicate (Int.toNat (a0.length:Int)) 0)) fun o4=>O2 L o4)
def Tv(a0:List Af)(a1:Int):Option ((List Int)×Int):=Ahz L a0 a1
def X12:N2:=E2 (fun(x:(List Int)×Int)=> .tup [lv (.t3 x.1),I x.2]) 12 A4g (cI .i64) (Tv L) fun a0 a1 r h=>hF Tryz.func12 (C:=O12 L) (oS _) L (fun kk=>eE (Tl L a0 a1 (ho (Br5 L (Bfj L kk) a0 L (a1,(Dp ((a0.length:Int) - 1)),(List.replicate (Int.toNat (a0.length:Int)) 0))) fun o4=>B09 L kk a0 o4))) h
def c35:=CC Tryz.f35
def O35:Bq:=oL [X34 L]
def Bhm(a0:List Af)(a1:List Int)(v:D2):St:=⟨[(0,lv (.t46 a0)),(1,.any),(4,I v.1),(5,.any),(18,lv (.t3 a1)),(19,I (a1.length:Int)),(20,I v.2)],[],0⟩
def S9 [An A Ki](L:Nat)(a0:List Af)(a1:List Int)(rec:Int→Int→A)(Ao:Int)(Bi:Int):A:=
 (lw Bi a1
 (jb (.cn (decide ((a1.getD (Int.toNat Bi) default) < 0))
 (.lf true)
 (.gq (0≤Bi)
 (.gq (Bi < (a0.length:Int))
 (.lf (decide ((a1.getD (Int.toNat Bi) default)≥(((a0.getD (Int.toNat Bi) default).Levels).length:Int))))))) (fun b2=>
 (cn b2
 (lf (0,2,Bi))
 (rec Ao (Dp (Bi+1))))))
 (lf (1,Ao,Bi)))
def It(L:Nat)(a0:List Af)(a1:List Int):Nat→Int→Int→Option Ki
 |0,_,_=>none
 |n+1,Ao,Bi=>S9 L a0 a1 (It L a0 a1 n) Ao Bi
theorem Bsk(a0:List Af)(a1:List Int):LP (EV (O35 L) L 9 c35.w.u.l.u.l.l) [0,1,4,5,18,19,20] [] (Bhm a0 a1) [.ret,.exit 0] (fun n v=>It L a0 a1 n v.1 v.2) K:=lE (fun _=>rfl) fun n v ih=>eE (S9 L a0 a1 (fun Ao Bi=>re (ih (Ao,Bi))) v.1 v.2)
def O3 [An A Int](L:Nat)(o3:Nat×D2):A:=
 (sl o3.1 [(lf o3.2.1),
 (lf 0)])
def Bfz:Br:=(Ba 0 (Bg (EV (O35 L) L 9 c35.w.u.r) (Gu Tryz.prog (RS Tryz.f35) kk)))
theorem B1p(a0:List Af)(a1:List Int)(o3:Nat×D2):kX [.ret,.exit 0] (Bhm a0 a1) (Bfz L kk) o3=ob (O3 L o3) (kQ I kk):=eE (O3 L o3)
def Tm [An A Int](a0:List Af)(a1:List Int)(nx1:A):A:=
 (bd (R8 L a0) fun r1=>
 (cn (r1 != 0)
 (lf r1)
 (cn ((a1.length:Int) != (a0.length:Int))
 (lf 8)
 nx1)))
def Ah0 [An A Int](a0:List Af)(a1:List Int):A:=Tm L a0 a1 (bd (It L a0 a1 L 0 0) fun o3=>O3 L o3)
def Xy(a0:List Af)(a1:List Int):Option Int:=Ah0 L a0 a1
def X35:N2:=E2 I 35 A4g cl3 (Xy L) fun a0 a1 r h=>hF Tryz.func35 (C:=O35 L) (oS _) L (fun kk=>eE (Tm L a0 a1 (ho (Bsk L (Bfz L kk) a0 a1 L (0,0)) fun o3=>B1p L kk a0 a1 o3))) h
def c13:=CC Tryz.f13
def O13:Bq:=oL [X35 L]
def B3t:((List Ag)×Int)→Prop:=fun x=>kk ((fun(x:(List Ag)×Int)=> .tup [lv (.t70 x.1),I x.2]) x)
def Bhc(a0:List Af)(a1:List Int)(v:List Ag×Int):St:=⟨[(0,lv (.t46 a0)),(1,.any),(4,.lst true (.t70 [])),(5,I 0),(6,.any),(7,.lst true (.t70 v.1)),(16,lv (.t3 a1)),(17,I (a1.length:Int)),(18,I v.2)],[],0⟩
def Ox [An A (Nat×List Ag×Int)](L:Nat)(a0:List Af)(a1:List Int)(rec:List Ag→Int→A)(Al:List Ag)(o0:Int):A:=
 (lw o0 a1
 (gi o0 a0
 (gi o0 a0
 (gi (a1.getD (Int.toNat o0) default) ((a0.getD (Int.toNat o0) default).Levels)
 (gq ((Al.length+ [(⟨(a0.getD (Int.toNat o0) default).Name,(((a0.getD (Int.toNat o0) default).Levels).getD (Int.toNat (a1.getD (Int.toNat o0) default)) default)⟩:Ag)].length)*24≤140737488355328)
 (gq (Al.length+ [(⟨(a0.getD (Int.toNat o0) default).Name,(((a0.getD (Int.toNat o0) default).Levels).getD (Int.toNat (a1.getD (Int.toNat o0) default)) default)⟩:Ag)].length≤maxLen)
 (rec (Al++ [(⟨(a0.getD (Int.toNat o0) default).Name,(((a0.getD (Int.toNat o0) default).Levels).getD (Int.toNat (a1.getD (Int.toNat o0) default)) default)⟩:Ag)]) (Dp (o0+1))))))))
 (lf (0,Al,o0)))
def Gm(L:Nat)(a0:List Af)(a1:List Int):Nat→List Ag→Int→Option (Nat×List Ag×Int)
 |0,_,_=>none
 |n+1,Al,o0=>Ox L a0 a1 (Gm L a0 a1 n) Al o0
theorem Br6(a0:List Af)(a1:List Int):LP (EV (O13 L) L 9 c13.w.u.l.u.l.l) [0,1,4,5,6,7,16,17,18] [] (Bhc a0 a1) [.exit 0] (fun n v=>Gm L a0 a1 n v.1 v.2) K:=lE (fun _=>rfl) fun n v ih=>eE (Ox L a0 a1 (fun Al o0=>re (ih (Al,o0))) v.1 v.2)
def Kx [An A ((List Ag)×Int)](L:Nat)(o2:Nat×List Ag×Int):A:=
 (sl o2.1 [(lf (o2.2.1,0))])
def Bfk:Br:=(Ba 0 (Bg (EV (O13 L) L 9 c13.w.u.r) (Gu Tryz.prog (RS Tryz.f13) kk)))
theorem B1a(a0:List Af)(a1:List Int)(o2:Nat×List Ag×Int):kX [.exit 0] (Bhc a0 a1) (Bfk L kk) o2=ob (Kx L o2) (B3t kk):=eE (Kx L o2)
def Pv [An A ((List Ag)×Int)](a0:List Af)(a1:List Int)(nx1:A):A:=
 (bd (Xy L a0 a1) fun r1=>
 (cn (r1 != 0)
 (lf ([],r1))
 nx1))
def Ac1 [An A ((List Ag)×Int)](a0:List Af)(a1:List Int):A:=Pv L a0 a1 (bd (Gm L a0 a1 L [] 0) fun o2=>Kx L o2)
def Og(a0:List Af)(a1:List Int):Option ((List Ag)×Int):=Ac1 L a0 a1
def X13:N2:=E2 (fun(x:(List Ag)×Int)=> .tup [lv (.t70 x.1),I x.2]) 13 A4g cl3 (Og L) fun a0 a1 r h=>hF Tryz.func13 (C:=O13 L) (oS _) L (fun kk=>eE (Pv L a0 a1 (ho (Br6 L (Bfk L kk) a0 a1 L ([],0)) fun o2=>B1a L kk a0 a1 o2))) h
def Ahx [An A Bool](a0:Int)(a1:Int):A:=
 (cn (a0 == 2)
 (jp (.cn (a1 == 0)
 (.lf true)
 (.lf (a1 == 1))) (fun b1=>
 (lf b1)))
 (cn (a0 == 3)
 (jp (.cn (decide (a1≥0))
 (.lf (decide (a1≤1000000000)))
 (.lf false)) (fun b2=>
 (lf b2)))
 (bd (X0 L a1) fun r3=>
 (lf r3))))
def Xk(a0:Int)(a1:Int):Option Bool:=Ahx L a0 a1
def X40:N2:=E2 B 40 (cI .i64) (cI .i64) (Xk L) fun a0 a1 r h=>hF Tryz.func40 (oS [X59 L]) L (fun kk=>eE (Ahx L a0 a1)) h
end
end Go.Proofs.YtfencmicmnhglaaGreat.Ev
