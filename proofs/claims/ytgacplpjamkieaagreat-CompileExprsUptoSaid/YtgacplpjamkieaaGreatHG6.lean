import Derived.Test.YtgacplpjamkieaaGreatHG1
import Derived.Test.YtgacplpjamkieaaGreatHG2
import Derived.Test.YtgacplpjamkieaaGreatHG5
set_option maxRecDepth 100000
set_option maxHeartbeats 4000000
set_option linter.unusedVariables false
set_option linter.unusedSimpArgs false
set_option linter.unnecessarySimpa false
namespace Go.Proofs.YtgacplpjamkieaaGreat.Ev
open Go An
noncomputable section
variable {A:Type} (L n:Nat) (kk:Hf) (K:De) (k:C3)
def c94:=CC Tryz.f94
def O94:Ba:=oL [Bl4 L]
def A7z(a1:Int)(a2:Int)(p802_3:Bool):St:=⟨[(1,I a1),(2,I a2),(6,I 0),(47,B p802_3)],[],0⟩
def A64(e0:EC):De:=(C6 2 (C6 0 (I8 (EV (O94 L) L 9 e0) (KE Tryz.f94 kk))))
def Lj [An A Int](L:Nat)(a1:Int)(a2:Int)(p802_3:Bool):A:=
 (cn p802_3
 (lf 1)
 (jp (.cn (a1 == 3)
 (.lf (a2 == 1))
 (.lf false)) (λb9=>
 (cn b9
 (lf 3)
 (lf 0)))))
theorem Bg1(a1:Int)(a2:Int)(p802_3:Bool):EV (O94 L) L 9 c94.w.l.u.l.x.l.l.u (A7z a1 a2 p802_3) (A64 L kk c94.w.r)=ob (Lj L a1 a2 p802_3) (kQ I kk):=eE (Lj L a1 a2 p802_3)
def A70(a1:Int)(a2:Int)(p805_3:Bool):St:=⟨[(1,I a1),(2,I a2),(6,I 0),(78,B p805_3)],[],0⟩
def A65(e0:EC):De:=(C6 0 (I8 (EV (O94 L) L 9 e0) (KE Tryz.f94 kk)))
def Lk [An A Int](L:Nat)(a1:Int)(a2:Int)(p805_3:Bool):A:=
 (cn p805_3
 (jp (.cn (a1 == 2)
 (.lf (a2 == 2))
 (.lf false)) (λb12=>
 (cn b12
 (lf 2)
 (lf 0))))
 (lf 0))
theorem Bg4(a1:Int)(a2:Int)(p805_3:Bool):EV (O94 L) L 9 c94.w.l.u.l.x.x.r (A70 a1 a2 p805_3) (A65 L kk c94.w.r)=ob (Lk L a1 a2 p805_3) (kQ I kk):=eE (Lk L a1 a2 p805_3)
def Aw5(a1:Int)(a2:Int)(a0:Int)(p804_4:Bool):St:=⟨[(1,I a1),(2,I a2),(6,I 0),(14,I a0),(68,B p804_4)],[],0⟩
def Av4(e0:EC):De:=(C6 0 (I8 (EV (O94 L) L 9 e0) (KE Tryz.f94 kk)))
def sx_typing_binary_4 [An A Int](a1:Int)(a2:Int)(a0:Int)(p804_4:Bool)(nx5:Int->Int->Bool->A):A:=
 (cn p804_4
 (jb (.cn (a1 == a2)
 (.bd (Em L a1) λr11=>
 (.lf r11))
 (.lf false)) (λb10=>
 (cn b10
 (lf 2)
 (lf 0))))
 (cn (a0 == 18)
 (nx5 a1 a2 (a0 == 18))
 (nx5 a1 a2 (a0 == 19))))
def Qd [An A Int](a1:Int)(a2:Int)(a0:Int)(p804_4:Bool):A:=sx_typing_binary_4 L a1 a2 a0 p804_4 (λa1 a2 p805_3=>Lk L a1 a2 p805_3)
theorem Bhc(a1:Int)(a2:Int)(a0:Int)(p804_4:Bool)(z5:EC):EV (O94 L) L 9 (EC.put (rl [3]) z5 c94.w.l.u.l.x.w.u) (Aw5 a1 a2 a0 p804_4) (Av4 L kk c94.w.r)= @sx_typing_binary_4 Prop L (anP (kQ I kk)) a1 a2 a0 p804_4 (λa1 a2 p805_3=>EV (O94 L) L 9 z5 (A70 a1 a2 p805_3) (A65 L kk c94.w.r)):=by kernel_rfl
theorem Bg3(a1:Int)(a2:Int)(a0:Int)(p804_4:Bool):EV (O94 L) L 9 c94.w.l.u.l.x.w.u (Aw5 a1 a2 a0 p804_4) (Av4 L kk c94.w.r)=ob (Qd L a1 a2 a0 p804_4) (kQ I kk):=Eq.trans (b:=EV (O94 L) L 9 (EC.put (rl [3]) c94.w.l.u.l.x.x.r c94.w.l.u.l.x.w.u) (Aw5 a1 a2 a0 p804_4) (Av4 L kk c94.w.r)) (by kernel_rfl) ((Bhc L kk a1 a2 a0 p804_4 c94.w.l.u.l.x.x.r).trans (eE (sx_typing_binary_4 L a1 a2 a0 p804_4 (λa1 a2 p805_3=>re (Bg4 L kk a1 a2 p805_3)))))
def Aw4(a1:Int)(a2:Int)(a0:Int)(p803_4:Bool):St:=⟨[(1,I a1),(2,I a2),(6,I 0),(14,I a0),(62,B p803_4)],[],0⟩
def Av3(e0:EC):De:=(C6 0 (I8 (EV (O94 L) L 9 e0) (KE Tryz.f94 kk)))
def sx_typing_binary_3 [An A Int](L:Nat)(a1:Int)(a2:Int)(a0:Int)(p803_4:Bool)(nx4:Int->Int->Int->Bool->A):A:=
 (cn p803_4
 (cn (a1 == a2)
 (lf 2)
 (lf 0))
 (cn (a0 == 16)
 (nx4 a1 a2 a0 (a0 == 16))
 (nx4 a1 a2 a0 (a0 == 17))))
def Qc [An A Int](a1:Int)(a2:Int)(a0:Int)(p803_4:Bool):A:=sx_typing_binary_3 L a1 a2 a0 p803_4 (λa1 a2 a0 p804_4=>Qd L a1 a2 a0 p804_4)
theorem Bhb(a1:Int)(a2:Int)(a0:Int)(p803_4:Bool)(z4:EC):EV (O94 L) L 9 (EC.put (rl [3]) z4 c94.w.l.u.l.x.u.r) (Aw4 a1 a2 a0 p803_4) (Av3 L kk c94.w.r)= @sx_typing_binary_3 Prop (anP (kQ I kk)) L a1 a2 a0 p803_4 (λa1 a2 a0 p804_4=>EV (O94 L) L 9 z4 (Aw5 a1 a2 a0 p804_4) (Av4 L kk c94.w.r)):=by kernel_rfl
theorem Bg2(a1:Int)(a2:Int)(a0:Int)(p803_4:Bool):EV (O94 L) L 9 c94.w.l.u.l.x.u.r (Aw4 a1 a2 a0 p803_4) (Av3 L kk c94.w.r)=ob (Qc L a1 a2 a0 p803_4) (kQ I kk):=Eq.trans (b:=EV (O94 L) L 9 (EC.put (rl [3]) c94.w.l.u.l.x.w.u c94.w.l.u.l.x.u.r) (Aw4 a1 a2 a0 p803_4) (Av3 L kk c94.w.r)) (by kernel_rfl) ((Bhb L kk a1 a2 a0 p803_4 c94.w.l.u.l.x.w.u).trans (eE (sx_typing_binary_3 L a1 a2 a0 p803_4 (λa1 a2 a0 p804_4=>re (Bg3 L kk a1 a2 a0 p804_4)))))
def Aw3(a1:Int)(a2:Int)(b1:Bool)(a0:Int)(p801_5:Bool):St:=⟨[(1,I a1),(2,I a2),(6,I 0),(7,B b1),(14,I a0),(15,B p801_5)],[],0⟩
def Av2(e0:EC):De:=(C6 0 (I8 (EV (O94 L) L 9 e0) (KE Tryz.f94 kk)))
def sx_typing_binary_1 [An A Int](a1:Int)(a2:Int)(b1:Bool)(a0:Int)(p801_5:Bool)(nx2:Int->Int->Bool->A)(nx3:Int->Int->Int->Bool->A):A:=
 (cn p801_5
 (jb (.cn (a1 == a2)
 (.bd (Em L a1) λr3=>
 (.lf r3))
 (.lf false)) (λb2=>
 (cn b2
 (lf a1)
 (lf 0))))
 (cn (a0 == 11)
 (cn b1
 (lf 1)
 (bd (Em L a1) λr4=>
 (jb (.cn r4
 (.bd (Em L a2) λr6=>
 (.lf r6))
 (.lf false)) (λb5=>
 (jp (.cn b5
 (.lf (a1 != a2))
 (.lf false)) (λb7=>
 (cn b7
 (lf 3)
 (lf 0))))))))
 (cn (a0 == 12)
 (cn b1
 (nx2 a1 a2 b1)
 (jp (.cn (a1 == 3)
 (.lf (a2 == 3))
 (.lf false)) (λb8=>
 (nx2 a1 a2 b8))))
 (cn (a0 == 14)
 (nx3 a1 a2 a0 (a0 == 14))
 (nx3 a1 a2 a0 (a0 == 15))))))
def Qb [An A Int](a1:Int)(a2:Int)(b1:Bool)(a0:Int)(p801_5:Bool):A:=sx_typing_binary_1 L a1 a2 b1 a0 p801_5 (λa1 a2 p802_3=>Lj L a1 a2 p802_3) (λa1 a2 a0 p803_4=>Qc L a1 a2 a0 p803_4)
theorem Bha(a1:Int)(a2:Int)(b1:Bool)(a0:Int)(p801_5:Bool)(z2 z3:EC):EV (O94 L) L 9 (EC.put (rl [9]) z3 (EC.put (rl [6,2,2]) z2 c94.w.l.u.l.u)) (Aw3 a1 a2 b1 a0 p801_5) (Av2 L kk c94.w.r)= @sx_typing_binary_1 Prop L (anP (kQ I kk)) a1 a2 b1 a0 p801_5 (λa1 a2 p802_3=>EV (O94 L) L 9 z2 (A7z a1 a2 p802_3) (A64 L kk c94.w.r)) (λa1 a2 a0 p803_4=>EV (O94 L) L 9 z3 (Aw4 a1 a2 a0 p803_4) (Av3 L kk c94.w.r)):=by kernel_rfl
theorem Bg0(a1:Int)(a2:Int)(b1:Bool)(a0:Int)(p801_5:Bool):EV (O94 L) L 9 c94.w.l.u.l.u (Aw3 a1 a2 b1 a0 p801_5) (Av2 L kk c94.w.r)=ob (Qb L a1 a2 b1 a0 p801_5) (kQ I kk):=Eq.trans (b:=EV (O94 L) L 9 (EC.put (rl [9]) c94.w.l.u.l.x.u.r (EC.put (rl [6,2,2]) c94.w.l.u.l.x.l.l.u c94.w.l.u.l.u)) (Aw3 a1 a2 b1 a0 p801_5) (Av2 L kk c94.w.r)) (by kernel_rfl) ((Bha L kk a1 a2 b1 a0 p801_5 c94.w.l.u.l.x.l.l.u c94.w.l.u.l.x.u.r).trans (eE (sx_typing_binary_1 L a1 a2 b1 a0 p801_5 (λa1 a2 p802_3=>re (Bg1 L kk a1 a2 p802_3)) (λa1 a2 a0 p803_4=>re (Bg2 L kk a1 a2 a0 p803_4)))))
def sx_typing_binary_0 [An A Int](L:Nat)(a0:Int)(a1:Int)(a2:Int)(nx1:Int->Int->Bool->Int->Bool->A):A:=
 (jp (.cn (a1 == 1)
 (.lf (a2 == 1))
 (.lf false)) (λb1=>
 (cn (a0 == 9)
 (nx1 a1 a2 b1 a0 (a0 == 9))
 (cn (a0 == 10)
 (nx1 a1 a2 b1 a0 (a0 == 10))
 (cn (a0 == 13)
 (nx1 a1 a2 b1 a0 (a0 == 13))
 (cn (a0 == 20)
 (nx1 a1 a2 b1 a0 (a0 == 20))
 (nx1 a1 a2 b1 a0 (a0 == 21))))))))
def Adt [An A Int](a0:Int)(a1:Int)(a2:Int):A:=sx_typing_binary_0 L a0 a1 a2 (λa1 a2 b1 a0 p801_5=>Qb L a1 a2 b1 a0 p801_5)
theorem Bg9(a0:Int)(a1:Int)(a2:Int)(z1:EC):EW (O94 L) L 9 (RS Tryz.f94) (EC.put (rl [4,1,2,1,2]) z1 c94) [I a0,I a1,I a2] kk= @sx_typing_binary_0 Prop (anP (kQ I kk)) L a0 a1 a2 (λa1 a2 b1 a0 p801_5=>EV (O94 L) L 9 z1 (Aw3 a1 a2 b1 a0 p801_5) (Av2 L kk c94.w.r)):=by kernel_rfl
def Pp(a0:Int)(a1:Int)(a2:Int):Option Int:=Adt L a0 a1 a2
def X94:Fs:=E3 I 94 (cI .i64) (cI .i64) (cI .i64) (Pp L) λa0 a1 a2 r h=>hF Tryz.func94 (C:=O94 L) (oS _) L (λkk=>Eq.trans (b:=EW (O94 L) L 9 (RS Tryz.f94) (EC.put (rl [4,1,2,1,2]) c94.w.l.u.l.u c94) [I a0,I a1,I a2] kk) (by kernel_rfl) ((Bg9 L kk a0 a1 a2 c94.w.l.u.l.u).trans (eE (sx_typing_binary_0 L a0 a1 a2 (λa1 a2 b1 a0 p801_5=>re (Bg0 L kk a1 a2 b1 a0 p801_5)))))) h
def A9p(F:Ao->Aa->Option Ef):Prop:=∀y0 y1 r,F y0 y1=some r->Ho Tryz.prog 57 [Dy.en y0,Ay.en y1] (λ(x:Ef)=>.aY [I x.1,I x.2]) r
def c57:=CC Tryz.f57
def O57(H7:Ao->Aa->Option Ef)(L:Nat):Ba:=(orc 57 (A2 (λ(x:Ef)=>.aY [I x.1,I x.2]) Dy Ay H7) (oL [X60 L,X91 L,X92 L,X93 L,X94 L]))
theorem s57(H7:Ao->Aa->Option Ef)(Bhy:A9p H7)(L:Nat):B8 Tryz.prog (O57 H7 L):=(B5 (a2 _ Bhy) (oS [X60 L,X91 L,X92 L,X93 L,X94 L]))
def Bkj(a1:Aa)(a0:Ao)(v:Int×Int×List Int×Int):St:=⟨[(0,.any),(1,.any),zq9,Qe,(4,I v.1),(5,I v.2.1),(6,.aO true (.t79 v.2.2.1)),(11,.any),(12,.any),(13,.any),(15,lv (.t53 a1.aQ)),(16,I (a1.aQ.length:Int)),(17,I v.2.2.2),(35,.any),(49,.any),(62,.any),(72,.any),(85,.any),(89,.any),(93,.any)],[(2,(Nq a0)),(3,(Bm a1))],0⟩
def N2 [An A (Nat×Int×Int×List Int×Int)](H7:Ao->Aa->Option Ef)(L:Nat)(a1:Aa)(a0:Ao)(rec:Int->Int->List Int->Int->A)(A9:Int)(Aq:Int)(Az:List Int)(Gl:Int):A:=
 (lw Gl a1.aQ
 (bd (H7 a0 (Aa.cp (gD a1.aQ Gl))) λr1=>
 (cn (r1.2 != 0)
 (lf (0,0,r1.2,Az,Gl))
 (gq ((Az.length+ [r1.1].length)*8<=140737488355328)
 (gq (Az.length+ [r1.1].length<=maxLen)
 (rec A9 Aq (Az++ [r1.1]) (Cp (Gl+1)))))))
 (lf (1,A9,Aq,Az,Gl)))
def Gv(H7:Ao->Aa->Option Ef)(L:Nat)(a1:Aa)(a0:Ao):Nat->Int->Int->List Int->Int->Option (Nat×Int×Int×List Int×Int)
 |0,_,_,_,_=>none
 |n+1,A9,Aq,Az,Gl=>N2 H7 L a1 a0 (Gv H7 L a1 a0 n) A9 Aq Az Gl
theorem Bi2(H7:Ao->Aa->Option Ef)(L:Nat)(K:De)(a1:Aa)(a0:Ao):LP (EV (O57 H7 L) L 9 c57.w.l.u.l.l) [0,1,2,3,4,5,6,11,12,13,15,16,17,35,49,62,72,85,89,93] [2,3] (Bkj a1 a0) [.ret,.exit 0] (λn v=>Gv H7 L a1 a0 n v.1 v.2.1 v.2.2.1 v.2.2.2) K:=lE (λ_=>rfl) λn v ih=>eE (N2 H7 L a1 a0 (λA9 Aq Az Gl=>re (ih (A9,Aq,Az,Gl))) v.1 v.2.1 v.2.2.1 v.2.2.2)
def N8 [An A Ef](H7:Ao->Aa->Option Ef)(L:Nat)(a1:Aa)(a0:Ao)(o2:Nat×Int×Int×List Int×Int):A:=
 (sl o2.1 [(lf (o2.2.1,o2.2.2.1)),
 (cn (a1.Op == 3)
 (bd (Ua L a0 a1.aD) λr3=>
 (cn (!r3.2)
 (lf (0,5))
 (lf (r3.1,0))))
 (cn (decide (a1.Op>=22))
 (bd (K9 L a0.aF a1.aD) λr4=>
 (bd (Pq L a1.Op r4) λr5=>
 (cn (!r5)
 (lf (0,5))
 (lf (1,0)))))
 (cn ((o2.2.2.2.1.length:Int) == 1)
 (gi 0 o2.2.2.2.1
 (bd (Rh L a1.Op (o2.2.2.2.1.getD 0 default)) λr6=>
 (cn (r6 == 0)
 (lf (0,10))
 (lf (r6,0)))))
 (cn ((o2.2.2.2.1.length:Int) == 2)
 (gi 0 o2.2.2.2.1
 (gi 1 o2.2.2.2.1
 (bd (Pp L a1.Op (o2.2.2.2.1.getD 0 default) (o2.2.2.2.1.getD 1 default)) λr7=>
 (cn (r7 == 0)
 (lf (0,10))
 (lf (r7,0))))))
 (cn (a1.Op == 1)
 (lf (1,0))
 (cn (a1.Op == 2)
 (lf (2,0))
 (cn (a1.Op == 4)
 (lf (3,0))
 (lf (0,10)))))))))])
def Ahy [An A Ef](H7:Ao->Aa->Option Ef)(L:Nat)(a0:Ao)(a1:Aa):A:=(bd (Gv H7 L a1 a0 L 0 0 [] 0) λo2=>N8 H7 L a1 a0 o2)
def d8(H7:Ao->Aa->Option Ef)(L:Nat)(a0:Ao)(a1:Aa):Option Ef:=Ahy H7 L a0 a1
theorem b57(H7:Ao->Aa->Option Ef)(Bhy:A9p H7)(L:Nat):A9p (d8 H7 L):=λa0 a1 r h=>hF Tryz.func57 (s57 H7 Bhy L) L (λkk=>eE ((hq (Bi2 H7 L (KA (O57 H7 L) L 9 c57 (rl [4,1,2,1]) (KE Tryz.f57 kk)) a1 a0 L (0,0,[],0)) λo2=>N8 H7 L a1 a0 o2))) h
def Hh:Nat->Ao->Aa->Option Ef
 |0,_,_=>none
 |L+1,a0,a1=>d8 (Hh L) L a0 a1
theorem Bhp(L:Nat):A9p (Hh L):=by
 induction L with
 |zero=>exact λ_ _ _ h=>(by cases h)
 |succ L ih=>
  have i57:=ih;exact b57 (Hh L) i57 L
def X57(L:Nat):Fs:=E2 (λ(x:Ef)=>.aY [I x.1,I x.2]) 57 Dy Ay (Hh L) (Bhp L)
def g0 [An A Ef](a0:Ao)(a1:Aa):A:=
 (bd (Iv L (Aa.cp a1)) λr1=>
 (cn (r1 != 0)
 (lf (0,r1))
 (bd (Hh L a0 (Aa.cp a1)) λr2=>
 (lf (r2.1,r2.2)))))
def O0(a0:Ao)(a1:Aa):Option Ef:=g0 L a0 a1
def X35:Fs:=E2 (λ(x:Ef)=>.aY [I x.1,I x.2]) 35 Dy Ay (O0 L) λa0 a1 r h=>hF Tryz.func35 (oS [X40 L,X57 L]) L (λkk=>eE (g0 L a0 a1)) h
def Bnb:=CC Tryz.f166
def Bf9:Ba:=oL [X35 L]
def Bd4(r1:Ef)(a2:List Int)(a1:Aa)(v:Ef):St:=⟨[(0,.any),(1,.any),(2,.any),(4,.any),(6,I v.1),(7,I r1.1),(8,.any),(23,lv (.t79 a2)),(24,I (a2.length:Int)),(25,I v.2)],[(4,(Bm a1))],0⟩
def Oi [An A C0](L:Nat)(r1:Ef)(a2:List Int)(a1:Aa)(rec:Int->Int->A)(A9:Int)(Bj:Int):A:=
 (lw Bj a2
 (cn (r1.1 == (gD a2 Bj))
 (lf (0,0,Bj))
 (rec A9 (Cp (Bj+1))))
 (lf (1,A9,Bj)))
def Jv(L:Nat)(r1:Ef)(a2:List Int)(a1:Aa):Nat->Int->Int->Option C0
 |0,_,_=>none
 |n+1,A9,Bj=>Oi L r1 a2 a1 (Jv L r1 a2 a1 n) A9 Bj
theorem Bch(r1:Ef)(a2:List Int)(a1:Aa):LP (EV (Bf9 L) L 9 Bnb.w.u.l.u.l.l) [0,1,2,4,6,7,8,23,24,25] [4] (Bd4 r1 a2 a1) [.ret,.exit 0] (λn v=>Jv L r1 a2 a1 n v.1 v.2) K:=lE (λ_=>rfl) λn v ih=>eE (Oi L r1 a2 a1 (λA9 Bj=>re (ih (A9,Bj))) v.1 v.2)
def Ok [An A Int](L:Nat)(o2:Nat×Ef):A:=
 (sl o2.1 [(lf o2.2.1),
 (lf 10)])
def Oo [An A Int](a0:Ap)(a1:Aa)(a2:List Int)(nx1:Ef->A):A:=
 (bd (O0 L a0.aA (Aa.cp a1)) λr1=>
 (cn (r1.2 != 0)
 (lf r1.2)
 (nx1 r1)))
def Ac1 [An A Int](a0:Ap)(a1:Aa)(a2:List Int):A:=Oo L a0 a1 a2 (λr1=>bd (Jv L r1 a2 a1 L 0 0) λo2=>Ok L o2)
def Cm(a0:Ap)(a1:Aa)(a2:List Int):Option Int:=Ac1 L a0 a1 a2
def A9v:Fs:=E3 I 166 Cs Ay Bgu (Cm L) λa0 a1 a2 r h=>hF Tryz.func166 (C:=Bf9 L) (oS _) L (λkk=>eE (Oo L a0 a1 a2 (λr1=>hq (Bch L (KA (Bf9 L) L 9 Bnb (rl [6,1,2,1]) (KE Tryz.f166 kk)) r1 a2 a1 L (0,0)) λo2=>Ok L o2))) h
def Bna:=CC Tryz.f163
def Bf8:Ba:=oL [A9v L,A9w L]
def Bd3(a0:Ap)(r1:Tu5)(a1:Ae)(v:Ef):St:=⟨[(0,.ref (Ey a0)),(1,.any),Qe,(4,I v.1),(5,I r1.1),(6,.any),(27,lv (.t83 a0.aA.aF.aX)),(28,I (a0.aA.aF.aX.length:Int)),(29,I v.2)],[(3,(Ea a1))],0⟩
def Ql [An A C0](a0:Ap)(r1:Tu5)(a1:Ae)(rec:Int->Int->A)(Dp:Int)(Hg:Int):A:=
 (lw Hg a0.aA.aF.aX
 (cn ((gD a0.aA.aF.aX Hg).aD.toList == a1.aD.toList)
 (bd (Cm L a0 (Aa.cp a1.E) [(gD a0.aA.aF.aX Hg).bL]) λr2=>
 (lf (0,r2,Hg)))
 (rec Dp (Cp (Hg+1))))
 (lf (1,Dp,Hg)))
def Ku(L:Nat)(a0:Ap)(r1:Tu5)(a1:Ae):Nat->Int->Int->Option C0
 |0,_,_=>none
 |n+1,Dp,Hg=>Ql L a0 r1 a1 (Ku L a0 r1 a1 n) Dp Hg
theorem Bcg(a0:Ap)(r1:Tu5)(a1:Ae):LP (EV (Bf8 L) L 9 Bna.w.l.u.l.l.u.l.l) [0,1,3,4,5,6,27,28,29] [3] (Bd3 a0 r1 a1) [.ret,.exit 0] (λn v=>Ku L a0 r1 a1 n v.1 v.2) K:=lE (λ_=>rfl) λn v ih=>eE (Ql L a0 r1 a1 (λDp Hg=>re (ih (Dp,Hg))) v.1 v.2)
def Qo [An A Int](L:Nat)(o4:Nat×Ef):A:=
 (sl o4.1 [(lf o4.2.1),
 (lf 5)])
def Qr [An A Int](a0:Ap)(a1:Ae)(nx1:Tu5->A):A:=
 (bd (Ja L a0.aA.aP a1.aD) λr1=>
 (cn (!r1.2)
 (nx1 r1)
 (bd (Cm L a0 (Aa.cp a1.E) [r1.1]) λr3=>
 (lf r3))))
def Afx [An A Int](a0:Ap)(a1:Ae):A:=Qr L a0 a1 (λr1=>bd (Ku L a0 r1 a1 L 0 0) λo4=>Qo L o4)
def Ux(a0:Ap)(a1:Ae):Option Int:=Afx L a0 a1
def Bqq:Fs:=E2 I 163 Cs Dv (Ux L) λa0 a1 r h=>hF Tryz.func163 (C:=Bf8 L) (oS _) L (λkk=>eE (Qr L a0 a1 (λr1=>hq (Bcg L (KA (Bf8 L) L 9 Bna (rl [4,1,2,2,2,1]) (KE Tryz.f163 kk)) a0 r1 a1 L (0,0)) λo4=>Qo L o4))) h
def Wf [An A Bool](a0:Ap)(a1:Yb)(a2:Yb):A:=
 (bd (K9 L a0.aA.aF a1) λr1=>
 (lf (r1.toList == a2.toList)))
def Ip(a0:Ap)(a1:Yb)(a2:Yb):Option Bool:=Wf L a0 a1 a2
def Bl1:Fs:=E3 B 165 Cs cS cS (Ip L) λa0 a1 a2 r h=>hF Tryz.func165 (oS [X60 L]) L (λkk=>eE (Wf L a0 a1 a2)) h
def Bnp:=CC Tryz.f214
def Bgi:Ba:=oL [A9w L]
def Bek(r1:Tu5)(a2:List Int)(v:Ef):St:=⟨[(0,.any),(1,.any),(2,.any),(6,I v.1),(7,I r1.1),(8,.any),(21,lv (.t79 a2)),(22,I (a2.length:Int)),(23,I v.2)],[],0⟩
def M7 [An A C0](L:Nat)(r1:Tu5)(a2:List Int)(rec:Int->Int->A)(A9:Int)(Bj:Int):A:=
 (lw Bj a2
 (cn (r1.1 == (gD a2 Bj))
 (lf (0,0,Bj))
 (rec A9 (Cp (Bj+1))))
 (lf (1,A9,Bj)))
def Jn(L:Nat)(r1:Tu5)(a2:List Int):Nat->Int->Int->Option C0
 |0,_,_=>none
 |n+1,A9,Bj=>M7 L r1 a2 (Jn L r1 a2 n) A9 Bj
theorem Bcy(r1:Tu5)(a2:List Int):LP (EV (Bgi L) L 9 Bnp.w.l.u.l.l) [0,1,2,6,7,8,21,22,23] [] (Bek r1 a2) [.ret,.exit 0] (λn v=>Jn L r1 a2 n v.1 v.2) K:=lE (λ_=>rfl) λn v ih=>eE (M7 L r1 a2 (λA9 Bj=>re (ih (A9,Bj))) v.1 v.2)
def Nc [An A Int](L:Nat)(o2:Nat×Ef):A:=
 (sl o2.1 [(lf o2.2.1),
 (lf 10)])
def Nf [An A Int](a0:Ap)(a1:Yb)(a2:List Int)(nx1:Tu5->A):A:=
 (bd (Ja L a0.aA.aP a1) λr1=>
 (nx1 r1))
def m6 [An A Int](a0:Ap)(a1:Yb)(a2:List Int):A:=Nf L a0 a1 a2 (λr1=>bd (Jn L r1 a2 L 0 0) λo2=>Nc L o2)
def Qg(a0:Ap)(a1:Yb)(a2:List Int):Option Int:=m6 L a0 a1 a2
def Bq0:Fs:=E3 I 214 Cs cS Bgu (Qg L) λa0 a1 a2 r h=>hF Tryz.func214 (C:=Bgi L) (oS _) L (λkk=>eE (Nf L a0 a1 a2 (λr1=>hq (Bcy L (KA (Bgi L) L 9 Bnp (rl [4,1,2,1]) (KE Tryz.f214 kk)) r1 a2 L (0,0)) λo2=>Nc L o2))) h
def S5 [An A Int](a0:Ap)(a1:Yb)(a2:Bool)(a3:List Int):A:=
 (bd (Ja L a0.aA.aP a1) λr1=>
 (jp (.cn (!r1.2)
 (.lf true)
 (.lf (!a2))) (λb2=>
 (cn b2
 (lf 5)
 (bd (Qg L a0 a1 a3) λr3=>
 (lf r3))))))
def Mb(a0:Ap)(a1:Yb)(a2:Bool)(a3:List Int):Option Int:=S5 L a0 a1 a2 a3
def Bqr:Fs:=E4 I 164 Cs cS cB Bgu (Mb L) λa0 a1 a2 a3 r h=>hF Tryz.func164 (oS [A9w L,Bq0 L]) L (λkk=>eE (S5 L a0 a1 a2 a3)) h
def Bnc:=CC Tryz.f167
def Bga:Ba:=oL [Bl1 L,A9v L]
def Bd5(a0:Ap)(a3:List Aa)(a1:Ae)(v:Ef):St:=⟨[(0,.ref (Ey a0)),(1,.any),(2,.any),(3,.any),(5,.any),(8,I v.1),(18,lv (.t53 a3)),(19,I (a3.length:Int)),(20,I v.2)],[(5,(Ea a1))],0⟩
def Oh [An A C0](a0:Ap)(a3:List Aa)(a1:Ae)(rec:Int->Int->A)(Dp:Int)(B6:Int):A:=
 (lw B6 a3
 (bd (Cm L a0 (Aa.cp (gD a3 B6)) [1]) λr2=>
 (cn (r2 != 0)
 (lf (0,r2,B6))
 (rec Dp (Cp (B6+1)))))
 (lf (1,Dp,B6)))
def Ju(L:Nat)(a0:Ap)(a3:List Aa)(a1:Ae):Nat->Int->Int->Option C0
 |0,_,_=>none
 |n+1,Dp,B6=>Oh L a0 a3 a1 (Ju L a0 a3 a1 n) Dp B6
theorem Bci(a0:Ap)(a3:List Aa)(a1:Ae):LP (EV (Bga L) L 9 Bnc.w.l.u.l.l) [0,1,2,3,5,8,18,19,20] [5] (Bd5 a0 a3 a1) [.ret,.exit 0] (λn v=>Ju L a0 a3 a1 n v.1 v.2) K:=lE (λ_=>rfl) λn v ih=>eE (Oh L a0 a3 a1 (λDp B6=>re (ih (Dp,B6))) v.1 v.2)
def Oj [An A Int](L:Nat)(o3:Nat×Ef):A:=
 (sl o3.1 [(lf o3.2.1),
 (lf 0)])
def On [An A Int](a0:Ap)(a1:Ae)(a2:Yb)(a3:List Aa)(nx1:A):A:=
 (bd (Ip L a0 a1.aD a2) λr1=>
 (cn (!r1)
 (lf 5)
 nx1))
def Ac0 [An A Int](a0:Ap)(a1:Ae)(a2:Yb)(a3:List Aa):A:=On L a0 a1 a2 a3 (bd (Ju L a0 a3 a1 L 0 0) λo3=>Oj L o3)
def Cl(a0:Ap)(a1:Ae)(a2:Yb)(a3:List Aa):Option Int:=Ac0 L a0 a1 a2 a3
def Bqs:Fs:=E4 I 167 Cs Dv cS Aq4 (Cl L) λa0 a1 a2 a3 r h=>hF Tryz.func167 (C:=Bga L) (oS _) L (λkk=>eE (On L a0 a1 a2 a3 (hq (Bci L (KA (Bga L) L 9 Bnc (rl [4,1,2,1]) (KE Tryz.f167 kk)) a0 a3 a1 L (0,0)) λo3=>Oj L o3))) h
def Bnq:=CC Tryz.f215
def Bne:=CC Tryz.f172
def A3p(L:Nat):Ba:=oL []
def Bd7(p1_0:List Bs)(p1_1:Al)(p1_2:Yb)(p1_3:Yb)(v:Ef):St:=⟨[(0,lv (.bZ p1_0)),(1,Blf),(4,I v.1),(7,I (p1_0.length:Int)),(8,I v.2)],[(3,(Bi p1_1)),(4,[S p1_2]),(5,[S p1_3])],1006⟩
def Ad1 [An A C0](L:Nat)(p1_0:List Bs)(p1_1:Al)(p1_2:Yb)(p1_3:Yb)(rec:Int->Int->A)(Aq:Int)(Aj:Int):A:=
 (lw Aj p1_0
 (jp (.cn ((gD p1_0 Aj).fD.toList == p1_2.toList)
 (.lf ((gD p1_0 Aj).To.toList == p1_3.toList))
 (.lf false)) (λb1=>
 (cn b1
 (lf (0,Aj,Aj))
 (rec Aq (Cp (Aj+1))))))
 (lf (1,Aq,Aj)))
def Vj(L:Nat)(p1_0:List Bs)(p1_1:Al)(p1_2:Yb)(p1_3:Yb):Nat->Int->Int->Option C0
 |0,_,_=>none
 |n+1,Aq,Aj=>Ad1 L p1_0 p1_1 p1_2 p1_3 (Vj L p1_0 p1_1 p1_2 p1_3 n) Aq Aj
theorem Bck(p1_0:List Bs)(p1_1:Al)(p1_2:Yb)(p1_3:Yb):LP (EV (A3p L) L 8 Bnq.u.l.u.l.l) [0,1,4,7,8] [3,4,5] (Bd7 p1_0 p1_1 p1_2 p1_3) [.ret,.exit 0] (λn v=>Vj L p1_0 p1_1 p1_2 p1_3 n v.1 v.2) K:=lE (λ_=>rfl) λn v ih=>eE (Ad1 L p1_0 p1_1 p1_2 p1_3 (λAq Aj=>re (ih (Aq,Aj))) v.1 v.2)
def A8z(p1_0:List Bs)(p1_1:Al)(p1_2:Yb)(p1_3:Yb)(k:C3):Int->Prop:=λo=>k (I o) [(3,(Bi p1_1)),(4,[S p1_2]),(5,[S p1_3])]
def Aef [An A Int](L:Nat)(o2:Nat×Ef):A:=
 (sl o2.1 [(lf o2.2.1),
 (lf (-1))])
def Aow [An A Int](p1_0:List Bs)(p1_1:Al)(p1_2:Yb)(p1_3:Yb):A:=(bd (Vj L p1_0 p1_1 p1_2 p1_3 L 0 0) λo2=>Aef L o2)
def Adw(p1_0:List Bs)(p1_1:Al)(p1_2:Yb)(p1_3:Yb):Option Int:=Aow L p1_0 p1_1 p1_2 p1_3
theorem Bbg(p1_0:List Bs)(p1_1:Al)(p1_2:Yb)(p1_3:Yb):YO (A3p L) L 9 215 [lv (.bZ p1_0),Blf] [(3,(Bi p1_1)),(4,[S p1_2]),(5,[S p1_3])] k=ob (Adw L p1_0 p1_1 p1_2 p1_3) (A8z p1_0 p1_1 p1_2 p1_3 k):=(Cf _ _ _ Yr _ _ _ _ _ _ _).trans (eE ((hq (Bck L (KA (A3p L) L 8 Bnq (rl [2,1,2,1]) (KJ Tryz.f215 k)) p1_0 p1_1 p1_2 p1_3 L (0,0)) λo2=>Aef L o2)))
def Aeg [An A Tu5](L:Nat)(a0:Al)(o3:Int):A:=
 (cn (decide (o3<0))
 (lf (0,false))
 (gi o3 a0.bJ
 (lf ((gD a0.bJ o3).fT,true))))
def Au6 [An A Tu5](a0:Al)(a1:Yb)(a2:Yb):A:=(bd (Adw L a0.bJ a0 a1 a2) λo3=>Aeg L a0 o3)
def Acr(a0:Al)(a1:Yb)(a2:Yb):Option Tu5:=Au6 L a0 a1 a2
def Bl3:Fs:=E3 (λ(x:Tu5)=>.aY [I x.1,B x.2]) 172 Lb cS cS (Acr L) λa0 a1 a2 r h=>hF Tryz.func172 (C:=A3p L) (oS _) L (λkk=>eE ((hq (Bbg L (K1 (A3p L) L 9 1 4 Bne.u.l ⟨[(11,Blf),(10,lv (.bZ a0.bJ)),(9,.loc 3 3),Qe,(4,.loc 4 0),(5,.loc 5 0),(6,I 0),(7,B false)],[(3,(Bi a0)),(4,[S a1]),(5,[S a2])],0⟩ (some 12) (kN (KA (A3p L) L 9 Bne (rl [2,1]) (KE Tryz.f172 kk)))) a0.bJ a0 a1 a2) λo3=>Aeg L a0 o3))) h
def Bnd:=CC Tryz.f169
def Bgb:Ba:=oL [A9v L]
def Bd6(a0:Ap)(a2:Ae)(a1:Am)(v:Ef):St:=⟨[(0,.ref (Ey a0)),(1,.any),(2,.any),(4,.loc 4 0),(5,.loc 5 0),(6,I v.1),(18,lv (.t53 a2.bM)),(19,I (a2.bM.length:Int)),(20,I v.2)],[(4,(B7 a1)),(5,(Ea a2))],0⟩
def Ph [An A C0](a0:Ap)(a2:Ae)(a1:Am)(rec:Int->Int->A)(Dp:Int)(B6:Int):A:=
 (lw B6 a2.bM
 (gi B6 a1.aK
 (bd (Cm L a0 (Aa.cp (gD a2.bM B6)) [(gD a1.aK B6).bL]) λr1=>
 (cn (r1 != 0)
 (lf (0,r1,B6))
 (rec Dp (Cp (B6+1))))))
 (lf (1,Dp,B6)))
def Kb(L:Nat)(a0:Ap)(a2:Ae)(a1:Am):Nat->Int->Int->Option C0
 |0,_,_=>none
 |n+1,Dp,B6=>Ph L a0 a2 a1 (Kb L a0 a2 a1 n) Dp B6
theorem Bcj(a0:Ap)(a2:Ae)(a1:Am):LP (EV (Bgb L) L 9 Bnd.w.l.u.l.l) [0,1,2,4,5,6,18,19,20] [4,5] (Bd6 a0 a2 a1) [.ret,.exit 0] (λn v=>Kb L a0 a2 a1 n v.1 v.2) K:=lE (λ_=>rfl) λn v ih=>eE (Ph L a0 a2 a1 (λDp B6=>re (ih (Dp,B6))) v.1 v.2)
def Pj [An A Int](a0:Ap)(a2:Ae)(o2:Nat×Ef):A:=
 (sl o2.1 [(lf o2.2.1),
 (bd (Cm L a0 (Aa.cp a2.E) [3]) λr3=>
 (lf r3))])
def Pm [An A Int](L:Nat)(a0:Ap)(a1:Am)(a2:Ae)(nx1:A):A:=
 (cn ((a2.bM.length:Int) != (a1.aK.length:Int))
 (lf 8)
 nx1)
def Ae0 [An A Int](a0:Ap)(a1:Am)(a2:Ae):A:=Pm L a0 a1 a2 (bd (Kb L a0 a2 a1 L 0 0) λo2=>Pj L a0 a2 o2)
def Ma(a0:Ap)(a1:Am)(a2:Ae):Option Int:=Ae0 L a0 a1 a2
def Bl2:Fs:=E3 I 169 Cs Af2 Dv (Ma L) λa0 a1 a2 r h=>hF Tryz.func169 (C:=Bgb L) (oS _) L (λkk=>eE (Pm L a0 a1 a2 (hq (Bcj L (KA (Bgb L) L 9 Bnd (rl [4,1,2,1]) (KE Tryz.f169 kk)) a0 a2 a1 L (0,0)) λo2=>Pj L a0 a2 o2))) h
def S6 [An A Int](a0:Ap)(a1:Ae):A:=
 (bd (Rc L a0.bK a1.Of) λr1=>
 (cn (decide (r1<0))
 (lf 5)
 (gi r1 a0.bK.aU
 (bd (Dg L (gD a0.bK.aU r1) a1.aD) λr2=>
 (cn (decide (r2<0))
 (lf 5)
 (bd (Acr L a0.bK a0.aA.aF.aD a1.Of) λr3=>
 (cn (!r3.2)
 (lf 16)
 (gi r1 a0.bK.aU
 (gi r2 ((gD a0.bK.aU r1).aG)
 (bd (Ma L a0 (gD ((gD a0.bK.aU r1).aG) r2) (Ae.cp a1)) λr4=>
 (lf r4)))))))))))
def S2(a0:Ap)(a1:Ae):Option Int:=S6 L a0 a1
def Bqt:Fs:=E2 I 168 Cs Dv (S2 L) λa0 a1 r h=>hF Tryz.func168 (oS [X49 L,X90 L,Bl2 L,Bl3 L]) L (λkk=>eE (S6 L a0 a1)) h
def c84:=CC Tryz.f84
def O84:Ba:=oL [X90 L,Bqq L,Bqr L,Bl1 L,A9v L,Bqs L,Bqt L,Bl2 L]
def A7y(a0:Ap)(a1:Ae)(p801_22:Bool):St:=⟨[(0,.ref (Ey a0)),Qe,(4,I 0),(7,I a1.Op),(24,B p801_22)],[(3,(Ea a1))],0⟩
def A63(e0:EC):De:=(C6 0 (I8 (EV (O84 L) L 9 e0) (KE Tryz.f84 kk)))
def Ky [An A Int](a0:Ap)(a1:Ae)(p801_22:Bool):A:=
 (cn p801_22
 (bd (Cm L a0 (Aa.cp a1.E) [2]) λr4=>
 (lf r4))
 (cn (a1.Op == 5)
 (bd (Cm L a0 (Aa.cp a1.E) [3]) λr5=>
 (lf r5))
 (cn (a1.Op == 6)
 (bd (Cl L a0 (Ae.cp a1) (⟨#[114,101,115,111,117,114,99,101]⟩:Yb) [(Aa.cp a1.E),(Aa.cp a1.F)]) λr6=>
 (lf r6))
 (cn (a1.Op == 7)
 (bd (Cl L a0 (Ae.cp a1) (⟨#[114,101,115,111,117,114,99,101]⟩:Yb) [(Aa.cp a1.E)]) λr7=>
 (lf r7))
 (cn (a1.Op == 8)
 (bd (Cl L a0 (Ae.cp a1) (⟨#[115,116,111,114,101]⟩:Yb) [(Aa.cp a1.E)]) λr8=>
 (lf r8))
 (cn (a1.Op == 9)
 (bd (Ip L a0 a1.aD (⟨#[115,116,111,114,101]⟩:Yb)) λr9=>
 (bd (Mb L a0 a1.Of r9 [1]) λr10=>
 (lf r10)))
 (cn (a1.Op == 10)
 (bd (Cl L a0 (Ae.cp a1) (⟨#[98,101,108,116]⟩:Yb) []) λr11=>
 (lf r11))
 (cn (a1.Op == 11)
 (bd (Cl L a0 (Ae.cp a1) (⟨#[113,117,101,117,101]⟩:Yb) []) λr12=>
 (lf r12))
 (cn (a1.Op == 12)
 (bd (Cl L a0 (Ae.cp a1) (⟨#[113,117,101,117,101]⟩:Yb) [(Aa.cp a1.E)]) λr13=>
 (lf r13))
 (cn (a1.Op == 13)
 (bd (S2 L a0 (Ae.cp a1)) λr14=>
 (lf r14))
 (cn (a1.Op == 14)
 (bd (Dg L a0.aA.aF a1.aD) λr15=>
 (cn (decide (r15<0))
 (lf 5)
 (gi r15 a0.aA.aF.aG
 (bd (Ma L a0 (gD a0.aA.aF.aG r15) (Ae.cp a1)) λr16=>
 (lf r16)))))
 (cn (a1.Op == 15)
 (bd (Ip L a0 a1.aD (⟨#[116,97,108,108,121]⟩:Yb)) λr17=>
 (cn (!r17)
 (lf 5)
 (bd (Cm L a0 (Aa.cp a1.E) [1,3]) λr18=>
 (lf r18))))
 (cn (a1.Op == 16)
 (bd (Cl L a0 (Ae.cp a1) (⟨#[108,101,118,101,108]⟩:Yb) [(Aa.cp a1.E)]) λr19=>
 (lf r19))
 (cn (a1.Op == 17)
 (bd (Cl L a0 (Ae.cp a1) (⟨#[99,111,117,110,116]⟩:Yb) [(Aa.cp a1.E)]) λr20=>
 (lf r20))
 (lf 0)))))))))))))))
theorem Bgz(a0:Ap)(a1:Ae)(p801_22:Bool):EV (O84 L) L 9 c84.u.l.u.l.x (A7y a0 a1 p801_22) (A63 L kk c84.u.r)=ob (Ky L a0 a1 p801_22) (kQ I kk):=eE (Ky L a0 a1 p801_22)
def sx_typing_routine_own_0 [An A Int](a0:Ap)(a1:Ae)(nx1:Ap->Ae->Bool->A):A:=
 (cn (a1.Op == 1)
 (bd (Ux L a0 (Ae.cp a1)) λr1=>
 (lf r1))
 (cn (a1.Op == 2)
 (bd (Ip L a0 a1.Of (⟨#[115,116,114,101,97,109]⟩:Yb)) λr2=>
 (bd (Mb L a0 a1.aD r2 [1,3]) λr3=>
 (lf r3)))
 (cn (a1.Op == 3)
 (nx1 a0 a1 (a1.Op == 3))
 (nx1 a0 a1 (a1.Op == 4)))))
def Afw [An A Int](a0:Ap)(a1:Ae):A:=sx_typing_routine_own_0 L a0 a1 (λa0 a1 p801_22=>Ky L a0 a1 p801_22)
theorem Bg8(a0:Ap)(a1:Ae)(z1:EC):EW (O84 L) L 9 (RS Tryz.f84) (EC.put (rl [2,1,2,1,8]) z1 c84) [.ref (Ey a0),.agg (Ea a1)] kk= @sx_typing_routine_own_0 Prop L (anP (kQ I kk)) a0 a1 (λa0 a1 p801_22=>EV (O84 L) L 9 z1 (A7y a0 a1 p801_22) (A63 L kk c84.u.r)):=by kernel_rfl
def Uw(a0:Ap)(a1:Ae):Option Int:=Afw L a0 a1
def X84:Fs:=E2 I 84 Cs Dv (Uw L) λa0 a1 r h=>hF Tryz.func84 (C:=O84 L) (oS _) L (λkk=>Eq.trans (b:=EW (O84 L) L 9 (RS Tryz.f84) (EC.put (rl [2,1,2,1,8]) c84.u.l.u.l.x c84) [.ref (Ey a0),.agg (Ea a1)] kk) (by kernel_rfl) ((Bg8 L kk a0 a1 c84.u.l.u.l.x).trans (eE (sx_typing_routine_own_0 L a0 a1 (λa0 a1 p801_22=>re (Bgz L kk a0 a1 p801_22)))))) h
def A9o(F:Ap->(List Ae)->Option Int):Prop:=∀y0 y1 r,F y0 y1=some r->Ho Tryz.prog 53 [Cs.en y0,Ac6.en y1] I r
def c53:=CC Tryz.f53
def O53(Kx:Ap->(List Ae)->Option Int)(L:Nat):Ba:=(orc 53 (A2 I Cs Ac6 Kx) (oL [X84 L]))
theorem s53(Kx:Ap->(List Ae)->Option Int)(Bhx:A9o Kx)(L:Nat):B8 Tryz.prog (O53 Kx L):=(B5 (a2 _ Bhx) (oS [X84 L]))
def Bkg(a0:Ap)(a1:List Ae)(v:Ef):St:=⟨[(0,.ref (Ey a0)),(1,.any),(4,I v.1),(10,lv (.eU a1)),(11,I (a1.length:Int)),(12,I v.2)],[],0⟩
def Pi [An A C0](Kx:Ap->(List Ae)->Option Int)(L:Nat)(a0:Ap)(a1:List Ae)(rec:Int->Int->A)(Dp:Int)(B6:Int):A:=
 (lw B6 a1
 (bd (Uw L a0 (Ae.cp (gD a1 B6))) λr1=>
 (cn (r1 != 0)
 (lf (0,r1,B6))
 (bd (Kx a0 ((gD a1 B6).cK)) λr2=>
 (cn (r2 != 0)
 (lf (0,r2,B6))
 (bd (Kx a0 ((gD a1 B6).dM)) λr3=>
 (cn (r3 != 0)
 (lf (0,r3,B6))
 (rec Dp (Cp (B6+1)))))))))
 (lf (1,Dp,B6)))
def Kc(Kx:Ap->(List Ae)->Option Int)(L:Nat)(a0:Ap)(a1:List Ae):Nat->Int->Int->Option C0
 |0,_,_=>none
 |n+1,Dp,B6=>Pi Kx L a0 a1 (Kc Kx L a0 a1 n) Dp B6
theorem Bi0(Kx:Ap->(List Ae)->Option Int)(L:Nat)(K:De)(a0:Ap)(a1:List Ae):LP (EV (O53 Kx L) L 9 c53.u.l.u.l.l) [0,1,4,10,11,12] [] (Bkg a0 a1) [.ret,.exit 0] (λn v=>Kc Kx L a0 a1 n v.1 v.2) K:=lE (λ_=>rfl) λn v ih=>eE (Pi Kx L a0 a1 (λDp B6=>re (ih (Dp,B6))) v.1 v.2)
def Pk [An A Int](Kx:Ap->(List Ae)->Option Int)(L:Nat)(o4:Nat×Ef):A:=
 (sl o4.1 [(lf o4.2.1),
 (lf 0)])
def Ae1 [An A Int](Kx:Ap->(List Ae)->Option Int)(L:Nat)(a0:Ap)(a1:List Ae):A:=(bd (Kc Kx L a0 a1 L 0 0) λo4=>Pk Kx L o4)
def Sz(Kx:Ap->(List Ae)->Option Int)(L:Nat)(a0:Ap)(a1:List Ae):Option Int:=Ae1 Kx L a0 a1
theorem b53(Kx:Ap->(List Ae)->Option Int)(Bhx:A9o Kx)(L:Nat):A9o (Sz Kx L):=λa0 a1 r h=>hF Tryz.func53 (s53 Kx Bhx L) L (λkk=>eE ((hq (Bi0 Kx L (KA (O53 Kx L) L 9 c53 (rl [2,1,2,1]) (KE Tryz.f53 kk)) a0 a1 L (0,0)) λo4=>Pk Kx L o4))) h
def Gh:Nat->Ap->(List Ae)->Option Int
 |0,_,_=>none
 |L+1,a0,a1=>Sz (Gh L) L a0 a1
theorem Bho(L:Nat):A9o (Gh L):=by
 induction L with
 |zero=>exact λ_ _ _ h=>(by cases h)
 |succ L ih=>
  have i53:=ih;exact b53 (Gh L) i53 L
def X53(L:Nat):Fs:=E2 I 53 Cs Ac6 (Gh L) (Bho L)
def Afu [An A Int](a0:Al)(a1:Int)(a2:List Aw)(a3:List Ae):A:=
 (bd (Acs L a3) λr1=>
 (cn (r1 != 0)
 (lf r1)
 (jp (.cn (decide (a1<0))
 (.lf true)
 (.lf (decide (a1>=(a0.aU.length:Int))))) (λb2=>
 (cn b2
 (lf 2)
 (gi a1 a0.aU
 (bd (Gh L (⟨a0,a1,(⟨a0.aK,a2,(gD a0.aU a1)⟩:Ao)⟩:Ap) a3) λr3=>
 (lf r3))))))))
def W8(a0:Al)(a1:Int)(a2:List Aw)(a3:List Ae):Option Int:=Afu L a0 a1 a2 a3
def X30:Fs:=E4 I 30 Lb (cI .i64) A97 Ac6 (W8 L) λa0 a1 a2 a3 r h=>hF Tryz.func30 (oS [X52 L,X53 L]) L (λkk=>eE (Afu L a0 a1 a2 a3)) h
def c28:=CC Tryz.f28
def O28:Ba:=oL [X30 L,X50 L]
def Bj6(Aj:Int)(a0:Al)(v:Ef):St:=⟨[(0,.any),Yq,(2,I v.1),(3,.any),(4,I Aj),(5,.loc 5 0),(16,lv (.t36 a0.aU)),(17,I (a0.aU.length:Int)),(18,I Aj),(24,lv (.t47 ((gD a0.aU Aj).aG))),(25,I ((gD a0.aU Aj).aG.length:Int)),(26,I v.2)],[(1,(Bi a0)),(5,(Af (gD a0.aU Aj)))],0⟩
def Zi [An A C0](Aj:Int)(a0:Al)(rec:Int->Int->A)(Gf:Int)(Agx:Int):A:=
 (lw Agx ((gD a0.aU Aj).aG)
 (gq ((0+((gD ((gD a0.aU Aj).aG) Agx).aK).length)*24<=140737488355328)
 (gq (0+((gD ((gD a0.aU Aj).aG) Agx).aK).length<=maxLen)
 (gq ((((gD ((gD a0.aU Aj).aG) Agx).aK).length+((gD ((gD a0.aU Aj).aG) Agx).aP).length)*24<=140737488355328)
 (gq (((gD ((gD a0.aU Aj).aG) Agx).aK).length+((gD ((gD a0.aU Aj).aG) Agx).aP).length<=maxLen)
 (bd (W8 L a0 Aj ((gD ((gD a0.aU Aj).aG) Agx).aK++(gD ((gD a0.aU Aj).aG) Agx).aP) ((gD ((gD a0.aU Aj).aG) Agx).cK)) λr2=>
 (cn (r2 != 0)
 (lf (0,r2,Agx))
 (rec Gf (Cp (Agx+1)))))))))
 (lf (1,Gf,Agx)))
def R9(L:Nat)(Aj:Int)(a0:Al):Nat->Int->Int->Option C0
 |0,_,_=>none
 |n+1,Gf,Agx=>Zi L Aj a0 (R9 L Aj a0 n) Gf Agx
theorem Biq(Aj:Int)(a0:Al):LP (EV (O28 L) L 9 c28.w.l.u.l.l.w.l.l.w.l.l) [0,1,2,3,4,5,16,17,18,24,25,26] [1,5] (Bj6 Aj a0) [.ret,.exit 2] (λn v=>R9 L Aj a0 n v.1 v.2) K:=lE (λ_=>rfl) λn v ih=>eE (Zi L Aj a0 (λGf Agx=>re (ih (Gf,Agx))) v.1 v.2)
def Bj5(a0:Al)(v:Ef):St:=⟨[(0,.any),Yq,(2,I v.1),(3,.any),(16,lv (.t36 a0.aU)),(17,I (a0.aU.length:Int)),(18,I v.2)],[(1,(Bi a0))],0⟩
def Zz [An A C0](L:Nat)(Aj:Int)(rec:Int->Int->A)(o3:Nat×Ef):A:=
 (sl o3.1 [(lf (0,o3.2.1,Aj)),
 (rec o3.2.1 (Cp (Aj+1)))])
def d6 [An A C0](L:Nat)(a0:Al)(rec:Int->Int->A)(A9:Int)(Aj:Int)(nx1:Int->Int->A):A:=
 (lw Aj a0.aU
 (nx1 Aj A9)
 (lf (1,A9,Aj)))
def Akd [An A C0](a0:Al)(rec:Int->Int->A)(A9:Int)(Aj:Int):A:=d6 L a0 rec A9 Aj (λAj A9=>bd (R9 L Aj a0 L A9 0) λo3=>Zz L Aj rec o3)
def R8(L:Nat)(a0:Al):Nat->Int->Int->Option C0
 |0,_,_=>none
 |n+1,A9,Aj=>Akd L a0 (R8 L a0 n) A9 Aj
theorem Bip(a0:Al):LP (EV (O28 L) L 9 c28.w.l.u.l.l) [0,1,2,3,16,17,18] [1] (Bj5 a0) [.ret,.exit 0] (λn v=>R8 L a0 n v.1 v.2) K:=lE (λ_=>rfl) λn v ih=>eE (d6 L a0 (λA9 Aj=>re (ih (A9,Aj))) v.1 v.2 (λAj A9=>hq (Biq L (KA (O28 L) L 9 c28.w.l.u.l.l (rl [4,2,4,1]) (Ic (Js (EV (O28 L) L 9 c28.w.l.u.l.l) [0,1,2,3,16,17,18] [1] n) [0,1,2,3,16,17,18] [1] K)) Aj a0 L (A9,0)) λo3=>Zz L Aj (λA9 Aj=>re (ih (A9,Aj))) o3))
def Z0 [An A Int](L:Nat)(o4:Nat×Ef):A:=
 (sl o4.1 [(lf o4.2.1),
 (lf 0)])
def d7 [An A Int](a0:Al)(nx2:A):A:=
 (bd (Aho L a0) λr1=>
 (cn (r1 != 0)
 (lf r1)
 nx2))
def Aqx [An A Int](a0:Al):A:=d7 L a0 (bd (R8 L a0 L 0 0) λo4=>Z0 L o4)
def Afe(a0:Al):Option Int:=Aqx L a0
def X28:Fs:=E1 I 28 Lb (Afe L) λa0 r h=>hF Tryz.func28 (C:=O28 L) (oS _) L (λkk=>eE (d7 L a0 (hq (Bip L (KA (O28 L) L 9 c28 (rl [4,1,2,1]) (KE Tryz.f28 kk)) a0 L (0,0)) λo4=>Z0 L o4))) h
def f8 [An A Int](a0:Ab)(a1:Yb):A:=
 (bd (Oz L a0 a1) λr1=>
 (lf r1.2))
def T8(a0:Ab)(a1:Yb):Option Int:=f8 L a0 a1
def X95:Fs:=E2 I 95 Cr cS (T8 L) λa0 a1 r h=>hF Tryz.func95 (oS [X96 L]) L (λkk=>eE (f8 L a0 a1)) h
def Mc [An A Int](a0:Ac)(a1:Yb):A:=
 (bd (T8 L a0.aA.aF a1) λr1=>
 (lf r1))
def Ch(a0:Ac)(a1:Yb):Option Int:=Mc L a0 a1
def X59:Fs:=E2 I 59 Th cS (Ch L) λa0 a1 r h=>hF Tryz.func59 (oS [X95 L]) L (λkk=>eE (Mc L a0 a1)) h
def c87:=CC Tryz.f87
def O87(L:Nat):Ba:=oL []
def Bkx(a0:Ac)(a1:Yb)(v:Ef):St:=⟨[(0,.ref (Bc a0)),(1,S a1),(4,I v.1),(5,I v.2)],[],0⟩
def Ez [An A C0](L:Nat)(a0:Ac)(a1:Yb)(rec:Int->Int->A)(Dt:Int)(Df:Int):A:=
 (cn (decide (Df>=0))
 (gi Df a0.aA.aP
 (cn ((gD a0.aA.aP Df).aD.toList == a1.toList)
 (lf (0,Df,Df))
 (rec Dt (Cp (Df-1)))))
 (lf (1,Dt,Df)))
def Dh(L:Nat)(a0:Ac)(a1:Yb):Nat->Int->Int->Option C0
 |0,_,_=>none
 |n+1,Dt,Df=>Ez L a0 a1 (Dh L a0 a1 n) Dt Df
theorem Bjg(a0:Ac)(a1:Yb):LP (EV (O87 L) L 9 c87.u.l.u.l.l) [0,1,4,5] [] (Bkx a0 a1) [.ret,.exit 0] (λn v=>Dh L a0 a1 n v.1 v.2) K:=lE (λ_=>rfl) λn v ih=>eE (Ez L a0 a1 (λDt Df=>re (ih (Dt,Df))) v.1 v.2)
def H9 [An A Int](L:Nat)(o1:Nat×Ef):A:=
 (sl o1.1 [(lf o1.2.1),
 (lf (-1))])
def U0 [An A Int](a0:Ac)(a1:Yb):A:=(bd (Dh L a0 a1 L 0 (Cp ((a0.aA.aP.length:Int)-1))) λo1=>H9 L o1)
def Dl(a0:Ac)(a1:Yb):Option Int:=U0 L a0 a1
def X87:Fs:=E2 I 87 Th cS (Dl L) λa0 a1 r h=>hF Tryz.func87 (C:=O87 L) (oS _) L (λkk=>eE ((hq (Bjg L (KA (O87 L) L 9 c87 (rl [2,1,2,1]) (KE Tryz.f87 kk)) a0 a1 L (0,(Cp ((a0.aA.aP.length:Int)-1)))) λo1=>H9 L o1))) h
def c88:=CC Tryz.f88
def O88(L:Nat):Ba:=oL []
def Bky(p1_0:List Ag)(p1_1:Yb)(v:Ef):St:=⟨[(0,lv (.t83 p1_0)),(1,.bA 171 0 Kz),(4,I v.1),(7,I (p1_0.length:Int)),(8,I v.2)],[(3,[S p1_1])],1004⟩
def E7 [An A C0](L:Nat)(p1_0:List Ag)(p1_1:Yb)(rec:Int->Int->A)(Aq:Int)(Aj:Int):A:=
 (lw Aj p1_0
 (cn ((gD p1_0 Aj).aD.toList == p1_1.toList)
 (lf (0,Aj,Aj))
 (rec Aq (Cp (Aj+1))))
 (lf (1,Aq,Aj)))
def Cn(L:Nat)(p1_0:List Ag)(p1_1:Yb):Nat->Int->Int->Option C0
 |0,_,_=>none
 |n+1,Aq,Aj=>E7 L p1_0 p1_1 (Cn L p1_0 p1_1 n) Aq Aj
theorem Bjh(p1_0:List Ag)(p1_1:Yb):LP (EV (O88 L) L 8 A92.u.l.u.l.l) [0,1,4,7,8] [3] (Bky p1_0 p1_1) [.ret,.exit 0] (λn v=>Cn L p1_0 p1_1 n v.1 v.2) K:=lE (λ_=>rfl) λn v ih=>eE (E7 L p1_0 p1_1 (λAq Aj=>re (ih (Aq,Aj))) v.1 v.2)
def Bfw(p1_0:List Ag)(p1_1:Yb)(k:C3):Int->Prop:=λo=>k (I o) [(3,[S p1_1])]
def Iw [An A Int](L:Nat)(o1:Nat×Ef):A:=
 (sl o1.1 [(lf o1.2.1),
 (lf (-1))])
def Mg [An A Int](p1_0:List Ag)(p1_1:Yb):A:=(bd (Cn L p1_0 p1_1 L 0 0) λo1=>Iw L o1)
def E6(p1_0:List Ag)(p1_1:Yb):Option Int:=Mg L p1_0 p1_1
theorem Bia(p1_0:List Ag)(p1_1:Yb):YO (O88 L) L 9 170 [lv (.t83 p1_0),.bA 171 0 Kz] [(3,[S p1_1])] k=ob (E6 L p1_0 p1_1) (Bfw p1_0 p1_1 k):=(Cf _ _ _ Yr _ _ _ _ _ _ _).trans (eE ((hq (Bjh L (KA (O88 L) L 8 A92 (rl [2,1,2,1]) (KJ Tryz.f170 k)) p1_0 p1_1 L (0,0)) λo1=>Iw L o1)))
def E8 [An A Int](L:Nat)(o2:Int):A:=
 (lf o2)
def O1 [An A Int](a0:Ac)(a1:Yb):A:=(bd (E6 L a0.aA.aF.aX a1) λo2=>E8 L o2)
def Du(a0:Ac)(a1:Yb):Option Int:=O1 L a0 a1
def X88:Fs:=E2 I 88 Th cS (Du L) λa0 a1 r h=>hF Tryz.func88 (C:=O88 L) (oS _) L (λkk=>eE ((hq (Bia L (K1 (O88 L) L 9 1 8 c88.u.l ⟨[(11,.bA 171 0 Kz),(10,lv (.t83 a0.aA.aF.aX)),(9,.ref [lv (.t83 a0.aA.aF.aX),lv (.t206 a0.aA.aF.aI),lv (.t213 a0.aA.aF.aJ),lv (.bR a0.aA.aF.aZ),lv (.t9 a0.aA.aF.aV),lv (.t9 a0.aA.aF.aR),lv (.t9 a0.aA.aF.aS),lv (.t9 a0.aA.aF.aW),lv (.t9 a0.aA.aF.aT),lv (.t47 a0.aA.aF.aG),lv (.bU a0.aA.aF.bB),lv (.bT a0.aA.aF.Laws),I a0.bQ]),(8,.ref [S a0.aA.aF.aD,lv (.t83 a0.aA.aF.aX),lv (.t206 a0.aA.aF.aI),lv (.t213 a0.aA.aF.aJ),lv (.bR a0.aA.aF.aZ),lv (.t9 a0.aA.aF.aV),lv (.t9 a0.aA.aF.aR),lv (.t9 a0.aA.aF.aS),lv (.t9 a0.aA.aF.aW),lv (.t9 a0.aA.aF.aT),lv (.t47 a0.aA.aF.aG),lv (.bU a0.aA.aF.bB),lv (.bT a0.aA.aF.Laws),I a0.bQ]),(7,.ref [lv (.t83 a0.aA.aK),lv (.dG a0.aA.aP),S a0.aA.aF.aD,lv (.t83 a0.aA.aF.aX),lv (.t206 a0.aA.aF.aI),lv (.t213 a0.aA.aF.aJ),lv (.bR a0.aA.aF.aZ),lv (.t9 a0.aA.aF.aV),lv (.t9 a0.aA.aF.aR),lv (.t9 a0.aA.aF.aS),lv (.t9 a0.aA.aF.aW),lv (.t9 a0.aA.aF.aT),lv (.t47 a0.aA.aF.aG),lv (.bU a0.aA.aF.bB),lv (.bT a0.aA.aF.Laws),I a0.bQ]),(6,.ref (Bc a0)),(5,.ref (Bc a0)),(0,.ref (Bc a0)),Qe,(4,I 0)],[(3,[S a1])],0⟩ (some 12) (kN (KA (O88 L) L 9 c88 (rl [2,1]) (KE Tryz.f88 kk)))) a0.aA.aF.aX a1) λo2=>E8 L o2))) h
def Mx [An A Tu7](a0:Ac)(a1:Yb):A:=
 (bd (Dl L a0 a1) λr1=>
 (cn (decide (r1>=0))
 (lf ((Aa.mk 25 (⟨#[]⟩:Yb) r1 []),a0))
 (bd (Du L a0 a1) λr2=>
 (cn (decide (r2<0))
 (lf ((Aa.mk 26 (⟨#[]⟩:Yb) r2 []),(⟨a0.bK,a0.aA,5⟩:Ac)))
 (lf ((Aa.mk 26 (⟨#[]⟩:Yb) r2 []),a0))))))
def Hn(a0:Ac)(a1:Yb):Option Tu7:=Mx L a0 a1
def X58:Fs:=E2 (λ(x:Tu7)=>.aY [.agg (Bm x.1),.agg (Bc x.2)]) 58 Bp cS (Hn L) λa0 a1 r h=>hFS (o0:=false) Tryz.func58 (oS [X87 L,X88 L]) L (λkk=>eE (Mx L a0 a1)) h
end
end Go.Proofs.YtgacplpjamkieaaGreat.Ev
