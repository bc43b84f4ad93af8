import Derived.Test.YtgacplpjamkieaaGreatZG1
import Derived.Test.YtgacplpjamkieaaGreatZG2
import Derived.Test.YtgacplpjamkieaaGreatZG5
set_option maxRecDepth 100000
set_option maxHeartbeats 4000000
set_option linter.unusedVariables false
set_option linter.unusedSimpArgs false
set_option linter.unnecessarySimpa false
namespace Go.Proofs.YtgacplpjamkieaaGreat.Ev
open Go An
noncomputable section
variable {A:Type} (L n:Nat) (kk:Tb) (K:Hp) (k:Ei)
def c94:=CC Tryz.f94
def O94:Bj:=oL [Bqz L]
def Bcm(a1:Int)(a2:Int)(p802_3:Bool):St:=⟨[(1,I a1),(2,I a2),(6,I 0),(47,B p802_3)],[],0⟩
def Bbr(e0:EC):Hp:=(Gc 2 (Gc 0 (Pt (EV (O94 L) L 9 e0) (KE Tryz.f94 kk))))
def Sd [An A Int](L:Nat)(a1:Int)(a2:Int)(p802_3:Bool):A:=
 (cn p802_3
 (lf 1)
 (jp (.cn (a1 == 3)
 (.lf (a2 == 1))
 (.lf false)) (λb9=>
 (cn b9
 (lf 3)
 (lf 0)))))
theorem Bk7(a1:Int)(a2:Int)(p802_3:Bool):EV (O94 L) L 9 c94.w.l.u.l.x.l.l.u (Bcm a1 a2 p802_3) (Bbr L kk c94.w.r)=ob (Sd L a1 a2 p802_3) (kQ I kk):=eE (Sd L a1 a2 p802_3)
def Bcn(a1:Int)(a2:Int)(p805_3:Bool):St:=⟨[(1,I a1),(2,I a2),(6,I 0),(78,B p805_3)],[],0⟩
def Bbs(e0:EC):Hp:=(Gc 0 (Pt (EV (O94 L) L 9 e0) (KE Tryz.f94 kk)))
def Se [An A Int](L:Nat)(a1:Int)(a2:Int)(p805_3:Bool):A:=
 (cn p805_3
 (jp (.cn (a1 == 2)
 (.lf (a2 == 2))
 (.lf false)) (λb12=>
 (cn b12
 (lf 2)
 (lf 0))))
 (lf 0))
theorem Bla(a1:Int)(a2:Int)(p805_3:Bool):EV (O94 L) L 9 c94.w.l.u.l.x.x.r (Bcn a1 a2 p805_3) (Bbs L kk c94.w.r)=ob (Se L a1 a2 p805_3) (kQ I kk):=eE (Se L a1 a2 p805_3)
def A1a(a1:Int)(a2:Int)(a0:Int)(p804_4:Bool):St:=⟨[(1,I a1),(2,I a2),(6,I 0),(14,I a0),(68,B p804_4)],[],0⟩
def Az7(e0:EC):Hp:=(Gc 0 (Pt (EV (O94 L) L 9 e0) (KE Tryz.f94 kk)))
def sx_typing_binary_4 [An A Int](a1:Int)(a2:Int)(a0:Int)(p804_4:Bool)(nx5:Int->Int->Bool->A):A:=
 (cn p804_4
 (jb (.cn (a1 == a2)
 (.bd (H1 L a1) λr11=>
 (.lf r11))
 (.lf false)) (λb10=>
 (cn b10
 (lf 2)
 (lf 0))))
 (cn (a0 == 18)
 (nx5 a1 a2 (a0 == 18))
 (nx5 a1 a2 (a0 == 19))))
def Xy [An A Int](a1:Int)(a2:Int)(a0:Int)(p804_4:Bool):A:=sx_typing_binary_4 L a1 a2 a0 p804_4 (λa1 a2 p805_3=>Se L a1 a2 p805_3)
theorem Bli(a1:Int)(a2:Int)(a0:Int)(p804_4:Bool)(z5:EC):EV (O94 L) L 9 (EC.put (rl [3]) z5 c94.w.l.u.l.x.w.u) (A1a a1 a2 a0 p804_4) (Az7 L kk c94.w.r)= @sx_typing_binary_4 Prop L (anP (kQ I kk)) a1 a2 a0 p804_4 (λa1 a2 p805_3=>EV (O94 L) L 9 z5 (Bcn a1 a2 p805_3) (Bbs L kk c94.w.r)):=by kernel_rfl
theorem Bk9(a1:Int)(a2:Int)(a0:Int)(p804_4:Bool):EV (O94 L) L 9 c94.w.l.u.l.x.w.u (A1a a1 a2 a0 p804_4) (Az7 L kk c94.w.r)=ob (Xy L a1 a2 a0 p804_4) (kQ I kk):=Eq.trans (b:=EV (O94 L) L 9 (EC.put (rl [3]) c94.w.l.u.l.x.x.r c94.w.l.u.l.x.w.u) (A1a a1 a2 a0 p804_4) (Az7 L kk c94.w.r)) (by kernel_rfl) ((Bli L kk a1 a2 a0 p804_4 c94.w.l.u.l.x.x.r).trans (eE (sx_typing_binary_4 L a1 a2 a0 p804_4 (λa1 a2 p805_3=>re (Bla L kk a1 a2 p805_3)))))
def A09(a1:Int)(a2:Int)(a0:Int)(p803_4:Bool):St:=⟨[(1,I a1),(2,I a2),(6,I 0),(14,I a0),(62,B p803_4)],[],0⟩
def Az6(e0:EC):Hp:=(Gc 0 (Pt (EV (O94 L) L 9 e0) (KE Tryz.f94 kk)))
def sx_typing_binary_3 [An A Int](L:Nat)(a1:Int)(a2:Int)(a0:Int)(p803_4:Bool)(nx4:Int->Int->Int->Bool->A):A:=
 (cn p803_4
 (cn (a1 == a2)
 (lf 2)
 (lf 0))
 (cn (a0 == 16)
 (nx4 a1 a2 a0 (a0 == 16))
 (nx4 a1 a2 a0 (a0 == 17))))
def Xx [An A Int](a1:Int)(a2:Int)(a0:Int)(p803_4:Bool):A:=sx_typing_binary_3 L a1 a2 a0 p803_4 (λa1 a2 a0 p804_4=>Xy L a1 a2 a0 p804_4)
theorem Blh(a1:Int)(a2:Int)(a0:Int)(p803_4:Bool)(z4:EC):EV (O94 L) L 9 (EC.put (rl [3]) z4 c94.w.l.u.l.x.u.r) (A09 a1 a2 a0 p803_4) (Az6 L kk c94.w.r)= @sx_typing_binary_3 Prop (anP (kQ I kk)) L a1 a2 a0 p803_4 (λa1 a2 a0 p804_4=>EV (O94 L) L 9 z4 (A1a a1 a2 a0 p804_4) (Az7 L kk c94.w.r)):=by kernel_rfl
theorem Bk8(a1:Int)(a2:Int)(a0:Int)(p803_4:Bool):EV (O94 L) L 9 c94.w.l.u.l.x.u.r (A09 a1 a2 a0 p803_4) (Az6 L kk c94.w.r)=ob (Xx L a1 a2 a0 p803_4) (kQ I kk):=Eq.trans (b:=EV (O94 L) L 9 (EC.put (rl [3]) c94.w.l.u.l.x.w.u c94.w.l.u.l.x.u.r) (A09 a1 a2 a0 p803_4) (Az6 L kk c94.w.r)) (by kernel_rfl) ((Blh L kk a1 a2 a0 p803_4 c94.w.l.u.l.x.w.u).trans (eE (sx_typing_binary_3 L a1 a2 a0 p803_4 (λa1 a2 a0 p804_4=>re (Bk9 L kk a1 a2 a0 p804_4)))))
def A08(a1:Int)(a2:Int)(b1:Bool)(a0:Int)(p801_5:Bool):St:=⟨[(1,I a1),(2,I a2),(6,I 0),(7,B b1),(14,I a0),(15,B p801_5)],[],0⟩
def Az5(e0:EC):Hp:=(Gc 0 (Pt (EV (O94 L) L 9 e0) (KE Tryz.f94 kk)))
def sx_typing_binary_1 [An A Int](a1:Int)(a2:Int)(b1:Bool)(a0:Int)(p801_5:Bool)(nx2:Int->Int->Bool->A)(nx3:Int->Int->Int->Bool->A):A:=
 (cn p801_5
 (jb (.cn (a1 == a2)
 (.bd (H1 L a1) λr3=>
 (.lf r3))
 (.lf false)) (λb2=>
 (cn b2
 (lf a1)
 (lf 0))))
 (cn (a0 == 11)
 (cn b1
 (lf 1)
 (bd (H1 L a1) λr4=>
 (jb (.cn r4
 (.bd (H1 L a2) λr6=>
 (.lf r6))
 (.lf false)) (λb5=>
 (jp (.cn b5
 (.lf (a1 != a2))
 (.lf false)) (λb7=>
 (cn b7
 (lf 3)
 (lf 0))))))))
 (cn (a0 == 12)
 (cn b1
 (nx2 a1 a2 b1)
 (jp (.cn (a1 == 3)
 (.lf (a2 == 3))
 (.lf false)) (λb8=>
 (nx2 a1 a2 b8))))
 (cn (a0 == 14)
 (nx3 a1 a2 a0 (a0 == 14))
 (nx3 a1 a2 a0 (a0 == 15))))))
def Xw [An A Int](a1:Int)(a2:Int)(b1:Bool)(a0:Int)(p801_5:Bool):A:=sx_typing_binary_1 L a1 a2 b1 a0 p801_5 (λa1 a2 p802_3=>Sd L a1 a2 p802_3) (λa1 a2 a0 p803_4=>Xx L a1 a2 a0 p803_4)
theorem Blg(a1:Int)(a2:Int)(b1:Bool)(a0:Int)(p801_5:Bool)(z2 z3:EC):EV (O94 L) L 9 (EC.put (rl [9]) z3 (EC.put (rl [6,2,2]) z2 c94.w.l.u.l.u)) (A08 a1 a2 b1 a0 p801_5) (Az5 L kk c94.w.r)= @sx_typing_binary_1 Prop L (anP (kQ I kk)) a1 a2 b1 a0 p801_5 (λa1 a2 p802_3=>EV (O94 L) L 9 z2 (Bcm a1 a2 p802_3) (Bbr L kk c94.w.r)) (λa1 a2 a0 p803_4=>EV (O94 L) L 9 z3 (A09 a1 a2 a0 p803_4) (Az6 L kk c94.w.r)):=by kernel_rfl
theorem Bk6(a1:Int)(a2:Int)(b1:Bool)(a0:Int)(p801_5:Bool):EV (O94 L) L 9 c94.w.l.u.l.u (A08 a1 a2 b1 a0 p801_5) (Az5 L kk c94.w.r)=ob (Xw L a1 a2 b1 a0 p801_5) (kQ I kk):=Eq.trans (b:=EV (O94 L) L 9 (EC.put (rl [9]) c94.w.l.u.l.x.u.r (EC.put (rl [6,2,2]) c94.w.l.u.l.x.l.l.u c94.w.l.u.l.u)) (A08 a1 a2 b1 a0 p801_5) (Az5 L kk c94.w.r)) (by kernel_rfl) ((Blg L kk a1 a2 b1 a0 p801_5 c94.w.l.u.l.x.l.l.u c94.w.l.u.l.x.u.r).trans (eE (sx_typing_binary_1 L a1 a2 b1 a0 p801_5 (λa1 a2 p802_3=>re (Bk7 L kk a1 a2 p802_3)) (λa1 a2 a0 p803_4=>re (Bk8 L kk a1 a2 a0 p803_4)))))
def sx_typing_binary_0 [An A Int](L:Nat)(a0:Int)(a1:Int)(a2:Int)(nx1:Int->Int->Bool->Int->Bool->A):A:=
 (jp (.cn (a1 == 1)
 (.lf (a2 == 1))
 (.lf false)) (λb1=>
 (cn (a0 == 9)
 (nx1 a1 a2 b1 a0 (a0 == 9))
 (cn (a0 == 10)
 (nx1 a1 a2 b1 a0 (a0 == 10))
 (cn (a0 == 13)
 (nx1 a1 a2 b1 a0 (a0 == 13))
 (cn (a0 == 20)
 (nx1 a1 a2 b1 a0 (a0 == 20))
 (nx1 a1 a2 b1 a0 (a0 == 21))))))))
def Ai3 [An A Int](a0:Int)(a1:Int)(a2:Int):A:=sx_typing_binary_0 L a0 a1 a2 (λa1 a2 b1 a0 p801_5=>Xw L a1 a2 b1 a0 p801_5)
theorem Blf(a0:Int)(a1:Int)(a2:Int)(z1:EC):EW (O94 L) L 9 (RS Tryz.f94) (EC.put (rl [4,1,2,1,2]) z1 c94) [I a0,I a1,I a2] kk= @sx_typing_binary_0 Prop (anP (kQ I kk)) L a0 a1 a2 (λa1 a2 b1 a0 p801_5=>EV (O94 L) L 9 z1 (A08 a1 a2 b1 a0 p801_5) (Az5 L kk c94.w.r)):=by kernel_rfl
def Wm(a0:Int)(a1:Int)(a2:Int):Option Int:=Ai3 L a0 a1 a2
def X94:N1:=E3 I 94 (cI .i64) (cI .i64) (cI .i64) (Wm L) λa0 a1 a2 r h=>hF Tryz.func94 (C:=O94 L) (oS _) L (λkk=>Eq.trans (b:=EW (O94 L) L 9 (RS Tryz.f94) (EC.put (rl [4,1,2,1,2]) c94.w.l.u.l.u c94) [I a0,I a1,I a2] kk) (by kernel_rfl) ((Blf L kk a0 a1 a2 c94.w.l.u.l.u).trans (eE (sx_typing_binary_0 L a0 a1 a2 (λa1 a2 b1 a0 p801_5=>re (Bk6 L kk a1 a2 b1 a0 p801_5)))))) h
def Bes(F:Az->Aa->Option Lw):Prop:=∀y0 y1 r,F y0 y1=some r->Ho Tryz.prog 57 [Adm.en y0,B4.en y1] (λ(x:Lw)=>.bI [I x.1,I x.2]) r
def c57:=CC Tryz.f57
def O57(L7:Az->Aa->Option Lw)(L:Nat):Bj:=(orc 57 (A2 (λ(x:Lw)=>.bI [I x.1,I x.2]) Adm B4 L7) (oL [X60 L,X91 L,X92 L,X93 L,X94 L]))
theorem s57(L7:Az->Aa->Option Lw)(Bl6:Bes L7)(L:Nat):Df Tryz.prog (O57 L7 L):=(Dc (a2 _ Bl6) (oS [X60 L,X91 L,X92 L,X93 L,X94 L]))
def Bpd(a1:Aa)(a0:Az)(v:Int×Int×List Int×Int):St:=⟨[(0,.any),(1,.any),Ab9,zq9,(4,I v.1),(5,I v.2.1),(6,.aV true (.t79 v.2.2.1)),(11,.any),(12,.any),(13,.any),(15,lv (.t53 a1.bJ)),(16,I (a1.bJ.length:Int)),(17,I v.2.2.2),(35,.any),(49,.any),(62,.any),(72,.any),(85,.any),(89,.any),(93,.any)],[(2,(Alg a0)),(3,(Hv a1))],0⟩
def U1 [An A (Nat×Int×Int×List Int×Int)](L7:Az->Aa->Option Lw)(L:Nat)(a1:Aa)(a0:Az)(rec:Int->Int->List Int->Int->A)(Av:Int)(Aq:Int)(Bl:List Int)(Hs:Int):A:=
 (lw Hs a1.bJ
 (bd (L7 a0 (Aa.cp (gD a1.bJ Hs))) λr1=>
 (cn (r1.2 != 0)
 (lf (0,0,r1.2,Bl,Hs))
 (gq ((Bl.length+ [r1.1].length)*8<=140737488355328)
 (gq (Bl.length+ [r1.1].length<=maxLen)
 (rec Av Aq (Bl++ [r1.1]) (Bb (Hs+1)))))))
 (lf (1,Av,Aq,Bl,Hs)))
def K0(L7:Az->Aa->Option Lw)(L:Nat)(a1:Aa)(a0:Az):Nat->Int->Int->List Int->Int->Option (Nat×Int×Int×List Int×Int)
 |0,_,_,_,_=>none
 |n+1,Av,Aq,Bl,Hs=>U1 L7 L a1 a0 (K0 L7 L a1 a0 n) Av Aq Bl Hs
theorem Bnh(L7:Az->Aa->Option Lw)(L:Nat)(K:Hp)(a1:Aa)(a0:Az):LP (EV (O57 L7 L) L 9 c57.w.l.u.l.l) [0,1,2,3,4,5,6,11,12,13,15,16,17,35,49,62,72,85,89,93] [2,3] (Bpd a1 a0) [.ret,.exit 0] (λn v=>K0 L7 L a1 a0 n v.1 v.2.1 v.2.2.1 v.2.2.2) K:=lE (λ_=>rfl) λn v ih=>eE (U1 L7 L a1 a0 (λAv Aq Bl Hs=>re (ih (Av,Aq,Bl,Hs))) v.1 v.2.1 v.2.2.1 v.2.2.2)
def Vm [An A Lw](L7:Az->Aa->Option Lw)(L:Nat)(a1:Aa)(a0:Az)(o2:Nat×Int×Int×List Int×Int):A:=
 (sl o2.1 [(lf (o2.2.1,o2.2.2.1)),
 (cn (a1.Op == 3)
 (bd (Aad L a0 a1.aG) λr3=>
 (cn (!r3.2)
 (lf (0,5))
 (lf (r3.1,0))))
 (cn (decide (a1.Op>=22))
 (bd (Rw L a0.aI a1.aG) λr4=>
 (bd (Wn L a1.Op r4) λr5=>
 (cn (!r5)
 (lf (0,5))
 (lf (1,0)))))
 (cn ((o2.2.2.2.1.length:Int) == 1)
 (gi 0 o2.2.2.2.1
 (bd (Yh L a1.Op (o2.2.2.2.1.getD 0 default)) λr6=>
 (cn (r6 == 0)
 (lf (0,10))
 (lf (r6,0)))))
 (cn ((o2.2.2.2.1.length:Int) == 2)
 (gi 0 o2.2.2.2.1
 (gi 1 o2.2.2.2.1
 (bd (Wm L a1.Op (o2.2.2.2.1.getD 0 default) (o2.2.2.2.1.getD 1 default)) λr7=>
 (cn (r7 == 0)
 (lf (0,10))
 (lf (r7,0))))))
 (cn (a1.Op == 1)
 (lf (1,0))
 (cn (a1.Op == 2)
 (lf (2,0))
 (cn (a1.Op == 4)
 (lf (3,0))
 (lf (0,10)))))))))])
def Al8 [An A Lw](L7:Az->Aa->Option Lw)(L:Nat)(a0:Az)(a1:Aa):A:=(bd (K0 L7 L a1 a0 L 0 0 [] 0) λo2=>Vm L7 L a1 a0 o2)
def Ae6(L7:Az->Aa->Option Lw)(L:Nat)(a0:Az)(a1:Aa):Option Lw:=Al8 L7 L a0 a1
theorem b57(L7:Az->Aa->Option Lw)(Bl6:Bes L7)(L:Nat):Bes (Ae6 L7 L):=λa0 a1 r h=>hF Tryz.func57 (s57 L7 Bl6 L) L (λkk=>eE ((hq (Bnh L7 L (KA (O57 L7 L) L 9 c57 (rl [4,1,2,1]) (KE Tryz.f57 kk)) a1 a0 L (0,0,[],0)) λo2=>Vm L7 L a1 a0 o2))) h
def Lc:Nat->Az->Aa->Option Lw
 |0,_,_=>none
 |L+1,a0,a1=>Ae6 (Lc L) L a0 a1
theorem Blx(L:Nat):Bes (Lc L):=by
 induction L with
 |zero=>exact λ_ _ _ h=>(by cases h)
 |succ L ih=>
  have i57:=ih;exact b57 (Lc L) i57 L
def X57(L:Nat):N1:=E2 (λ(x:Lw)=>.bI [I x.1,I x.2]) 57 Adm B4 (Lc L) (Blx L)
def Afc [An A Lw](a0:Az)(a1:Aa):A:=
 (bd (O0 L (Aa.cp a1)) λr1=>
 (cn (r1 != 0)
 (lf (0,r1))
 (bd (Lc L a0 (Aa.cp a1)) λr2=>
 (lf (r2.1,r2.2)))))
def Aac(a0:Az)(a1:Aa):Option Lw:=Afc L a0 a1
def X35:N1:=E2 (λ(x:Lw)=>.bI [I x.1,I x.2]) 35 Adm B4 (Aac L) λa0 a1 r h=>hF Tryz.func35 (oS [X40 L,X57 L]) L (λkk=>eE (Afc L a0 a1)) h
def Br2:=CC Tryz.f166
def Bkh:Bj:=oL [X35 L]
def Bh5(r1:Lw)(a2:List Int)(a1:Aa)(v:Lw):St:=⟨[(0,.any),(1,.any),(2,.any),(4,.any),(6,I v.1),(7,I r1.1),(8,.any),(23,lv (.t79 a2)),(24,I (a2.length:Int)),(25,I v.2)],[(4,(Hv a1))],0⟩
def J1 [An A Rs](L:Nat)(r1:Lw)(a2:List Int)(a1:Aa)(rec:Int->Int->A)(Av:Int)(Cs:Int):A:=
 (lw Cs a2
 (cn (r1.1 == (gD a2 Cs))
 (lf (0,0,Cs))
 (rec Av (Bb (Cs+1))))
 (lf (1,Av,Cs)))
def D8(L:Nat)(r1:Lw)(a2:List Int)(a1:Aa):Nat->Int->Int->Option Rs
 |0,_,_=>none
 |n+1,Av,Cs=>J1 L r1 a2 a1 (D8 L r1 a2 a1 n) Av Cs
theorem Bgw(r1:Lw)(a2:List Int)(a1:Aa):LP (EV (Bkh L) L 9 Br2.w.u.l.u.l.l) [0,1,2,4,6,7,8,23,24,25] [4] (Bh5 r1 a2 a1) [.ret,.exit 0] (λn v=>D8 L r1 a2 a1 n v.1 v.2) K:=lE (λ_=>rfl) λn v ih=>eE (J1 L r1 a2 a1 (λAv Cs=>re (ih (Av,Cs))) v.1 v.2)
def J3 [An A Int](L:Nat)(o2:Nat×Lw):A:=
 (sl o2.1 [(lf o2.2.1),
 (lf 10)])
def J5 [An A Int](a0:Am)(a1:Aa)(a2:List Int)(nx1:Lw->A):A:=
 (bd (Aac L a0.aF (Aa.cp a1)) λr1=>
 (cn (r1.2 != 0)
 (lf r1.2)
 (nx1 r1)))
def Yq [An A Int](a0:Am)(a1:Aa)(a2:List Int):A:=J5 L a0 a1 a2 (λr1=>bd (D8 L r1 a2 a1 L 0 0) λo2=>J3 L o2)
def B7(a0:Am)(a1:Aa)(a2:List Int):Option Int:=Yq L a0 a1 a2
def Bev:N1:=E3 I 166 Dv B4 Bky (B7 L) λa0 a1 a2 r h=>hF Tryz.func166 (C:=Bkh L) (oS _) L (λkk=>eE (J5 L a0 a1 a2 (λr1=>hq (Bgw L (KA (Bkh L) L 9 Br2 (rl [6,1,2,1]) (KE Tryz.f166 kk)) r1 a2 a1 L (0,0)) λo2=>J3 L o2))) h
def Br1:=CC Tryz.f163
def Bkg:Bj:=oL [Bev L,Bew L]
def Bh4(a0:Am)(r1:Int×Bool)(a1:Ad)(v:Lw):St:=⟨[(0,.ref (Iv a0)),(1,.any),zq9,(4,I v.1),(5,I r1.1),(6,.any),(27,lv (.t83 a0.aF.aI.bG)),(28,I (a0.aF.aI.bG.length:Int)),(29,I v.2)],[(3,(Gz a1))],0⟩
def L2 [An A Rs](a0:Am)(r1:Int×Bool)(a1:Ad)(rec:Int->Int->A)(B6:Int)(Gv:Int):A:=
 (lw Gv a0.aF.aI.bG
 (cn ((gD a0.aF.aI.bG Gv).aG.toList == a1.aG.toList)
 (bd (B7 L a0 (Aa.cp a1.E) [(gD a0.aF.aI.bG Gv).bL]) λr2=>
 (lf (0,r2,Gv)))
 (rec B6 (Bb (Gv+1))))
 (lf (1,B6,Gv)))
def F6(L:Nat)(a0:Am)(r1:Int×Bool)(a1:Ad):Nat->Int->Int->Option Rs
 |0,_,_=>none
 |n+1,B6,Gv=>L2 L a0 r1 a1 (F6 L a0 r1 a1 n) B6 Gv
theorem Bgv(a0:Am)(r1:Int×Bool)(a1:Ad):LP (EV (Bkg L) L 9 Br1.w.l.u.l.l.u.l.l) [0,1,3,4,5,6,27,28,29] [3] (Bh4 a0 r1 a1) [.ret,.exit 0] (λn v=>F6 L a0 r1 a1 n v.1 v.2) K:=lE (λ_=>rfl) λn v ih=>eE (L2 L a0 r1 a1 (λB6 Gv=>re (ih (B6,Gv))) v.1 v.2)
def L9 [An A Int](L:Nat)(o4:Nat×Lw):A:=
 (sl o4.1 [(lf o4.2.1),
 (lf 5)])
def Mb [An A Int](a0:Am)(a1:Ad)(nx1:(Int×Bool)->A):A:=
 (bd (N3 L a0.aF.aL a1.aG) λr1=>
 (cn (!r1.2)
 (nx1 r1)
 (bd (B7 L a0 (Aa.cp a1.E) [r1.1]) λr3=>
 (lf r3))))
def Aav [An A Int](a0:Am)(a1:Ad):A:=Mb L a0 a1 (λr1=>bd (F6 L a0 r1 a1 L 0 0) λo4=>L9 L o4)
def O2(a0:Am)(a1:Ad):Option Int:=Aav L a0 a1
def Bvt:N1:=E2 I 163 Dv Gg (O2 L) λa0 a1 r h=>hF Tryz.func163 (C:=Bkg L) (oS _) L (λkk=>eE (Mb L a0 a1 (λr1=>hq (Bgv L (KA (Bkg L) L 9 Br1 (rl [4,1,2,2,2,1]) (KE Tryz.f163 kk)) a0 r1 a1 L (0,0)) λo4=>L9 L o4))) h
def Wa [An A Bool](a0:Am)(a1:Yb)(a2:Yb):A:=
 (bd (Rw L a0.aF.aI a1) λr1=>
 (lf (r1.toList == a2.toList)))
def Ge(a0:Am)(a1:Yb)(a2:Yb):Option Bool:=Wa L a0 a1 a2
def Bqw:N1:=E3 B 165 Dv cS cS (Ge L) λa0 a1 a2 r h=>hF Tryz.func165 (oS [X60 L]) L (λkk=>eE (Wa L a0 a1 a2)) h
def Bsd:=CC Tryz.f214
def Bkn:Bj:=oL [Bew L]
def Bid(r1:Int×Bool)(a2:List Int)(v:Lw):St:=⟨[(0,.any),(1,.any),(2,.any),(6,I v.1),(7,I r1.1),(8,.any),(21,lv (.t79 a2)),(22,I (a2.length:Int)),(23,I v.2)],[],0⟩
def Ji [An A Rs](L:Nat)(r1:Int×Bool)(a2:List Int)(rec:Int->Int->A)(Av:Int)(Cs:Int):A:=
 (lw Cs a2
 (cn (r1.1 == (gD a2 Cs))
 (lf (0,0,Cs))
 (rec Av (Bb (Cs+1))))
 (lf (1,Av,Cs)))
def Dy(L:Nat)(r1:Int×Bool)(a2:List Int):Nat->Int->Int->Option Rs
 |0,_,_=>none
 |n+1,Av,Cs=>Ji L r1 a2 (Dy L r1 a2 n) Av Cs
theorem Bg4(r1:Int×Bool)(a2:List Int):LP (EV (Bkn L) L 9 Bsd.w.l.u.l.l) [0,1,2,6,7,8,21,22,23] [] (Bid r1 a2) [.ret,.exit 0] (λn v=>Dy L r1 a2 n v.1 v.2) K:=lE (λ_=>rfl) λn v ih=>eE (Ji L r1 a2 (λAv Cs=>re (ih (Av,Cs))) v.1 v.2)
def Js [An A Int](L:Nat)(o2:Nat×Lw):A:=
 (sl o2.1 [(lf o2.2.1),
 (lf 10)])
def Jt [An A Int](a0:Am)(a1:Yb)(a2:List Int)(nx1:(Int×Bool)->A):A:=
 (bd (N3 L a0.aF.aL a1) λr1=>
 (nx1 r1))
def X1 [An A Int](a0:Am)(a1:Yb)(a2:List Int):A:=Jt L a0 a1 a2 (λr1=>bd (Dy L r1 a2 L 0 0) λo2=>Js L o2)
def Qo(a0:Am)(a1:Yb)(a2:List Int):Option Int:=X1 L a0 a1 a2
def Bvz:N1:=E3 I 214 Dv cS Bky (Qo L) λa0 a1 a2 r h=>hF Tryz.func214 (C:=Bkn L) (oS _) L (λkk=>eE (Jt L a0 a1 a2 (λr1=>hq (Bg4 L (KA (Bkn L) L 9 Bsd (rl [4,1,2,1]) (KE Tryz.f214 kk)) r1 a2 L (0,0)) λo2=>Js L o2))) h
def S4 [An A Int](a0:Am)(a1:Yb)(a2:Bool)(a3:List Int):A:=
 (bd (N3 L a0.aF.aL a1) λr1=>
 (jp (.cn (!r1.2)
 (.lf true)
 (.lf (!a2))) (λb2=>
 (cn b2
 (lf 5)
 (bd (Qo L a0 a1 a3) λr3=>
 (lf r3))))))
def H5(a0:Am)(a1:Yb)(a2:Bool)(a3:List Int):Option Int:=S4 L a0 a1 a2 a3
def Bvu:N1:=E4 I 164 Dv cS cB Bky (H5 L) λa0 a1 a2 a3 r h=>hF Tryz.func164 (oS [Bew L,Bvz L]) L (λkk=>eE (S4 L a0 a1 a2 a3)) h
def Br3:=CC Tryz.f167
def Bki:Bj:=oL [Bqw L,Bev L]
def Bh6(a0:Am)(a3:List Aa)(a1:Ad)(v:Lw):St:=⟨[(0,.ref (Iv a0)),(1,.any),(2,.any),(3,.any),(5,.any),(8,I v.1),(18,lv (.t53 a3)),(19,I (a3.length:Int)),(20,I v.2)],[(5,(Gz a1))],0⟩
def J0 [An A Rs](a0:Am)(a3:List Aa)(a1:Ad)(rec:Int->Int->A)(B6:Int)(Dd:Int):A:=
 (lw Dd a3
 (bd (B7 L a0 (Aa.cp (gD a3 Dd)) [1]) λr2=>
 (cn (r2 != 0)
 (lf (0,r2,Dd))
 (rec B6 (Bb (Dd+1)))))
 (lf (1,B6,Dd)))
def D7(L:Nat)(a0:Am)(a3:List Aa)(a1:Ad):Nat->Int->Int->Option Rs
 |0,_,_=>none
 |n+1,B6,Dd=>J0 L a0 a3 a1 (D7 L a0 a3 a1 n) B6 Dd
theorem Bgx(a0:Am)(a3:List Aa)(a1:Ad):LP (EV (Bki L) L 9 Br3.w.l.u.l.l) [0,1,2,3,5,8,18,19,20] [5] (Bh6 a0 a3 a1) [.ret,.exit 0] (λn v=>D7 L a0 a3 a1 n v.1 v.2) K:=lE (λ_=>rfl) λn v ih=>eE (J0 L a0 a3 a1 (λB6 Dd=>re (ih (B6,Dd))) v.1 v.2)
def J2 [An A Int](L:Nat)(o3:Nat×Lw):A:=
 (sl o3.1 [(lf o3.2.1),
 (lf 0)])
def J4 [An A Int](a0:Am)(a1:Ad)(a2:Yb)(a3:List Aa)(nx1:A):A:=
 (bd (Ge L a0 a1.aG a2) λr1=>
 (cn (!r1)
 (lf 5)
 nx1))
def Yp [An A Int](a0:Am)(a1:Ad)(a2:Yb)(a3:List Aa):A:=J4 L a0 a1 a2 a3 (bd (D7 L a0 a3 a1 L 0 0) λo3=>J2 L o3)
def Cm(a0:Am)(a1:Ad)(a2:Yb)(a3:List Aa):Option Int:=Yp L a0 a1 a2 a3
def Bvv:N1:=E4 I 167 Dv Gg cS Aur (Cm L) λa0 a1 a2 a3 r h=>hF Tryz.func167 (C:=Bki L) (oS _) L (λkk=>eE (J4 L a0 a1 a2 a3 (hq (Bgx L (KA (Bki L) L 9 Br3 (rl [4,1,2,1]) (KE Tryz.f167 kk)) a0 a3 a1 L (0,0)) λo3=>J2 L o3))) h
def Bse:=CC Tryz.f215
def Br5:=CC Tryz.f172
def A7y(L:Nat):Bj:=oL []
def Bh8(p1_0:List Bf)(p1_1:Ag)(p1_2:Yb)(p1_3:Yb)(v:Lw):St:=⟨[(0,lv (.dF p1_0)),(1,Bp7),(4,I v.1),(7,I (p1_0.length:Int)),(8,I v.2)],[(3,(Br p1_1)),(4,[S p1_2]),(5,[S p1_3])],1006⟩
def Wu [An A Rs](L:Nat)(p1_0:List Bf)(p1_1:Ag)(p1_2:Yb)(p1_3:Yb)(rec:Int->Int->A)(Aq:Int)(Ak:Int):A:=
 (lw Ak p1_0
 (jp (.cn ((gD p1_0 Ak).dA.toList == p1_2.toList)
 (.lf ((gD p1_0 Ak).To.toList == p1_3.toList))
 (.lf false)) (λb1=>
 (cn b1
 (lf (0,Ak,Ak))
 (rec Aq (Bb (Ak+1))))))
 (lf (1,Aq,Ak)))
def Mf(L:Nat)(p1_0:List Bf)(p1_1:Ag)(p1_2:Yb)(p1_3:Yb):Nat->Int->Int->Option Rs
 |0,_,_=>none
 |n+1,Aq,Ak=>Wu L p1_0 p1_1 p1_2 p1_3 (Mf L p1_0 p1_1 p1_2 p1_3 n) Aq Ak
theorem Bgz(p1_0:List Bf)(p1_1:Ag)(p1_2:Yb)(p1_3:Yb):LP (EV (A7y L) L 8 Bse.u.l.u.l.l) [0,1,4,7,8] [3,4,5] (Bh8 p1_0 p1_1 p1_2 p1_3) [.ret,.exit 0] (λn v=>Mf L p1_0 p1_1 p1_2 p1_3 n v.1 v.2) K:=lE (λ_=>rfl) λn v ih=>eE (Wu L p1_0 p1_1 p1_2 p1_3 (λAq Ak=>re (ih (Aq,Ak))) v.1 v.2)
def Bd0(p1_0:List Bf)(p1_1:Ag)(p1_2:Yb)(p1_3:Yb)(k:Ei):Int->Prop:=λo=>k (I o) [(3,(Br p1_1)),(4,[S p1_2]),(5,[S p1_3])]
def Ab3 [An A Int](L:Nat)(o2:Nat×Lw):A:=
 (sl o2.1 [(lf o2.2.1),
 (lf (-1))])
def Ai5 [An A Int](p1_0:List Bf)(p1_1:Ag)(p1_2:Yb)(p1_3:Yb):A:=(bd (Mf L p1_0 p1_1 p1_2 p1_3 L 0 0) λo2=>Ab3 L o2)
def Abk(p1_0:List Bf)(p1_1:Ag)(p1_2:Yb)(p1_3:Yb):Option Int:=Ai5 L p1_0 p1_1 p1_2 p1_3
theorem Bfy(p1_0:List Bf)(p1_1:Ag)(p1_2:Yb)(p1_3:Yb):YO (A7y L) L 9 215 [lv (.dF p1_0),Bp7] [(3,(Br p1_1)),(4,[S p1_2]),(5,[S p1_3])] k=ob (Abk L p1_0 p1_1 p1_2 p1_3) (Bd0 p1_0 p1_1 p1_2 p1_3 k):=(Dj _ _ _ jn4 _ _ _ _ _ _ _).trans (eE ((hq (Bgz L (KA (A7y L) L 8 Bse (rl [2,1,2,1]) (KJ Tryz.f215 k)) p1_0 p1_1 p1_2 p1_3 L (0,0)) λo2=>Ab3 L o2)))
def W9 [An A (Int×Bool)](L:Nat)(a0:Ag)(o3:Int):A:=
 (cn (decide (o3<0))
 (lf (0,false))
 (gi o3 a0.bC
 (lf ((gD a0.bC o3).fA,true))))
def Any [An A (Int×Bool)](a0:Ag)(a1:Yb)(a2:Yb):A:=(bd (Abk L a0.bC a0 a1 a2) λo3=>W9 L a0 o3)
def Yd(a0:Ag)(a1:Yb)(a2:Yb):Option (Int×Bool):=Any L a0 a1 a2
def Bqy:N1:=E3 (λ(x:Int×Bool)=>.bI [I x.1,B x.2]) 172 Pq cS cS (Yd L) λa0 a1 a2 r h=>hF Tryz.func172 (C:=A7y L) (oS _) L (λkk=>eE ((hq (Bfy L (Rn (A7y L) L 9 1 4 Br5.u.l ⟨[(11,Bp7),(10,lv (.dF a0.bC)),(9,.loc 3 3),zq9,(4,.loc 4 0),(5,.loc 5 0),(6,I 0),(7,B false)],[(3,(Br a0)),(4,[S a1]),(5,[S a2])],0⟩ (some 12) (kN (KA (A7y L) L 9 Br5 (rl [2,1]) (KE Tryz.f172 kk)))) a0.bC a0 a1 a2) λo3=>W9 L a0 o3))) h
def Br4:=CC Tryz.f169
def Bkj:Bj:=oL [Bev L]
def Bh7(a0:Am)(a2:Ad)(a1:Al)(v:Lw):St:=⟨[(0,.ref (Iv a0)),(1,.any),(2,.any),(4,.loc 4 0),(5,.loc 5 0),(6,I v.1),(18,lv (.t53 a2.aS)),(19,I (a2.aS.length:Int)),(20,I v.2)],[(4,(C6 a1)),(5,(Gz a2))],0⟩
def Lg [An A Rs](a0:Am)(a2:Ad)(a1:Al)(rec:Int->Int->A)(B6:Int)(Dd:Int):A:=
 (lw Dd a2.aS
 (gi Dd a1.aJ
 (bd (B7 L a0 (Aa.cp (gD a2.aS Dd)) [(gD a1.aJ Dd).bL]) λr1=>
 (cn (r1 != 0)
 (lf (0,r1,Dd))
 (rec B6 (Bb (Dd+1))))))
 (lf (1,B6,Dd)))
def Es(L:Nat)(a0:Am)(a2:Ad)(a1:Al):Nat->Int->Int->Option Rs
 |0,_,_=>none
 |n+1,B6,Dd=>Lg L a0 a2 a1 (Es L a0 a2 a1 n) B6 Dd
theorem Bgy(a0:Am)(a2:Ad)(a1:Al):LP (EV (Bkj L) L 9 Br4.w.l.u.l.l) [0,1,2,4,5,6,18,19,20] [4,5] (Bh7 a0 a2 a1) [.ret,.exit 0] (λn v=>Es L a0 a2 a1 n v.1 v.2) K:=lE (λ_=>rfl) λn v ih=>eE (Lg L a0 a2 a1 (λB6 Dd=>re (ih (B6,Dd))) v.1 v.2)
def Lj [An A Int](a0:Am)(a2:Ad)(o2:Nat×Lw):A:=
 (sl o2.1 [(lf o2.2.1),
 (bd (B7 L a0 (Aa.cp a2.E) [3]) λr3=>
 (lf r3))])
def Lo [An A Int](L:Nat)(a0:Am)(a1:Al)(a2:Ad)(nx1:A):A:=
 (cn ((a2.aS.length:Int) != (a1.aJ.length:Int))
 (lf 8)
 nx1)
def Zw [An A Int](a0:Am)(a1:Al)(a2:Ad):A:=Lo L a0 a1 a2 (bd (Es L a0 a2 a1 L 0 0) λo2=>Lj L a0 a2 o2)
def H4(a0:Am)(a1:Al)(a2:Ad):Option Int:=Zw L a0 a1 a2
def Bqx:N1:=E3 I 169 Dv Adn Gg (H4 L) λa0 a1 a2 r h=>hF Tryz.func169 (C:=Bkj L) (oS _) L (λkk=>eE (Lo L a0 a1 a2 (hq (Bgy L (KA (Bkj L) L 9 Br4 (rl [4,1,2,1]) (KE Tryz.f169 kk)) a0 a2 a1 L (0,0)) λo2=>Lj L a0 a2 o2))) h
def S5 [An A Int](a0:Am)(a1:Ad):A:=
 (bd (Rx L a0.bM a1.Of) λr1=>
 (cn (decide (r1<0))
 (lf 5)
 (gi r1 a0.bM.aD
 (bd (Ej L (gD a0.bM.aD r1) a1.aG) λr2=>
 (cn (decide (r2<0))
 (lf 5)
 (bd (Yd L a0.bM a0.aF.aI.aG a1.Of) λr3=>
 (cn (!r3.2)
 (lf 16)
 (gi r1 a0.bM.aD
 (gi r2 ((gD a0.bM.aD r1).aA)
 (bd (H4 L a0 (gD ((gD a0.bM.aD r1).aA) r2) (Ad.cp a1)) λr4=>
 (lf r4)))))))))))
def Oa(a0:Am)(a1:Ad):Option Int:=S5 L a0 a1
def Bvw:N1:=E2 I 168 Dv Gg (Oa L) λa0 a1 r h=>hF Tryz.func168 (oS [X49 L,X90 L,Bqx L,Bqy L]) L (λkk=>eE (S5 L a0 a1)) h
def c84:=CC Tryz.f84
def O84:Bj:=oL [X90 L,Bvt L,Bvu L,Bqw L,Bev L,Bvv L,Bvw L,Bqx L]
def Bcl(a0:Am)(a1:Ad)(p801_22:Bool):St:=⟨[(0,.ref (Iv a0)),zq9,(4,I 0),(7,I a1.Op),(24,B p801_22)],[(3,(Gz a1))],0⟩
def Bbq(e0:EC):Hp:=(Gc 0 (Pt (EV (O84 L) L 9 e0) (KE Tryz.f84 kk)))
def Ma [An A Int](a0:Am)(a1:Ad)(p801_22:Bool):A:=
 (cn p801_22
 (bd (B7 L a0 (Aa.cp a1.E) [2]) λr4=>
 (lf r4))
 (cn (a1.Op == 5)
 (bd (B7 L a0 (Aa.cp a1.E) [3]) λr5=>
 (lf r5))
 (cn (a1.Op == 6)
 (bd (Cm L a0 (Ad.cp a1) (⟨#[114,101,115,111,117,114,99,101]⟩:Yb) [(Aa.cp a1.E),(Aa.cp a1.F)]) λr6=>
 (lf r6))
 (cn (a1.Op == 7)
 (bd (Cm L a0 (Ad.cp a1) (⟨#[114,101,115,111,117,114,99,101]⟩:Yb) [(Aa.cp a1.E)]) λr7=>
 (lf r7))
 (cn (a1.Op == 8)
 (bd (Cm L a0 (Ad.cp a1) (⟨#[115,116,111,114,101]⟩:Yb) [(Aa.cp a1.E)]) λr8=>
 (lf r8))
 (cn (a1.Op == 9)
 (bd (Ge L a0 a1.aG (⟨#[115,116,111,114,101]⟩:Yb)) λr9=>
 (bd (H5 L a0 a1.Of r9 [1]) λr10=>
 (lf r10)))
 (cn (a1.Op == 10)
 (bd (Cm L a0 (Ad.cp a1) (⟨#[98,101,108,116]⟩:Yb) []) λr11=>
 (lf r11))
 (cn (a1.Op == 11)
 (bd (Cm L a0 (Ad.cp a1) (⟨#[113,117,101,117,101]⟩:Yb) []) λr12=>
 (lf r12))
 (cn (a1.Op == 12)
 (bd (Cm L a0 (Ad.cp a1) (⟨#[113,117,101,117,101]⟩:Yb) [(Aa.cp a1.E)]) λr13=>
 (lf r13))
 (cn (a1.Op == 13)
 (bd (Oa L a0 (Ad.cp a1)) λr14=>
 (lf r14))
 (cn (a1.Op == 14)
 (bd (Ej L a0.aF.aI a1.aG) λr15=>
 (cn (decide (r15<0))
 (lf 5)
 (gi r15 a0.aF.aI.aA
 (bd (H4 L a0 (gD a0.aF.aI.aA r15) (Ad.cp a1)) λr16=>
 (lf r16)))))
 (cn (a1.Op == 15)
 (bd (Ge L a0 a1.aG (⟨#[116,97,108,108,121]⟩:Yb)) λr17=>
 (cn (!r17)
 (lf 5)
 (bd (B7 L a0 (Aa.cp a1.E) [1,3]) λr18=>
 (lf r18))))
 (cn (a1.Op == 16)
 (bd (Cm L a0 (Ad.cp a1) (⟨#[108,101,118,101,108]⟩:Yb) [(Aa.cp a1.E)]) λr19=>
 (lf r19))
 (cn (a1.Op == 17)
 (bd (Cm L a0 (Ad.cp a1) (⟨#[99,111,117,110,116]⟩:Yb) [(Aa.cp a1.E)]) λr20=>
 (lf r20))
 (lf 0)))))))))))))))
theorem Bk5(a0:Am)(a1:Ad)(p801_22:Bool):EV (O84 L) L 9 c84.u.l.u.l.x (Bcl a0 a1 p801_22) (Bbq L kk c84.u.r)=ob (Ma L a0 a1 p801_22) (kQ I kk):=eE (Ma L a0 a1 p801_22)
def sx_typing_routine_own_0 [An A Int](a0:Am)(a1:Ad)(nx1:Am->Ad->Bool->A):A:=
 (cn (a1.Op == 1)
 (bd (O2 L a0 (Ad.cp a1)) λr1=>
 (lf r1))
 (cn (a1.Op == 2)
 (bd (Ge L a0 a1.Of (⟨#[115,116,114,101,97,109]⟩:Yb)) λr2=>
 (bd (H5 L a0 a1.aG r2 [1,3]) λr3=>
 (lf r3)))
 (cn (a1.Op == 3)
 (nx1 a0 a1 (a1.Op == 3))
 (nx1 a0 a1 (a1.Op == 4)))))
def Aau [An A Int](a0:Am)(a1:Ad):A:=sx_typing_routine_own_0 L a0 a1 (λa0 a1 p801_22=>Ma L a0 a1 p801_22)
theorem Ble(a0:Am)(a1:Ad)(z1:EC):EW (O84 L) L 9 (RS Tryz.f84) (EC.put (rl [2,1,2,1,8]) z1 c84) [.ref (Iv a0),.agg (Gz a1)] kk= @sx_typing_routine_own_0 Prop L (anP (kQ I kk)) a0 a1 (λa0 a1 p801_22=>EV (O84 L) L 9 z1 (Bcl a0 a1 p801_22) (Bbq L kk c84.u.r)):=by kernel_rfl
def Lp(a0:Am)(a1:Ad):Option Int:=Aau L a0 a1
def X84:N1:=E2 I 84 Dv Gg (Lp L) λa0 a1 r h=>hF Tryz.func84 (C:=O84 L) (oS _) L (λkk=>Eq.trans (b:=EW (O84 L) L 9 (RS Tryz.f84) (EC.put (rl [2,1,2,1,8]) c84.u.l.u.l.x c84) [.ref (Iv a0),.agg (Gz a1)] kk) (by kernel_rfl) ((Ble L kk a0 a1 c84.u.l.u.l.x).trans (eE (sx_typing_routine_own_0 L a0 a1 (λa0 a1 p801_22=>re (Bk5 L kk a0 a1 p801_22)))))) h
def Ber(F:Am->(List Ad)->Option Int):Prop:=∀y0 y1 r,F y0 y1=some r->Ho Tryz.prog 53 [Dv.en y0,Aax.en y1] I r
def c53:=CC Tryz.f53
def O53(K9:Am->(List Ad)->Option Int)(L:Nat):Bj:=(orc 53 (A2 I Dv Aax K9) (oL [X84 L]))
theorem s53(K9:Am->(List Ad)->Option Int)(Bl5:Ber K9)(L:Nat):Df Tryz.prog (O53 K9 L):=(Dc (a2 _ Bl5) (oS [X84 L]))
def Bo9(a0:Am)(a1:List Ad)(v:Lw):St:=⟨[(0,.ref (Iv a0)),(1,.any),(4,I v.1),(10,lv (.eZ a1)),(11,I (a1.length:Int)),(12,I v.2)],[],0⟩
def Lh [An A Rs](K9:Am->(List Ad)->Option Int)(L:Nat)(a0:Am)(a1:List Ad)(rec:Int->Int->A)(B6:Int)(Dd:Int):A:=
 (lw Dd a1
 (bd (Lp L a0 (Ad.cp (gD a1 Dd))) λr1=>
 (cn (r1 != 0)
 (lf (0,r1,Dd))
 (bd (K9 a0 ((gD a1 Dd).aK)) λr2=>
 (cn (r2 != 0)
 (lf (0,r2,Dd))
 (bd (K9 a0 ((gD a1 Dd).aY)) λr3=>
 (cn (r3 != 0)
 (lf (0,r3,Dd))
 (rec B6 (Bb (Dd+1)))))))))
 (lf (1,B6,Dd)))
def Et(K9:Am->(List Ad)->Option Int)(L:Nat)(a0:Am)(a1:List Ad):Nat->Int->Int->Option Rs
 |0,_,_=>none
 |n+1,B6,Dd=>Lh K9 L a0 a1 (Et K9 L a0 a1 n) B6 Dd
theorem Bne(K9:Am->(List Ad)->Option Int)(L:Nat)(K:Hp)(a0:Am)(a1:List Ad):LP (EV (O53 K9 L) L 9 c53.u.l.u.l.l) [0,1,4,10,11,12] [] (Bo9 a0 a1) [.ret,.exit 0] (λn v=>Et K9 L a0 a1 n v.1 v.2) K:=lE (λ_=>rfl) λn v ih=>eE (Lh K9 L a0 a1 (λB6 Dd=>re (ih (B6,Dd))) v.1 v.2)
def Lk [An A Int](K9:Am->(List Ad)->Option Int)(L:Nat)(o4:Nat×Lw):A:=
 (sl o4.1 [(lf o4.2.1),
 (lf 0)])
def Zx [An A Int](K9:Am->(List Ad)->Option Int)(L:Nat)(a0:Am)(a1:List Ad):A:=(bd (Et K9 L a0 a1 L 0 0) λo4=>Lk K9 L o4)
def Sz(K9:Am->(List Ad)->Option Int)(L:Nat)(a0:Am)(a1:List Ad):Option Int:=Zx K9 L a0 a1
theorem b53(K9:Am->(List Ad)->Option Int)(Bl5:Ber K9)(L:Nat):Ber (Sz K9 L):=λa0 a1 r h=>hF Tryz.func53 (s53 K9 Bl5 L) L (λkk=>eE ((hq (Bne K9 L (KA (O53 K9 L) L 9 c53 (rl [2,1,2,1]) (KE Tryz.f53 kk)) a0 a1 L (0,0)) λo4=>Lk K9 L o4))) h
def D1:Nat->Am->(List Ad)->Option Int
 |0,_,_=>none
 |L+1,a0,a1=>Sz (D1 L) L a0 a1
theorem Blw(L:Nat):Ber (D1 L):=by
 induction L with
 |zero=>exact λ_ _ _ h=>(by cases h)
 |succ L ih=>
  have i53:=ih;exact b53 (D1 L) i53 L
def X53(L:Nat):N1:=E2 I 53 Dv Aax (D1 L) (Blw L)
def Adh [An A Int](a0:Ag)(a1:Int)(a2:List Ap)(a3:List Ad):A:=
 (bd (Ye L a3) λr1=>
 (cn (r1 != 0)
 (lf r1)
 (jp (.cn (decide (a1<0))
 (.lf true)
 (.lf (decide (a1>=(a0.aD.length:Int))))) (λb2=>
 (cn b2
 (lf 2)
 (gi a1 a0.aD
 (bd (D1 L (⟨a0,a1,(⟨a0.aJ,a2,(gD a0.aD a1)⟩:Az)⟩:Am) a3) λr3=>
 (lf r3))))))))
def C0(a0:Ag)(a1:Int)(a2:List Ap)(a3:List Ad):Option Int:=Adh L a0 a1 a2 a3
def X30:N1:=E4 I 30 Pq (cI .i64) Bsp Aax (C0 L) λa0 a1 a2 a3 r h=>hF Tryz.func30 (oS [X52 L,X53 L]) L (λkk=>eE (Adh L a0 a1 a2 a3)) h
def c28:=CC Tryz.f28
def O28:Bj:=oL [X30 L,X50 L]
def Bow(Ak:Int)(a0:Ag)(v:Lw):St:=⟨[(0,.any),Ajq,(2,I v.1),(3,.any),(4,I Ak),(5,.loc 5 0),(16,lv (.t36 a0.aD)),(17,I (a0.aD.length:Int)),(18,I Ak),(24,lv (.t47 ((gD a0.aD Ak).aA))),(25,I ((gD a0.aD Ak).aA.length:Int)),(26,I v.2)],[(1,(Br a0)),(5,(Af (gD a0.aD Ak)))],0⟩
def Tg [An A Rs](Ak:Int)(a0:Ag)(rec:Int->Int->A)(C3:Int)(Ak8:Int):A:=
 (lw Ak8 ((gD a0.aD Ak).aA)
 (gq ((0+((gD ((gD a0.aD Ak).aA) Ak8).aJ).length)*24<=140737488355328)
 (gq (0+((gD ((gD a0.aD Ak).aA) Ak8).aJ).length<=maxLen)
 (gq ((((gD ((gD a0.aD Ak).aA) Ak8).aJ).length+((gD ((gD a0.aD Ak).aA) Ak8).aL).length)*24<=140737488355328)
 (gq (((gD ((gD a0.aD Ak).aA) Ak8).aJ).length+((gD ((gD a0.aD Ak).aA) Ak8).aL).length<=maxLen)
 (bd (C0 L a0 Ak ((gD ((gD a0.aD Ak).aA) Ak8).aJ++(gD ((gD a0.aD Ak).aA) Ak8).aL) ((gD ((gD a0.aD Ak).aA) Ak8).aK)) λr2=>
 (cn (r2 != 0)
 (lf (0,r2,Ak8))
 (rec C3 (Bb (Ak8+1)))))))))
 (lf (1,C3,Ak8)))
def H2(L:Nat)(Ak:Int)(a0:Ag):Nat->Int->Int->Option Rs
 |0,_,_=>none
 |n+1,C3,Ak8=>Tg L Ak a0 (H2 L Ak a0 n) C3 Ak8
theorem Bm1(Ak:Int)(a0:Ag):LP (EV (O28 L) L 9 c28.w.l.u.l.l.w.l.l.w.l.l) [0,1,2,3,4,5,16,17,18,24,25,26] [1,5] (Bow Ak a0) [.ret,.exit 2] (λn v=>H2 L Ak a0 n v.1 v.2) K:=lE (λ_=>rfl) λn v ih=>eE (Tg L Ak a0 (λC3 Ak8=>re (ih (C3,Ak8))) v.1 v.2)
def Bov(a0:Ag)(v:Lw):St:=⟨[(0,.any),Ajq,(2,I v.1),(3,.any),(16,lv (.t36 a0.aD)),(17,I (a0.aD.length:Int)),(18,I v.2)],[(1,(Br a0))],0⟩
def Tr [An A Rs](L:Nat)(Ak:Int)(rec:Int->Int->A)(o3:Nat×Lw):A:=
 (sl o3.1 [(lf (0,o3.2.1,Ak)),
 (rec o3.2.1 (Bb (Ak+1)))])
def Tz [An A Rs](L:Nat)(a0:Ag)(rec:Int->Int->A)(Av:Int)(Ak:Int)(nx1:Int->Int->A):A:=
 (lw Ak a0.aD
 (nx1 Ak Av)
 (lf (1,Av,Ak)))
def Y1 [An A Rs](a0:Ag)(rec:Int->Int->A)(Av:Int)(Ak:Int):A:=Tz L a0 rec Av Ak (λAk Av=>bd (H2 L Ak a0 L Av 0) λo3=>Tr L Ak rec o3)
def Jk(L:Nat)(a0:Ag):Nat->Int->Int->Option Rs
 |0,_,_=>none
 |n+1,Av,Ak=>Y1 L a0 (Jk L a0 n) Av Ak
theorem Bm0(a0:Ag):LP (EV (O28 L) L 9 c28.w.l.u.l.l) [0,1,2,3,16,17,18] [1] (Bov a0) [.ret,.exit 0] (λn v=>Jk L a0 n v.1 v.2) K:=lE (λ_=>rfl) λn v ih=>eE (Tz L a0 (λAv Ak=>re (ih (Av,Ak))) v.1 v.2 (λAk Av=>hq (Bm1 L (KA (O28 L) L 9 c28.w.l.u.l.l (rl [4,2,4,1]) (Jz (M8 (EV (O28 L) L 9 c28.w.l.u.l.l) [0,1,2,3,16,17,18] [1] n) [0,1,2,3,16,17,18] [1] K)) Ak a0 L (Av,0)) λo3=>Tr L Ak (λAv Ak=>re (ih (Av,Ak))) o3))
def Ts [An A Int](L:Nat)(o4:Nat×Lw):A:=
 (sl o4.1 [(lf o4.2.1),
 (lf 0)])
def T0 [An A Int](a0:Ag)(nx2:A):A:=
 (bd (z8 L a0) λr1=>
 (cn (r1 != 0)
 (lf r1)
 nx2))
def Aj7 [An A Int](a0:Ag):A:=T0 L a0 (bd (Jk L a0 L 0 0) λo4=>Ts L o4)
def Yg(a0:Ag):Option Int:=Aj7 L a0
def X28:N1:=E1 I 28 Pq (Yg L) λa0 r h=>hF Tryz.func28 (C:=O28 L) (oS _) L (λkk=>eE (T0 L a0 (hq (Bm0 L (KA (O28 L) L 9 c28 (rl [4,1,2,1]) (KE Tryz.f28 kk)) a0 L (0,0)) λo4=>Ts L o4))) h
def Afa [An A Int](a0:Ac)(a1:Yb):A:=
 (bd (Wd L a0 a1) λr1=>
 (lf r1.2))
def Aaa(a0:Ac)(a1:Yb):Option Int:=Afa L a0 a1
def X95:N1:=E2 I 95 Ie cS (Aaa L) λa0 a1 r h=>hF Tryz.func95 (oS [X96 L]) L (λkk=>eE (Afa L a0 a1)) h
def S3 [An A Int](a0:Ab)(a1:Yb):A:=
 (bd (Aaa L a0.aF.aI a1) λr1=>
 (lf r1))
def Db(a0:Ab)(a1:Yb):Option Int:=S3 L a0 a1
def X59:N1:=E2 I 59 Z6 cS (Db L) λa0 a1 r h=>hF Tryz.func59 (oS [X95 L]) L (λkk=>eE (S3 L a0 a1)) h
def c87:=CC Tryz.f87
def O87(L:Nat):Bj:=oL []
def Bpq(a0:Ab)(a1:Yb)(v:Lw):St:=⟨[(0,.ref (Bk a0)),(1,S a1),(4,I v.1),(5,I v.2)],[],0⟩
def D2 [An A Rs](L:Nat)(a0:Ab)(a1:Yb)(rec:Int->Int->A)(H3:Int)(Gs:Int):A:=
 (cn (decide (Gs>=0))
 (gi Gs a0.aF.aL
 (cn ((gD a0.aF.aL Gs).aG.toList == a1.toList)
 (lf (0,Gs,Gs))
 (rec H3 (Bb (Gs-1)))))
 (lf (1,H3,Gs)))
def C2(L:Nat)(a0:Ab)(a1:Yb):Nat->Int->Int->Option Rs
 |0,_,_=>none
 |n+1,H3,Gs=>D2 L a0 a1 (C2 L a0 a1 n) H3 Gs
theorem Bnu(a0:Ab)(a1:Yb):LP (EV (O87 L) L 9 c87.u.l.u.l.l) [0,1,4,5] [] (Bpq a0 a1) [.ret,.exit 0] (λn v=>C2 L a0 a1 n v.1 v.2) K:=lE (λ_=>rfl) λn v ih=>eE (D2 L a0 a1 (λH3 Gs=>re (ih (H3,Gs))) v.1 v.2)
def D3 [An A Int](L:Nat)(o1:Nat×Lw):A:=
 (sl o1.1 [(lf o1.2.1),
 (lf (-1))])
def O8 [An A Int](a0:Ab)(a1:Yb):A:=(bd (C2 L a0 a1 L 0 (Bb ((a0.aF.aL.length:Int)-1))) λo1=>D3 L o1)
def Du(a0:Ab)(a1:Yb):Option Int:=O8 L a0 a1
def X87:N1:=E2 I 87 Z6 cS (Du L) λa0 a1 r h=>hF Tryz.func87 (C:=O87 L) (oS _) L (λkk=>eE ((hq (Bnu L (KA (O87 L) L 9 c87 (rl [2,1,2,1]) (KE Tryz.f87 kk)) a0 a1 L (0,(Bb ((a0.aF.aL.length:Int)-1)))) λo1=>D3 L o1))) h
def c88:=CC Tryz.f88
def O88(L:Nat):Bj:=oL []
def Bpr(p1_0:List Ai)(p1_1:Yb)(v:Lw):St:=⟨[(0,lv (.t83 p1_0)),(1,.bK 171 0 zq8),(4,I v.1),(7,I (p1_0.length:Int)),(8,I v.2)],[(3,[S p1_1])],1004⟩
def I1 [An A Rs](L:Nat)(p1_0:List Ai)(p1_1:Yb)(rec:Int->Int->A)(Aq:Int)(Ak:Int):A:=
 (lw Ak p1_0
 (cn ((gD p1_0 Ak).aG.toList == p1_1.toList)
 (lf (0,Ak,Ak))
 (rec Aq (Bb (Ak+1))))
 (lf (1,Aq,Ak)))
def Ds(L:Nat)(p1_0:List Ai)(p1_1:Yb):Nat->Int->Int->Option Rs
 |0,_,_=>none
 |n+1,Aq,Ak=>I1 L p1_0 p1_1 (Ds L p1_0 p1_1 n) Aq Ak
theorem Bnv(p1_0:List Ai)(p1_1:Yb):LP (EV (O88 L) L 8 Be5.u.l.u.l.l) [0,1,4,7,8] [3] (Bpr p1_0 p1_1) [.ret,.exit 0] (λn v=>Ds L p1_0 p1_1 n v.1 v.2) K:=lE (λ_=>rfl) λn v ih=>eE (I1 L p1_0 p1_1 (λAq Ak=>re (ih (Aq,Ak))) v.1 v.2)
def Bj8(p1_0:List Ai)(p1_1:Yb)(k:Ei):Int->Prop:=λo=>k (I o) [(3,[S p1_1])]
def Nj [An A Int](L:Nat)(o1:Nat×Lw):A:=
 (sl o1.1 [(lf o1.2.1),
 (lf (-1))])
def Te [An A Int](p1_0:List Ai)(p1_1:Yb):A:=(bd (Ds L p1_0 p1_1 L 0 0) λo1=>Nj L o1)
def I0(p1_0:List Ai)(p1_1:Yb):Option Int:=Te L p1_0 p1_1
theorem Bmh(p1_0:List Ai)(p1_1:Yb):YO (O88 L) L 9 170 [lv (.t83 p1_0),.bK 171 0 zq8] [(3,[S p1_1])] k=ob (I0 L p1_0 p1_1) (Bj8 p1_0 p1_1 k):=(Dj _ _ _ jn4 _ _ _ _ _ _ _).trans (eE ((hq (Bnv L (KA (O88 L) L 8 Be5 (rl [2,1,2,1]) (KJ Tryz.f170 k)) p1_0 p1_1 L (0,0)) λo1=>Nj L o1)))
def I2 [An A Int](L:Nat)(o2:Int):A:=
 (lf o2)
def We [An A Int](a0:Ab)(a1:Yb):A:=(bd (I0 L a0.aF.aI.bG a1) λo2=>I2 L o2)
def Eo(a0:Ab)(a1:Yb):Option Int:=We L a0 a1
def X88:N1:=E2 I 88 Z6 cS (Eo L) λa0 a1 r h=>hF Tryz.func88 (C:=O88 L) (oS _) L (λkk=>eE ((hq (Bmh L (Rn (O88 L) L 9 1 8 c88.u.l ⟨[(11,.bK 171 0 zq8),(10,lv (.t83 a0.aF.aI.bG)),(9,.ref [lv (.t83 a0.aF.aI.bG),lv (.t206 a0.aF.aI.aM),lv (.t213 a0.aF.aI.aO),lv (.bY a0.aF.aI.bH),lv (.t9 a0.aF.aI.aX),lv (.t9 a0.aF.aI.aR),lv (.t9 a0.aF.aI.aT),lv (.t9 a0.aF.aI.bA),lv (.t9 a0.aF.aI.aU),lv (.t47 a0.aF.aI.aA),lv (.cZ a0.aF.aI.aZ),lv (.cO a0.aF.aI.Laws),I a0.aW]),(8,.ref [S a0.aF.aI.aG,lv (.t83 a0.aF.aI.bG),lv (.t206 a0.aF.aI.aM),lv (.t213 a0.aF.aI.aO),lv (.bY a0.aF.aI.bH),lv (.t9 a0.aF.aI.aX),lv (.t9 a0.aF.aI.aR),lv (.t9 a0.aF.aI.aT),lv (.t9 a0.aF.aI.bA),lv (.t9 a0.aF.aI.aU),lv (.t47 a0.aF.aI.aA),lv (.cZ a0.aF.aI.aZ),lv (.cO a0.aF.aI.Laws),I a0.aW]),(7,.ref [lv (.t83 a0.aF.aJ),lv (.dW a0.aF.aL),S a0.aF.aI.aG,lv (.t83 a0.aF.aI.bG),lv (.t206 a0.aF.aI.aM),lv (.t213 a0.aF.aI.aO),lv (.bY a0.aF.aI.bH),lv (.t9 a0.aF.aI.aX),lv (.t9 a0.aF.aI.aR),lv (.t9 a0.aF.aI.aT),lv (.t9 a0.aF.aI.bA),lv (.t9 a0.aF.aI.aU),lv (.t47 a0.aF.aI.aA),lv (.cZ a0.aF.aI.aZ),lv (.cO a0.aF.aI.Laws),I a0.aW]),(6,.ref (Bk a0)),(5,.ref (Bk a0)),(0,.ref (Bk a0)),zq9,(4,I 0)],[(3,[S a1])],0⟩ (some 12) (kN (KA (O88 L) L 9 c88 (rl [2,1]) (KE Tryz.f88 kk)))) a0.aF.aI.bG a1) λo2=>I2 L o2))) h
def O5 [An A Tu5](a0:Ab)(a1:Yb):A:=
 (bd (Du L a0 a1) λr1=>
 (cn (decide (r1>=0))
 (lf ((Aa.mk 25 (⟨#[]⟩:Yb) r1 []),a0))
 (bd (Eo L a0 a1) λr2=>
 (cn (decide (r2<0))
 (lf ((Aa.mk 26 (⟨#[]⟩:Yb) r2 []),(⟨a0.bM,a0.aF,5⟩:Ab)))
 (lf ((Aa.mk 26 (⟨#[]⟩:Yb) r2 []),a0))))))
def Gw(a0:Ab)(a1:Yb):Option Tu5:=O5 L a0 a1
def X58:N1:=E2 (λ(x:Tu5)=>.bI [.agg (Hv x.1),.agg (Bk x.2)]) 58 B8 cS (Gw L) λa0 a1 r h=>hFS (o0:=false) Tryz.func58 (oS [X87 L,X88 L]) L (λkk=>eE (O5 L a0 a1)) h
end
end Go.Proofs.YtgacplpjamkieaaGreat.Ev
