import Derived.Test.YtckmlfboedljeaaDoorG0
namespace Go.Proofs.YtckmlfboedljeaaDoor.Ev
open Go An
set_option maxRecDepth 100000
set_option maxHeartbeats 4000000
set_option linter.unusedVariables false
set_option linter.unusedSimpArgs false
set_option linter.unnecessarySimpa false
noncomputable section
variable {A:Type} (L n:Nat) (kk:R5) (K:Bu) (k:Tv)
def Ua [An A Int](L:Nat)(a0:Int):A:=
 (cn (decide (a0 < 0))
 (lf (IntKind.wrap .u64 (0 - (IntKind.wrap .u64 (a0)))))
 (lf (IntKind.wrap .u64 (a0))))
def Ba(a0:Int):Option Int:=Ua L a0
def X59:Hy:=E1 (fun(x:Int)=>V .u64 x) 59 (cI .i64) (Ba L) fun a0 r h=>hF Tryd.func59 (oS []) L (fun kk=>eE (Ua L a0)) h
def c60:=CC Tryd.f60
def O60(L:Nat):Aq:=oL []
def A1j:Int→Prop:=fun x=>kk ((fun(x:Int)=>V .u64 x) x)
def Aqp(v:Gq):St:=⟨[(0,V .u64 v.1),(1,V .u64 v.2),(4,V .u64 0)],[],0⟩
def Rw [An A (Nat×Gq)](L:Nat)(rec:Int→Int→A)(Dc:Int)(Ax:Int):A:=
 (cn (Ax != 0)
 (cn (!decide (Ax=0))
 (rec Ax (Int.tmod Dc Ax))
 fl)
 (lf (0,Dc,Ax)))
def Kw(L:Nat):Nat→Int→Int→Option (Nat×Gq)
 |0,_,_=>none
 |n+1,Dc,Ax=>Rw L (Kw L n) Dc Ax
theorem Av8:LP (EV (O60 L) L 9 c60.u.l.l.l) [0,1,4] [] (Aqp) [.exit 0] (fun n v=>Kw L n v.1 v.2) K:=lE (fun _=>rfl) fun n v ih=>eE (Rw L (fun Dc Ax=>re (ih (Dc,Ax))) v.1 v.2)
def I9 [An A Int](L:Nat)(o1:Nat×Gq):A:=
 (sl o1.1 [(lf o1.2.1)])
def Aoj:Bu:=(Bi 0 (Ek (EV (O60 L) L 9 c60.u.r) (Gv Tryd.prog (RS Tryd.f60) kk)))
theorem Ay3(o1:Nat×Gq):kX [.exit 0] (Aqp) (Aoj L kk) o1=ob (I9 L o1) (A1j kk):=eE (I9 L o1)
def m7 [An A Int](a0:Int)(a1:Int):A:=(bd (Kw L L a0 a1) fun o1=>I9 L o1)
def Gs(a0:Int)(a1:Int):Option Int:=m7 L a0 a1
def X60:Hy:=E2 (fun(x:Int)=>V .u64 x) 60 (cI .u64) (cI .u64) (Gs L) fun a0 a1 r h=>hF Tryd.func60 (C:=O60 L) (oS _) L (fun kk=>eE ((ho (Av8 L (Aoj L kk) L (a0,a1)) fun o1=>Ay3 L kk o1))) h
def Sw [An A Bool](a0:Aa):A:=
 (cn (decide (a0.D≥1))
 (cn (decide (a0.D≤1000000000000000))
 (bd (Ba L a0.N) fun r1=>
 (cn (decide (r1≤4611686018427387904))
 (bd (Ba L a0.N) fun r2=>
 (bd (Gs L r2 (IntKind.wrap .u64 (a0.D))) fun r3=>
 (lf (r3 == 1))))
 (lf false)))
 (lf false))
 (lf false))
def Cg(a0:Aa):Option Bool:=Sw L a0
def X28:Hy:=E1 B 28 Av (Cg L) fun a0 r h=>hF Tryd.func28 (oS [X59 L,X60 L]) L (fun kk=>eE (Sw L a0)) h
def Sv [An A Gq](L:Nat)(a0:Int)(a1:Int):A:=
 (lf ((IntKind.wrap .u64 ((IntKind.wrap .u64 ((IntKind.wrap .u64 ((Int.fdiv a0 (2 ^ 32))*(Int.fdiv a1 (2 ^ 32))))+(Int.fdiv (IntKind.wrap .u64 ((IntKind.wrap .u64 ((Int.fdiv a0 (2 ^ 32))*(IntKind.wrap .u64 (((BitVec.ofInt 64 a1 &&& BitVec.ofInt 64 4294967295).toNat:Int)))))+(Int.fdiv (IntKind.wrap .u64 ((IntKind.wrap .u64 (((BitVec.ofInt 64 a0 &&& BitVec.ofInt 64 4294967295).toNat:Int)))*(IntKind.wrap .u64 (((BitVec.ofInt 64 a1 &&& BitVec.ofInt 64 4294967295).toNat:Int))))) (2 ^ 32)))) (2 ^ 32))))+(Int.fdiv (IntKind.wrap .u64 ((IntKind.wrap .u64 (((BitVec.ofInt 64 (IntKind.wrap .u64 ((IntKind.wrap .u64 ((Int.fdiv a0 (2 ^ 32))*(IntKind.wrap .u64 (((BitVec.ofInt 64 a1 &&& BitVec.ofInt 64 4294967295).toNat:Int)))))+(Int.fdiv (IntKind.wrap .u64 ((IntKind.wrap .u64 (((BitVec.ofInt 64 a0 &&& BitVec.ofInt 64 4294967295).toNat:Int)))*(IntKind.wrap .u64 (((BitVec.ofInt 64 a1 &&& BitVec.ofInt 64 4294967295).toNat:Int))))) (2 ^ 32)))) &&& BitVec.ofInt 64 4294967295).toNat:Int)))+(IntKind.wrap .u64 ((IntKind.wrap .u64 (((BitVec.ofInt 64 a0 &&& BitVec.ofInt 64 4294967295).toNat:Int)))*(Int.fdiv a1 (2 ^ 32)))))) (2 ^ 32)))),(IntKind.wrap .u64 (a0*a1))))
def Gj(a0:Int)(a1:Int):Option Gq:=Sv L a0 a1
def X86:Hy:=E2 (fun(x:Gq)=> .tup [V .u64 x.1,V .u64 x.2]) 86 (cI .u64) (cI .u64) (Gj L) fun a0 a1 r h=>hF Tryd.func86 (oS []) L (fun kk=>eE (Sv L a0 a1)) h
def Sx [An A Ak](a0:Int)(a1:Int):A:=
 (bd (Gj L a0 a1) fun r1=>
 (lf (⟨r1.1,r1.2⟩:Ak)))
def Bh(a0:Int)(a1:Int):Option Ak:=Sx L a0 a1
def X66:Hy:=E2 (fun(x:Ak)=> .agg (J3 x)) 66 (cI .u64) (cI .u64) (Bh L) fun a0 a1 r h=>hF Tryd.func66 (oS [X86 L]) L (fun kk=>eE (Sx L a0 a1)) h
def Nx [An A Ak](L:Nat)(a0:Ak)(a1:Ak):A:=
 (gq ((0:Int)≤1)
 (gq (((Aak a0.u_lo a1.u_lo 0):Int)≤1)
 (lf (⟨(Acf a0.u_hi a1.u_hi (Aak a0.u_lo a1.u_lo 0)),(Acf a0.u_lo a1.u_lo 0)⟩:Ak))))
def Hl(a0:Ak)(a1:Ak):Option Ak:=Nx L a0 a1
def X84:Hy:=E2 (fun(x:Ak)=> .agg (J3 x)) 84 C0 C0 (Hl L) fun a0 a1 r h=>hF Tryd.func84 (oS []) L (fun kk=>eE (Nx L a0 a1)) h
def Ar3(F:Ak→Ak→Option (Ak×Bool)):Prop:=∀y0 y1 r,F y0 y1=some r→Ho Tryd.prog 85 [C0.en y0,C0.en y1] (fun(x:Ak×Bool)=> .tup [.agg (J3 x.1),B x.2]) r
def O85(Sj:Ak→Ak→Option (Ak×Bool))(L:Nat):Aq:=(orc 85 (A2 (fun(x:Ak×Bool)=> .tup [.agg (J3 x.1),B x.2]) C0 C0 Sj) (oL []))
theorem s85(Sj:Ak→Ak→Option (Ak×Bool))(Avh:Ar3 Sj)(L:Nat):C2 Tryd.prog (O85 Sj L):=(Za (a2 _ Avh) (oS []))
def Jf [An A (Ak×Bool)](Sj:Ak→Ak→Option (Ak×Bool))(L:Nat)(a0:Ak)(a1:Ak):A:=
 (jp (.cn (decide (a0.u_hi < a1.u_hi))
 (.lf true)
 (.cn (a0.u_hi == a1.u_hi)
 (.lf (decide (a0.u_lo < a1.u_lo)))
 (.lf false))) (fun b1=>
 (cn b1
 (bd (Sj a1 a0) fun r2=>
 (lf (r2.1,true)))
 (gq ((0:Int)≤1)
 (gq (((Al5 a0.u_lo a1.u_lo 0):Int)≤1)
 (lf ((⟨(Att a0.u_hi a1.u_hi (Al5 a0.u_lo a1.u_lo 0)),(Att a0.u_lo a1.u_lo 0)⟩:Ak),false)))))))
def Gg(Sj:Ak→Ak→Option (Ak×Bool))(L:Nat)(a0:Ak)(a1:Ak):Option (Ak×Bool):=Jf Sj L a0 a1
theorem b85(Sj:Ak→Ak→Option (Ak×Bool))(Avh:Ar3 Sj)(L:Nat):Ar3 (Gg Sj L):=fun a0 a1 r h=>hF Tryd.func85 (s85 Sj Avh L) L (fun kk=>eE (Jf Sj L a0 a1)) h
def B5:Nat→Ak→Ak→Option (Ak×Bool)
 |0,_,_=>none
 |L+1,a0,a1=>Gg (B5 L) L a0 a1
theorem Avg(L:Nat):Ar3 (B5 L):=by
 induction L with
 |zero=>exact fun _ _ _ h=>(by cases h)
 |succ L ih=>
  have i85:=ih
  exact b85 (B5 L) i85 L
def X85(L:Nat):Hy:=E2 (fun(x:Ak×Bool)=> .tup [.agg (J3 x.1),B x.2]) 85 C0 C0 (B5 L) (Avg L)
def Rq [An A (Bool×Ak)](a0:Bool)(a1:Ak)(a2:Bool)(a3:Ak):A:=
 (cn (a0 == a2)
 (bd (Hl L a1 a3) fun r1=>
 (lf (a0,r1)))
 (bd (B5 L a1 a3) fun r2=>
 (lf ((!(a0 == r2.2)),r2.1))))
def Df(a0:Bool)(a1:Ak)(a2:Bool)(a3:Ak):Option (Bool×Ak):=Rq L a0 a1 a2 a3
def X65:Hy:=E4 (fun(x:Bool×Ak)=> .tup [B x.1,.agg (J3 x.2)]) 65 cB C0 cB C0 (Df L) fun a0 a1 a2 a3 r h=>hF Tryd.func65 (oS [X84 L,X85 L]) L (fun kk=>eE (Rq L a0 a1 a2 a3)) h
def c99:=CC Tryd.f99
def O99(L:Nat):Aq:=oL []
def Ap4(p803_0:Int)(p803_1:Int):St:=⟨[(0,V .u64 p803_0),(2,I p803_1)],[],0⟩
def Aov(L:Nat)(kk:R5):Bu:=(Gv Tryd.prog (RS Tryd.f99) kk)
def I4 [An A Int](L:Nat)(p803_0:Int)(p803_1:Int):A:=
 (cn ((if 0≤(IntKind.wrap .u8 (p803_0)) then (⟨#[0,1,2,2,3,3,3,3,4,4,4,4,4,4,4,4,5,5,5,5,5,5,5,5,5,5,5,5,5,5,5,5,6,6,6,6,6,6,6,6,6,6,6,6,6,6,6,6,6,6,6,6,6,6,6,6,6,6,6,6,6,6,6,6,7,7,7,7,7,7,7,7,7,7,7,7,7,7,7,7,7,7,7,7,7,7,7,7,7,7,7,7,7,7,7,7,7,7,7,7,7,7,7,7,7,7,7,7,7,7,7,7,7,7,7,7,7,7,7,7,7,7,7,7,7,7,7,7,8,8,8,8,8,8,8,8,8,8,8,8,8,8,8,8,8,8,8,8,8,8,8,8,8,8,8,8,8,8,8,8,8,8,8,8,8,8,8,8,8,8,8,8,8,8,8,8,8,8,8,8,8,8,8,8,8,8,8,8,8,8,8,8,8,8,8,8,8,8,8,8,8,8,8,8,8,8,8,8,8,8,8,8,8,8,8,8,8,8,8,8,8,8,8,8,8,8,8,8,8,8,8,8,8,8,8,8,8,8,8,8,8,8,8,8,8,8,8,8,8,8,8,8,8,8,8,8]⟩:ByteArray)[Int.toNat (IntKind.wrap .u8 (p803_0))]? else none).isSome)
 (lf (B1 (p803_1+(B1 ((k6 (if 0≤(IntKind.wrap .u8 (p803_0)) then (⟨#[0,1,2,2,3,3,3,3,4,4,4,4,4,4,4,4,5,5,5,5,5,5,5,5,5,5,5,5,5,5,5,5,6,6,6,6,6,6,6,6,6,6,6,6,6,6,6,6,6,6,6,6,6,6,6,6,6,6,6,6,6,6,6,6,7,7,7,7,7,7,7,7,7,7,7,7,7,7,7,7,7,7,7,7,7,7,7,7,7,7,7,7,7,7,7,7,7,7,7,7,7,7,7,7,7,7,7,7,7,7,7,7,7,7,7,7,7,7,7,7,7,7,7,7,7,7,7,7,8,8,8,8,8,8,8,8,8,8,8,8,8,8,8,8,8,8,8,8,8,8,8,8,8,8,8,8,8,8,8,8,8,8,8,8,8,8,8,8,8,8,8,8,8,8,8,8,8,8,8,8,8,8,8,8,8,8,8,8,8,8,8,8,8,8,8,8,8,8,8,8,8,8,8,8,8,8,8,8,8,8,8,8,8,8,8,8,8,8,8,8,8,8,8,8,8,8,8,8,8,8,8,8,8,8,8,8,8,8,8,8,8,8,8,8,8,8,8,8,8,8,8,8,8,8,8,8]⟩:ByteArray)[Int.toNat (IntKind.wrap .u8 (p803_0))]? else none)))))))
 fl)
theorem Avb(p803_0:Int)(p803_1:Int):EV (O99 L) L 9 c99.x (Ap4 p803_0 p803_1) (Aov L kk)=ob (I4 L p803_0 p803_1) (kQ I kk):=eE (I4 L p803_0 p803_1)
def Adv(p802_0:Int)(p802_1:Int):St:=⟨[(0,V .u64 p802_0),(2,I p802_1)],[],0⟩
def Ac2(L:Nat)(kk:R5):Bu:=(Gv Tryd.prog (RS Tryd.f99) kk)
def sx_bits_Len64_2 [An A Int](L:Nat)(p802_0:Int)(p802_1:Int)(nx3:Int→Int→A):A:=
 (cn (decide (p802_0≥256))
 (nx3 (Int.fdiv p802_0 (2 ^ 8)) (B1 (p802_1+8)))
 (nx3 p802_0 p802_1))
def K5 [An A Int](p802_0:Int)(p802_1:Int):A:=sx_bits_Len64_2 L p802_0 p802_1 (fun p803_0 p803_1=>I4 L p803_0 p803_1)
theorem Ave(p802_0:Int)(p802_1:Int)(z3:EC):EV (O99 L) L 9 (EC.put (rl [2]) z3 c99.w.u) (Adv p802_0 p802_1) (Ac2 L kk)= @sx_bits_Len64_2 Prop (anP (kQ I kk)) L p802_0 p802_1 (fun p803_0 p803_1=>EV (O99 L) L 9 z3 (Ap4 p803_0 p803_1) (Aov L kk)):=by kernel_rfl
theorem Ava(p802_0:Int)(p802_1:Int):EV (O99 L) L 9 c99.w.u (Adv p802_0 p802_1) (Ac2 L kk)=ob (K5 L p802_0 p802_1) (kQ I kk):=Eq.trans (b:=EV (O99 L) L 9 (EC.put (rl [2]) c99.x c99.w.u) (Adv p802_0 p802_1) (Ac2 L kk)) (by kernel_rfl) ((Ave L kk p802_0 p802_1 c99.x).trans (eE (sx_bits_Len64_2 L p802_0 p802_1 (fun p803_0 p803_1=>re (Avb L kk p803_0 p803_1)))))
def Adu(p801_0:Int)(p801_1:Int):St:=⟨[(0,V .u64 p801_0),(2,I p801_1)],[],0⟩
def Ac1(L:Nat)(kk:R5):Bu:=(Gv Tryd.prog (RS Tryd.f99) kk)
def sx_bits_Len64_1 [An A Int](L:Nat)(p801_0:Int)(p801_1:Int)(nx2:Int→Int→A):A:=
 (cn (decide (p801_0≥65536))
 (nx2 (Int.fdiv p801_0 (2 ^ 16)) (B1 (p801_1+16)))
 (nx2 p801_0 p801_1))
def K4 [An A Int](p801_0:Int)(p801_1:Int):A:=sx_bits_Len64_1 L p801_0 p801_1 (fun p802_0 p802_1=>K5 L p802_0 p802_1)
theorem Avd(p801_0:Int)(p801_1:Int)(z2:EC):EV (O99 L) L 9 (EC.put (rl [2]) z2 c99.w) (Adu p801_0 p801_1) (Ac1 L kk)= @sx_bits_Len64_1 Prop (anP (kQ I kk)) L p801_0 p801_1 (fun p802_0 p802_1=>EV (O99 L) L 9 z2 (Adv p802_0 p802_1) (Ac2 L kk)):=by kernel_rfl
theorem Au9(p801_0:Int)(p801_1:Int):EV (O99 L) L 9 c99.w (Adu p801_0 p801_1) (Ac1 L kk)=ob (K4 L p801_0 p801_1) (kQ I kk):=Eq.trans (b:=EV (O99 L) L 9 (EC.put (rl [2]) c99.w.u c99.w) (Adu p801_0 p801_1) (Ac1 L kk)) (by kernel_rfl) ((Avd L kk p801_0 p801_1 c99.w.u).trans (eE (sx_bits_Len64_1 L p801_0 p801_1 (fun p802_0 p802_1=>re (Ava L kk p802_0 p802_1)))))
def sx_bits_Len64_0 [An A Int](L:Nat)(a0:Int)(nx1:Int→Int→A):A:=
 (cn (decide (a0≥4294967296))
 (nx1 (Int.fdiv a0 (2 ^ 32)) 32)
 (nx1 a0 0))
def W5 [An A Int](a0:Int):A:=sx_bits_Len64_0 L a0 (fun p801_0 p801_1=>K4 L p801_0 p801_1)
theorem Avc(a0:Int)(z1:EC):EW (O99 L) L 9 (RS Tryd.f99) (EC.put (rl [4]) z1 c99) [V .u64 a0] kk= @sx_bits_Len64_0 Prop (anP (kQ I kk)) L a0 (fun p801_0 p801_1=>EV (O99 L) L 9 z1 (Adu p801_0 p801_1) (Ac1 L kk)):=by kernel_rfl
def Pp(a0:Int):Option Int:=W5 L a0
def X99:Hy:=E1 I 99 (cI .u64) (Pp L) fun a0 r h=>hF Tryd.func99 (C:=O99 L) (oS _) L (fun kk=>Eq.trans (b:=EW (O99 L) L 9 (RS Tryd.f99) (EC.put (rl [4]) c99.w c99) [V .u64 a0] kk) (by kernel_rfl) ((Avc L kk a0 c99.w).trans (eE (sx_bits_Len64_0 L a0 (fun p801_0 p801_1=>re (Au9 L kk p801_0 p801_1)))))) h
def Jb [An A Int](a0:Int):A:=
 (bd (Pp L a0) fun r1=>
 (lf (B1 (64 - r1))))
def F1(a0:Int):Option Int:=Jb L a0
def X98:Hy:=E1 I 98 (cI .u64) (F1 L) fun a0 r h=>hF Tryd.func98 (oS [X99 L]) L (fun kk=>eE (Jb L a0)) h
def c91:=CC Tryd.f91
def O91:Aq:=oL [X98 L]
def Axx:Gq→Prop:=fun x=>kk ((fun(x:Gq)=> .tup [V .u64 x.1,V .u64 x.2]) x)
def Aqz(a2:Int)(r1:Int)(a0:Int)(a1:Int)(v:Gq):St:=⟨[(0,.any),(1,.any),(2,V .u64 (IntKind.wrap .u64 (a2*2 ^ (min (Int.toNat (IntKind.wrap .u64 (r1))) 64)))),(6,V .u64 0),(7,V .u64 0),(8,V .u64 (IntKind.wrap .u64 (r1))),(9,V .u64 (Int.fdiv (IntKind.wrap .u64 (a2*2 ^ (min (Int.toNat (IntKind.wrap .u64 (r1))) 64))) (2 ^ 32))),(10,V .u64 (IntKind.wrap .u64 (((BitVec.ofInt 64 (IntKind.wrap .u64 (a2*2 ^ (min (Int.toNat (IntKind.wrap .u64 (r1))) 64))) &&& BitVec.ofInt 64 4294967295).toNat:Int)))),(11,V .u64 (IntKind.wrap .u64 (((BitVec.ofInt 64 (IntKind.wrap .u64 (a0*2 ^ (min (Int.toNat (IntKind.wrap .u64 (r1))) 64))) ||| BitVec.ofInt 64 (Int.fdiv a1 (2 ^ (min (Int.toNat (IntKind.wrap .u64 (64 - (IntKind.wrap .u64 (r1))))) 64)))).toNat:Int)))),(12,.any),(13,V .u64 (Int.fdiv (IntKind.wrap .u64 (a1*2 ^ (min (Int.toNat (IntKind.wrap .u64 (r1))) 64))) (2 ^ 32))),(14,V .u64 (IntKind.wrap .u64 (((BitVec.ofInt 64 (IntKind.wrap .u64 (a1*2 ^ (min (Int.toNat (IntKind.wrap .u64 (r1))) 64))) &&& BitVec.ofInt 64 4294967295).toNat:Int)))),(15,V .u64 v.1),(16,V .u64 v.2),(17,.any),(18,.any)],[],0⟩
def Ph [An A (Nat×Gq)](L:Nat)(a2:Int)(r1:Int)(a0:Int)(a1:Int)(rec:Int→Int→A)(U2:Int)(O8:Int):A:=
 (jp (.cn (decide (U2≥4294967296))
 (.lf true)
 (.lf (decide ((IntKind.wrap .u64 (U2*(IntKind.wrap .u64 (((BitVec.ofInt 64 (IntKind.wrap .u64 (a2*2 ^ (min (Int.toNat (IntKind.wrap .u64 (r1))) 64))) &&& BitVec.ofInt 64 4294967295).toNat:Int))))) > (IntKind.wrap .u64 ((IntKind.wrap .u64 (4294967296*O8))+(Int.fdiv (IntKind.wrap .u64 (a1*2 ^ (min (Int.toNat (IntKind.wrap .u64 (r1))) 64))) (2 ^ 32)))))))) (fun b2=>
 (cn b2
 (cn (decide ((IntKind.wrap .u64 (O8+(Int.fdiv (IntKind.wrap .u64 (a2*2 ^ (min (Int.toNat (IntKind.wrap .u64 (r1))) 64))) (2 ^ 32))))≥4294967296))
 (lf (0,((IntKind.wrap .u64 (U2 - 1)),(IntKind.wrap .u64 (O8+(Int.fdiv (IntKind.wrap .u64 (a2*2 ^ (min (Int.toNat (IntKind.wrap .u64 (r1))) 64))) (2 ^ 32)))))))
 (rec (IntKind.wrap .u64 (U2 - 1)) (IntKind.wrap .u64 (O8+(Int.fdiv (IntKind.wrap .u64 (a2*2 ^ (min (Int.toNat (IntKind.wrap .u64 (r1))) 64))) (2 ^ 32))))))
 (lf (0,U2,O8)))))
def Iy(L:Nat)(a2:Int)(r1:Int)(a0:Int)(a1:Int):Nat→Int→Int→Option (Nat×Gq)
 |0,_,_=>none
 |n+1,U2,O8=>Ph L a2 r1 a0 a1 (Iy L a2 r1 a0 a1 n) U2 O8
theorem Awh(a2:Int)(r1:Int)(a0:Int)(a1:Int):LP (EV (O91 L) L 9 c91.x.x.x.w.l.l.l) [0,1,2,6,7,8,9,10,11,12,13,14,15,16,17,18] [] (Aqz a2 r1 a0 a1) [.exit 0] (fun n v=>Iy L a2 r1 a0 a1 n v.1 v.2) K:=lE (fun _=>rfl) fun n v ih=>eE (Ph L a2 r1 a0 a1 (fun U2 O8=>re (ih (U2,O8))) v.1 v.2)
def Aq0(a2:Int)(r1:Int)(a1:Int)(o3:Nat×Gq)(a0:Int)(v:Gq):St:=⟨[(0,.any),(1,.any),(2,V .u64 (IntKind.wrap .u64 (a2*2 ^ (min (Int.toNat (IntKind.wrap .u64 (r1))) 64)))),(6,V .u64 0),(7,V .u64 0),(8,V .u64 (IntKind.wrap .u64 (r1))),(9,V .u64 (Int.fdiv (IntKind.wrap .u64 (a2*2 ^ (min (Int.toNat (IntKind.wrap .u64 (r1))) 64))) (2 ^ 32))),(10,V .u64 (IntKind.wrap .u64 (((BitVec.ofInt 64 (IntKind.wrap .u64 (a2*2 ^ (min (Int.toNat (IntKind.wrap .u64 (r1))) 64))) &&& BitVec.ofInt 64 4294967295).toNat:Int)))),(11,.any),(12,.any),(13,.any),(14,V .u64 (IntKind.wrap .u64 (((BitVec.ofInt 64 (IntKind.wrap .u64 (a1*2 ^ (min (Int.toNat (IntKind.wrap .u64 (r1))) 64))) &&& BitVec.ofInt 64 4294967295).toNat:Int)))),(15,V .u64 o3.2.1),(16,V .u64 v.1),(17,V .u64 (IntKind.wrap .u64 ((IntKind.wrap .u64 ((IntKind.wrap .u64 ((IntKind.wrap .u64 (((BitVec.ofInt 64 (IntKind.wrap .u64 (a0*2 ^ (min (Int.toNat (IntKind.wrap .u64 (r1))) 64))) ||| BitVec.ofInt 64 (Int.fdiv a1 (2 ^ (min (Int.toNat (IntKind.wrap .u64 (64 - (IntKind.wrap .u64 (r1))))) 64)))).toNat:Int)))*4294967296))+(Int.fdiv (IntKind.wrap .u64 (a1*2 ^ (min (Int.toNat (IntKind.wrap .u64 (r1))) 64))) (2 ^ 32)))) - (IntKind.wrap .u64 (o3.2.1*(IntKind.wrap .u64 (a2*2 ^ (min (Int.toNat (IntKind.wrap .u64 (r1))) 64)))))))),(18,V .u64 v.2)],[],0⟩
def Pi [An A (Nat×Gq)](L:Nat)(a2:Int)(r1:Int)(a1:Int)(o3:Nat×Gq)(a0:Int)(rec:Int→Int→A)(Ad1:Int)(Yd:Int):A:=
 (jp (.cn (decide (Yd≥4294967296))
 (.lf true)
 (.lf (decide ((IntKind.wrap .u64 (Yd*(IntKind.wrap .u64 (((BitVec.ofInt 64 (IntKind.wrap .u64 (a2*2 ^ (min (Int.toNat (IntKind.wrap .u64 (r1))) 64))) &&& BitVec.ofInt 64 4294967295).toNat:Int))))) > (IntKind.wrap .u64 ((IntKind.wrap .u64 (4294967296*Ad1))+(IntKind.wrap .u64 (((BitVec.ofInt 64 (IntKind.wrap .u64 (a1*2 ^ (min (Int.toNat (IntKind.wrap .u64 (r1))) 64))) &&& BitVec.ofInt 64 4294967295).toNat:Int))))))))) (fun b4=>
 (cn b4
 (cn (decide ((IntKind.wrap .u64 (Ad1+(Int.fdiv (IntKind.wrap .u64 (a2*2 ^ (min (Int.toNat (IntKind.wrap .u64 (r1))) 64))) (2 ^ 32))))≥4294967296))
 (lf (0,((IntKind.wrap .u64 (Ad1+(Int.fdiv (IntKind.wrap .u64 (a2*2 ^ (min (Int.toNat (IntKind.wrap .u64 (r1))) 64))) (2 ^ 32)))),(IntKind.wrap .u64 (Yd - 1)))))
 (rec (IntKind.wrap .u64 (Ad1+(Int.fdiv (IntKind.wrap .u64 (a2*2 ^ (min (Int.toNat (IntKind.wrap .u64 (r1))) 64))) (2 ^ 32)))) (IntKind.wrap .u64 (Yd - 1))))
 (lf (0,Ad1,Yd)))))
def Iz(L:Nat)(a2:Int)(r1:Int)(a1:Int)(o3:Nat×Gq)(a0:Int):Nat→Int→Int→Option (Nat×Gq)
 |0,_,_=>none
 |n+1,Ad1,Yd=>Pi L a2 r1 a1 o3 a0 (Iz L a2 r1 a1 o3 a0 n) Ad1 Yd
theorem Awi(a2:Int)(r1:Int)(a1:Int)(o3:Nat×Gq)(a0:Int):LP (EV (O91 L) L 9 c91.x.x.x.x.w.l.l.l) [0,1,2,6,7,8,9,10,11,12,13,14,15,16,17,18] [] (Aq0 a2 r1 a1 o3 a0) [.exit 2] (fun n v=>Iz L a2 r1 a1 o3 a0 n v.1 v.2) K:=lE (fun _=>rfl) fun n v ih=>eE (Pi L a2 r1 a1 o3 a0 (fun Ad1 Yd=>re (ih (Ad1,Yd))) v.1 v.2)
def I3 [An A Gq](L:Nat)(r1:Int)(o3:Nat×Gq)(a0:Int)(a1:Int)(a2:Int)(o5:Nat×Gq):A:=
 (sl o5.1 [(cn (!decide ((IntKind.wrap .u64 (r1)) < 0))
 (lf ((IntKind.wrap .u64 ((IntKind.wrap .u64 (o3.2.1*4294967296))+o5.2.2)),(Int.fdiv (IntKind.wrap .u64 ((IntKind.wrap .u64 ((IntKind.wrap .u64 ((IntKind.wrap .u64 ((IntKind.wrap .u64 ((IntKind.wrap .u64 ((IntKind.wrap .u64 (((BitVec.ofInt 64 (IntKind.wrap .u64 (a0*2 ^ (min (Int.toNat (IntKind.wrap .u64 (r1))) 64))) ||| BitVec.ofInt 64 (Int.fdiv a1 (2 ^ (min (Int.toNat (IntKind.wrap .u64 (64 - (IntKind.wrap .u64 (r1))))) 64)))).toNat:Int)))*4294967296))+(Int.fdiv (IntKind.wrap .u64 (a1*2 ^ (min (Int.toNat (IntKind.wrap .u64 (r1))) 64))) (2 ^ 32)))) - (IntKind.wrap .u64 (o3.2.1*(IntKind.wrap .u64 (a2*2 ^ (min (Int.toNat (IntKind.wrap .u64 (r1))) 64)))))))*4294967296))+(IntKind.wrap .u64 (((BitVec.ofInt 64 (IntKind.wrap .u64 (a1*2 ^ (min (Int.toNat (IntKind.wrap .u64 (r1))) 64))) &&& BitVec.ofInt 64 4294967295).toNat:Int))))) - (IntKind.wrap .u64 (o5.2.2*(IntKind.wrap .u64 (a2*2 ^ (min (Int.toNat (IntKind.wrap .u64 (r1))) 64))))))) (2 ^ (min (Int.toNat (IntKind.wrap .u64 (r1))) 64)))))
 fl)])
def Aot:Bu:=(Bi 2 (Ek (EV (O91 L) L 9 c91.x.x.x.x.w.r) (Gv Tryd.prog (RS Tryd.f91) kk)))
theorem Azd(a2:Int)(r1:Int)(a1:Int)(o3:Nat×Gq)(a0:Int)(o5:Nat×Gq):kX [.exit 2] (Aq0 a2 r1 a1 o3 a0) (Aot L kk) o5=ob (I3 L r1 o3 a0 a1 a2 o5) (Axx kk):=eE (I3 L r1 o3 a0 a1 a2 o5)
def K7 [An A Gq](L:Nat)(a2:Int)(r1:Int)(a1:Int)(a0:Int)(o3:Nat×Gq)(nx2:Int→(Nat×Gq)→A):A:=
 (sl o3.1 [(cn (!decide ((Int.fdiv (IntKind.wrap .u64 (a2*2 ^ (min (Int.toNat (IntKind.wrap .u64 (r1))) 64))) (2 ^ 32))=0))
 (nx2 r1 o3)
 fl)])
def K3 [An A Gq](a2:Int)(r1:Int)(a1:Int)(a0:Int)(o3:Nat×Gq):A:=K7 L a2 r1 a1 a0 o3 (fun r1 o3=>bd (Iz L a2 r1 a1 o3 a0 L (IntKind.wrap .u64 ((IntKind.wrap .u64 ((IntKind.wrap .u64 ((IntKind.wrap .u64 ((IntKind.wrap .u64 (((BitVec.ofInt 64 (IntKind.wrap .u64 (a0*2 ^ (min (Int.toNat (IntKind.wrap .u64 (r1))) 64))) ||| BitVec.ofInt 64 (Int.fdiv a1 (2 ^ (min (Int.toNat (IntKind.wrap .u64 (64 - (IntKind.wrap .u64 (r1))))) 64)))).toNat:Int)))*4294967296))+(Int.fdiv (IntKind.wrap .u64 (a1*2 ^ (min (Int.toNat (IntKind.wrap .u64 (r1))) 64))) (2 ^ 32)))) - (IntKind.wrap .u64 (o3.2.1*(IntKind.wrap .u64 (a2*2 ^ (min (Int.toNat (IntKind.wrap .u64 (r1))) 64))))))) - (IntKind.wrap .u64 ((IntKind.wrap .u64 (Int.tdiv (IntKind.wrap .u64 ((IntKind.wrap .u64 ((IntKind.wrap .u64 ((IntKind.wrap .u64 (((BitVec.ofInt 64 (IntKind.wrap .u64 (a0*2 ^ (min (Int.toNat (IntKind.wrap .u64 (r1))) 64))) ||| BitVec.ofInt 64 (Int.fdiv a1 (2 ^ (min (Int.toNat (IntKind.wrap .u64 (64 - (IntKind.wrap .u64 (r1))))) 64)))).toNat:Int)))*4294967296))+(Int.fdiv (IntKind.wrap .u64 (a1*2 ^ (min (Int.toNat (IntKind.wrap .u64 (r1))) 64))) (2 ^ 32)))) - (IntKind.wrap .u64 (o3.2.1*(IntKind.wrap .u64 (a2*2 ^ (min (Int.toNat (IntKind.wrap .u64 (r1))) 64))))))) (Int.fdiv (IntKind.wrap .u64 (a2*2 ^ (min (Int.toNat (IntKind.wrap .u64 (r1))) 64))) (2 ^ 32))))*(Int.fdiv (IntKind.wrap .u64 (a2*2 ^ (min (Int.toNat (IntKind.wrap .u64 (r1))) 64))) (2 ^ 32)))))) (IntKind.wrap .u64 (Int.tdiv (IntKind.wrap .u64 ((IntKind.wrap .u64 ((IntKind.wrap .u64 ((IntKind.wrap .u64 (((BitVec.ofInt 64 (IntKind.wrap .u64 (a0*2 ^ (min (Int.toNat (IntKind.wrap .u64 (r1))) 64))) ||| BitVec.ofInt 64 (Int.fdiv a1 (2 ^ (min (Int.toNat (IntKind.wrap .u64 (64 - (IntKind.wrap .u64 (r1))))) 64)))).toNat:Int)))*4294967296))+(Int.fdiv (IntKind.wrap .u64 (a1*2 ^ (min (Int.toNat (IntKind.wrap .u64 (r1))) 64))) (2 ^ 32)))) - (IntKind.wrap .u64 (o3.2.1*(IntKind.wrap .u64 (a2*2 ^ (min (Int.toNat (IntKind.wrap .u64 (r1))) 64))))))) (Int.fdiv (IntKind.wrap .u64 (a2*2 ^ (min (Int.toNat (IntKind.wrap .u64 (r1))) 64))) (2 ^ 32))))) fun o5=>I3 L r1 o3 a0 a1 a2 o5)
def Aos:Bu:=(Bi 0 (Ek (EV (O91 L) L 9 c91.x.x.x.w.r) (Gv Tryd.prog (RS Tryd.f91) kk)))
theorem Azc(a2:Int)(r1:Int)(a0:Int)(a1:Int)(o3:Nat×Gq):kX [.exit 0] (Aqz a2 r1 a0 a1) (Aos L kk) o3=ob (K3 L a2 r1 a1 a0 o3) (Axx kk):=eE (K7 L a2 r1 a1 a0 o3 (fun r1 o3=>ho (Awi L (Aot L kk) a2 r1 a1 o3 a0 L ((IntKind.wrap .u64 ((IntKind.wrap .u64 ((IntKind.wrap .u64 ((IntKind.wrap .u64 ((IntKind.wrap .u64 (((BitVec.ofInt 64 (IntKind.wrap .u64 (a0*2 ^ (min (Int.toNat (IntKind.wrap .u64 (r1))) 64))) ||| BitVec.ofInt 64 (Int.fdiv a1 (2 ^ (min (Int.toNat (IntKind.wrap .u64 (64 - (IntKind.wrap .u64 (r1))))) 64)))).toNat:Int)))*4294967296))+(Int.fdiv (IntKind.wrap .u64 (a1*2 ^ (min (Int.toNat (IntKind.wrap .u64 (r1))) 64))) (2 ^ 32)))) - (IntKind.wrap .u64 (o3.2.1*(IntKind.wrap .u64 (a2*2 ^ (min (Int.toNat (IntKind.wrap .u64 (r1))) 64))))))) - (IntKind.wrap .u64 ((IntKind.wrap .u64 (Int.tdiv (IntKind.wrap .u64 ((IntKind.wrap .u64 ((IntKind.wrap .u64 ((IntKind.wrap .u64 (((BitVec.ofInt 64 (IntKind.wrap .u64 (a0*2 ^ (min (Int.toNat (IntKind.wrap .u64 (r1))) 64))) ||| BitVec.ofInt 64 (Int.fdiv a1 (2 ^ (min (Int.toNat (IntKind.wrap .u64 (64 - (IntKind.wrap .u64 (r1))))) 64)))).toNat:Int)))*4294967296))+(Int.fdiv (IntKind.wrap .u64 (a1*2 ^ (min (Int.toNat (IntKind.wrap .u64 (r1))) 64))) (2 ^ 32)))) - (IntKind.wrap .u64 (o3.2.1*(IntKind.wrap .u64 (a2*2 ^ (min (Int.toNat (IntKind.wrap .u64 (r1))) 64))))))) (Int.fdiv (IntKind.wrap .u64 (a2*2 ^ (min (Int.toNat (IntKind.wrap .u64 (r1))) 64))) (2 ^ 32))))*(Int.fdiv (IntKind.wrap .u64 (a2*2 ^ (min (Int.toNat (IntKind.wrap .u64 (r1))) 64))) (2 ^ 32)))))),(IntKind.wrap .u64 (Int.tdiv (IntKind.wrap .u64 ((IntKind.wrap .u64 ((IntKind.wrap .u64 ((IntKind.wrap .u64 (((BitVec.ofInt 64 (IntKind.wrap .u64 (a0*2 ^ (min (Int.toNat (IntKind.wrap .u64 (r1))) 64))) ||| BitVec.ofInt 64 (Int.fdiv a1 (2 ^ (min (Int.toNat (IntKind.wrap .u64 (64 - (IntKind.wrap .u64 (r1))))) 64)))).toNat:Int)))*4294967296))+(Int.fdiv (IntKind.wrap .u64 (a1*2 ^ (min (Int.toNat (IntKind.wrap .u64 (r1))) 64))) (2 ^ 32)))) - (IntKind.wrap .u64 (o3.2.1*(IntKind.wrap .u64 (a2*2 ^ (min (Int.toNat (IntKind.wrap .u64 (r1))) 64))))))) (Int.fdiv (IntKind.wrap .u64 (a2*2 ^ (min (Int.toNat (IntKind.wrap .u64 (r1))) 64))) (2 ^ 32)))))) fun o5=>Azd L kk a2 r1 a1 o3 a0 o5))
def K6 [An A Gq](a0:Int)(a1:Int)(a2:Int)(nx1:Int→A):A:=
 (cn (a2 == 0)
 fl
 (cn (decide (a2≤a0))
 fl
 (cn (a0 == 0)
 (cn (!decide (a2=0))
 (cn (!decide (a2=0))
 (lf ((IntKind.wrap .u64 (Int.tdiv a1 a2)),(Int.tmod a1 a2)))
 fl)
 fl)
 (bd (F1 L a2) fun r1=>
 (cn (!decide ((IntKind.wrap .u64 (r1)) < 0))
 (cn (!decide ((IntKind.wrap .u64 (r1)) < 0))
 (cn (!decide ((IntKind.wrap .u64 (64 - (IntKind.wrap .u64 (r1)))) < 0))
 (cn (!decide ((IntKind.wrap .u64 (r1)) < 0))
 (cn (!decide ((Int.fdiv (IntKind.wrap .u64 (a2*2 ^ (min (Int.toNat (IntKind.wrap .u64 (r1))) 64))) (2 ^ 32))=0))
 (nx1 r1)
 fl)
 fl)
 fl)
 fl)
 fl)))))
def W4 [An A Gq](a0:Int)(a1:Int)(a2:Int):A:=K6 L a0 a1 a2 (fun r1=>bd (Iy L a2 r1 a0 a1 L (IntKind.wrap .u64 (Int.tdiv (IntKind.wrap .u64 (((BitVec.ofInt 64 (IntKind.wrap .u64 (a0*2 ^ (min (Int.toNat (IntKind.wrap .u64 (r1))) 64))) ||| BitVec.ofInt 64 (Int.fdiv a1 (2 ^ (min (Int.toNat (IntKind.wrap .u64 (64 - (IntKind.wrap .u64 (r1))))) 64)))).toNat:Int))) (Int.fdiv (IntKind.wrap .u64 (a2*2 ^ (min (Int.toNat (IntKind.wrap .u64 (r1))) 64))) (2 ^ 32)))) (IntKind.wrap .u64 ((IntKind.wrap .u64 (((BitVec.ofInt 64 (IntKind.wrap .u64 (a0*2 ^ (min (Int.toNat (IntKind.wrap .u64 (r1))) 64))) ||| BitVec.ofInt 64 (Int.fdiv a1 (2 ^ (min (Int.toNat (IntKind.wrap .u64 (64 - (IntKind.wrap .u64 (r1))))) 64)))).toNat:Int))) - (IntKind.wrap .u64 ((IntKind.wrap .u64 (Int.tdiv (IntKind.wrap .u64 (((BitVec.ofInt 64 (IntKind.wrap .u64 (a0*2 ^ (min (Int.toNat (IntKind.wrap .u64 (r1))) 64))) ||| BitVec.ofInt 64 (Int.fdiv a1 (2 ^ (min (Int.toNat (IntKind.wrap .u64 (64 - (IntKind.wrap .u64 (r1))))) 64)))).toNat:Int))) (Int.fdiv (IntKind.wrap .u64 (a2*2 ^ (min (Int.toNat (IntKind.wrap .u64 (r1))) 64))) (2 ^ 32))))*(Int.fdiv (IntKind.wrap .u64 (a2*2 ^ (min (Int.toNat (IntKind.wrap .u64 (r1))) 64))) (2 ^ 32))))))) fun o3=>K3 L a2 r1 a1 a0 o3)
def H5(a0:Int)(a1:Int)(a2:Int):Option Gq:=W4 L a0 a1 a2
def X91:Hy:=E3 (fun(x:Gq)=> .tup [V .u64 x.1,V .u64 x.2]) 91 (cI .u64) (cI .u64) (cI .u64) (H5 L) fun a0 a1 a2 r h=>hF Tryd.func91 (C:=O91 L) (oS _) L (fun kk=>eE (K6 L a0 a1 a2 (fun r1=>ho (Awh L (Aos L kk) a2 r1 a0 a1 L ((IntKind.wrap .u64 (Int.tdiv (IntKind.wrap .u64 (((BitVec.ofInt 64 (IntKind.wrap .u64 (a0*2 ^ (min (Int.toNat (IntKind.wrap .u64 (r1))) 64))) ||| BitVec.ofInt 64 (Int.fdiv a1 (2 ^ (min (Int.toNat (IntKind.wrap .u64 (64 - (IntKind.wrap .u64 (r1))))) 64)))).toNat:Int))) (Int.fdiv (IntKind.wrap .u64 (a2*2 ^ (min (Int.toNat (IntKind.wrap .u64 (r1))) 64))) (2 ^ 32)))),(IntKind.wrap .u64 ((IntKind.wrap .u64 (((BitVec.ofInt 64 (IntKind.wrap .u64 (a0*2 ^ (min (Int.toNat (IntKind.wrap .u64 (r1))) 64))) ||| BitVec.ofInt 64 (Int.fdiv a1 (2 ^ (min (Int.toNat (IntKind.wrap .u64 (64 - (IntKind.wrap .u64 (r1))))) 64)))).toNat:Int))) - (IntKind.wrap .u64 ((IntKind.wrap .u64 (Int.tdiv (IntKind.wrap .u64 (((BitVec.ofInt 64 (IntKind.wrap .u64 (a0*2 ^ (min (Int.toNat (IntKind.wrap .u64 (r1))) 64))) ||| BitVec.ofInt 64 (Int.fdiv a1 (2 ^ (min (Int.toNat (IntKind.wrap .u64 (64 - (IntKind.wrap .u64 (r1))))) 64)))).toNat:Int))) (Int.fdiv (IntKind.wrap .u64 (a2*2 ^ (min (Int.toNat (IntKind.wrap .u64 (r1))) 64))) (2 ^ 32))))*(Int.fdiv (IntKind.wrap .u64 (a2*2 ^ (min (Int.toNat (IntKind.wrap .u64 (r1))) 64))) (2 ^ 32)))))))) fun o3=>Azc L kk a2 r1 a0 a1 o3))) h
def Pe [An A Int](a0:Ak)(a1:Int):A:=
 (cn (!decide (a1=0))
 (bd (H5 L (Int.tmod a0.u_hi a1) a0.u_lo a1) fun r1=>
 (lf r1.2))
 fl)
def Iv(a0:Ak)(a1:Int):Option Int:=Pe L a0 a1
def X80:Hy:=E2 (fun(x:Int)=>V .u64 x) 80 C0 (cI .u64) (Iv L) fun a0 a1 r h=>hF Tryd.func80 (oS [X91 L]) L (fun kk=>eE (Pe L a0 a1)) h
def Nw [An A So](a0:Ak)(a1:Int):A:=
 (cn (decide (a0.u_hi≥a1))
 (lf (0,false))
 (bd (H5 L a0.u_hi a0.u_lo a1) fun r1=>
 (lf (r1.1,true))))
def Hk(a0:Ak)(a1:Int):Option So:=Nw L a0 a1
def X81:Hy:=E2 (fun(x:So)=> .tup [V .u64 x.1,B x.2]) 81 C0 (cI .u64) (Hk L) fun a0 a1 r h=>hF Tryd.func81 (oS [X91 L]) L (fun kk=>eE (Nw L a0 a1)) h
def T9 [An A Ed](L:Nat)(a0:Bool)(a1:Int)(a2:Int):A:=
 (jp (.cn (decide (a1 > 4611686018427387904))
 (.lf true)
 (.lf (decide (a2 > 1000000000000000)))) (fun b1=>
 (cn b1
 (lf ((⟨0,0⟩:Aa),false))
 (cn a0
 (lf ((⟨(B1 (0 - (B1 (a1)))),(B1 (a2))⟩:Aa),true))
 (lf ((⟨(B1 (a1)),(B1 (a2))⟩:Aa),true))))))
def Jx(a0:Bool)(a1:Int)(a2:Int):Option Ed:=T9 L a0 a1 a2
def X82:Hy:=E3 (fun(x:Ed)=> .tup [.agg (Al x.1),B x.2]) 82 cB (cI .u64) (cI .u64) (Jx L) fun a0 a1 a2 r h=>hF Tryd.func82 (oS []) L (fun kk=>eE (T9 L a0 a1 a2)) h
def Wb [An A Ed](a0:Aa)(a1:Aa)(a2:Bool):A:=
 (bd (Cg L a0) fun r1=>
 (jb (.cn (!r1)
 (.lf true)
 (.bd (Cg L a1) fun r3=>
 (.lf (!r3)))) (fun b2=>
 (cn b2
 (lf ((⟨0,0⟩:Aa),false))
 (bd (Gs L (IntKind.wrap .u64 (a0.D)) (IntKind.wrap .u64 (a1.D))) fun r4=>
 (bd (Ba L a0.N) fun r5=>
 (cn (!decide (r4=0))
 (bd (Bh L r5 (IntKind.wrap .u64 (Int.tdiv (IntKind.wrap .u64 (a1.D)) r4))) fun r6=>
 (bd (Ba L a1.N) fun r7=>
 (cn (!decide (r4=0))
 (bd (Bh L r7 (IntKind.wrap .u64 (Int.tdiv (IntKind.wrap .u64 (a0.D)) r4))) fun r8=>
 (bd (Df L (decide (a0.N < 0)) r6 (!((decide (a1.N < 0)) == a2)) r8) fun r9=>
 (cn ((r9.2.u_hi == 0) && ((r9.2.u_lo == 0) && true))
 (lf ((⟨0,1⟩:Aa),true))
 (bd (Iv L r9.2 r4) fun r10=>
 (bd (Gs L r10 r4) fun r11=>
 (bd (Hk L r9.2 r11) fun r12=>
 (cn (!decide (r4=0))
 (cn (!decide (r11=0))
 (bd (Bh L (IntKind.wrap .u64 (Int.tdiv (IntKind.wrap .u64 (a0.D)) r4)) (IntKind.wrap .u64 (Int.tdiv (IntKind.wrap .u64 (a1.D)) r11))) fun r13=>
 (jp (.cn (!r12.2)
 (.lf true)
 (.lf (r13.u_hi != 0))) (fun b14=>
 (cn b14
 (lf ((⟨0,0⟩:Aa),false))
 (bd (Jx L r9.1 r12.1 r13.u_lo) fun r15=>
 (lf (r15.1,r15.2)))))))
 fl)
 fl)))))))
 fl)))
 fl)))))))
def M8(a0:Aa)(a1:Aa)(a2:Bool):Option Ed:=Wb L a0 a1 a2
def X55:Hy:=E3 (fun(x:Ed)=> .tup [.agg (Al x.1),B x.2]) 55 Av Av cB (M8 L) fun a0 a1 a2 r h=>hF Tryd.func55 (oS [X28 L,X59 L,X60 L,X65 L,X66 L,X80 L,X81 L,X82 L]) L (fun kk=>eE (Wb L a0 a1 a2)) h
def V6 [An A Ed](a0:Aa)(a1:Aa):A:=
 (bd (M8 L a0 a1 false) fun r1=>
 (lf (r1.1,r1.2)))
def Gr(a0:Aa)(a1:Aa):Option Ed:=V6 L a0 a1
def X22:Hy:=E2 (fun(x:Ed)=> .tup [.agg (Al x.1),B x.2]) 22 Av Av (Gr L) fun a0 a1 r h=>hF Tryd.func22 (oS [X55 L]) L (fun kk=>eE (V6 L a0 a1)) h
def c63:=CC Tryd.f63
def O63:Aq:=oL [X22 L]
def A1l:Ed→Prop:=fun x=>kk ((fun(x:Ed)=> .tup [.agg (Al x.1),B x.2]) x)
def Aqr(a0:List Aa)(v:Bool×Int×Int×Int×Int×Int):St:=⟨[(0,.any),(2,.loc 2 0),(3,B v.1),(4,.loc 4 0),(10,lv (.t24 a0)),(11,I (a0.length:Int)),(12,I v.2.1)],[(2,[I v.2.2.1,I v.2.2.2.1]),(4,[I v.2.2.2.2.1,I v.2.2.2.2.2])],0⟩
def Oi [An A (Nat×Bool×Int×Int×Int×Int×Int)](a0:List Aa)(rec:Bool→Int→Int→Int→Int→Int→A)(Dc:Bool)(Af:Int)(Ai:Int)(Ar:Int)(Ao:Int)(Au:Int):A:=
 (lw Af a0
 (bd (Gr L (⟨Ao,Au⟩:Aa) (a0.getD (Int.toNat Af) default)) fun r1=>
 (cn (!r1.2)
 (lf (0,false,Af,0,0,Ao,Au))
 (rec Dc (B1 (Af+1)) Ai Ar r1.1.N r1.1.D)))
 (lf (1,Dc,Af,Ai,Ar,Ao,Au)))
def Gz(L:Nat)(a0:List Aa):Nat→Bool→Int→Int→Int→Int→Int→Option (Nat×Bool×Int×Int×Int×Int×Int)
 |0,_,_,_,_,_,_=>none
 |n+1,Dc,Af,Ai,Ar,Ao,Au=>Oi L a0 (Gz L a0 n) Dc Af Ai Ar Ao Au
theorem Awa(a0:List Aa):LP (EV (O63 L) L 9 c63.w.l.u.l.l) [0,2,3,4,10,11,12] [2,4] (Aqr a0) [.ret,.exit 0] (fun n v=>Gz L a0 n v.1 v.2.1 v.2.2.1 v.2.2.2.1 v.2.2.2.2.1 v.2.2.2.2.2) K:=lE (fun _=>rfl) fun n v ih=>eE (Oi L a0 (fun Dc Af Ai Ar Ao Au=>re (ih (Dc,Af,Ai,Ar,Ao,Au))) v.1 v.2.1 v.2.2.1 v.2.2.2.1 v.2.2.2.2.1 v.2.2.2.2.2)
def Kz [An A Ed](L:Nat)(o2:Nat×Bool×Int×Int×Int×Int×Int):A:=
 (sl o2.1 [(lf ((⟨o2.2.2.2.1,o2.2.2.2.2.1⟩:Aa),o2.2.1)),
 (lf ((⟨o2.2.2.2.2.2.1,o2.2.2.2.2.2.2⟩:Aa),true))])
def Aol:Bu:=(Bi 0 (Ek (EV (O63 L) L 9 c63.w.r) (Gv Tryd.prog (RS Tryd.f63) kk)))
theorem Ay5(a0:List Aa)(o2:Nat×Bool×Int×Int×Int×Int×Int):kX [.ret,.exit 0] (Aqr a0) (Aol L kk) o2=ob (Kz L o2) (A1l kk):=eE (Kz L o2)
def m6 [An A Ed](a0:List Aa):A:=(bd (Gz L a0 L false 0 0 0 0 1) fun o2=>Kz L o2)
def Lc(a0:List Aa):Option Ed:=m6 L a0
def X63:Hy:=E1 (fun(x:Ed)=> .tup [.agg (Al x.1),B x.2]) 63 S3 (Lc L) fun a0 r h=>hF Tryd.func63 (C:=O63 L) (oS _) L (fun kk=>eE ((ho (Awa L (Aol L kk) a0 L (false,0,0,0,0,1)) fun o2=>Ay5 L kk a0 o2))) h
def Ob [An A Aa](L:Nat)(a0:Int):A:=
 (lf (⟨a0,1⟩:Aa))
def Ko(a0:Int):Option Aa:=Ob L a0
def X90:Hy:=E1 (fun(x:Aa)=> .agg (Al x)) 90 (cI .i64) (Ko L) fun a0 r h=>hF Tryd.func90 (oS []) L (fun kk=>eE (Ob L a0)) h
def Qk [An A Ed](a0:Bool)(a1:Int)(a2:Int)(a3:Int)(a4:Int):A:=
 (bd (Gs L a1 a4) fun r1=>
 (bd (Gs L a3 a2) fun r2=>
 (cn (!decide (r1=0))
 (cn (!decide (r2=0))
 (bd (Bh L (IntKind.wrap .u64 (Int.tdiv a1 r1)) (IntKind.wrap .u64 (Int.tdiv a3 r2))) fun r3=>
 (cn (!decide (r2=0))
 (cn (!decide (r1=0))
 (bd (Bh L (IntKind.wrap .u64 (Int.tdiv a2 r2)) (IntKind.wrap .u64 (Int.tdiv a4 r1))) fun r4=>
 (jp (.cn (r3.u_hi != 0)
 (.lf true)
 (.lf (r4.u_hi != 0))) (fun b5=>
 (cn b5
 (lf ((⟨0,0⟩:Aa),false))
 (jp (.cn a0
 (.lf (r3.u_lo != 0))
 (.lf false)) (fun b6=>
 (bd (Jx L b6 r3.u_lo r4.u_lo) fun r7=>
 (lf (r7.1,r7.2)))))))))
 fl)
 fl))
 fl)
 fl)))
def Hj(a0:Bool)(a1:Int)(a2:Int)(a3:Int)(a4:Int):Option Ed:=Qk L a0 a1 a2 a3 a4
def X83:Hy:=E5 (fun(x:Ed)=> .tup [.agg (Al x.1),B x.2]) 83 cB (cI .u64) (cI .u64) (cI .u64) (cI .u64) (Hj L) fun a0 a1 a2 a3 a4 r h=>hF Tryd.func83 (oS [X60 L,X66 L,X82 L]) L (fun kk=>eE (Qk L a0 a1 a2 a3 a4)) h
def V8 [An A Ed](a0:Aa)(a1:Aa):A:=
 (bd (Cg L a0) fun r1=>
 (jb (.cn (!r1)
 (.lf true)
 (.bd (Cg L a1) fun r3=>
 (.lf (!r3)))) (fun b2=>
 (jp (.cn b2
 (.lf true)
 (.lf (a1.N == 0))) (fun b4=>
 (cn b4
 (lf ((⟨0,0⟩:Aa),false))
 (bd (Ba L a0.N) fun r5=>
 (bd (Ba L a1.N) fun r6=>
 (bd (Hj L (!((decide (a0.N < 0)) == (decide (a1.N < 0)))) r5 (IntKind.wrap .u64 (a0.D)) (IntKind.wrap .u64 (a1.D)) r6) fun r7=>
 (lf (r7.1,r7.2)))))))))))
def Lb(a0:Aa)(a1:Aa):Option Ed:=V8 L a0 a1
def X64:Hy:=E2 (fun(x:Ed)=> .tup [.agg (Al x.1),B x.2]) 64 Av Av (Lb L) fun a0 a1 r h=>hF Tryd.func64 (oS [X28 L,X59 L,X83 L]) L (fun kk=>eE (V8 L a0 a1)) h
def Su [An A Ed](a0:List Aa):A:=
 (bd (Lc L a0) fun r1=>
 (jp (.cn (!r1.2)
 (.lf true)
 (.lf ((a0.length:Int) == 0))) (fun b2=>
 (cn b2
 (lf ((⟨0,0⟩:Aa),false))
 (bd (Ko L (a0.length:Int)) fun r3=>
 (bd (Lb L r1.1 r3) fun r4=>
 (lf (r4.1,r4.2))))))))
def L5(a0:List Aa):Option Ed:=Su L a0
def X87:Hy:=E1 (fun(x:Ed)=> .tup [.agg (Al x.1),B x.2]) 87 S3 (L5 L) fun a0 r h=>hF Tryd.func87 (oS [X63 L,X64 L,X90 L]) L (fun kk=>eE (Su L a0)) h
def Ss [An A Ed](a0:List Aa):A:=
 (cn (decide ((a0.length:Int) > 50))
 (lf ((⟨0,0⟩:Aa),false))
 (bd (L5 L a0) fun r1=>
 (lf (r1.1,r1.2))))
def Po(a0:List Aa):Option Ed:=Ss L a0
def X67:Hy:=E1 (fun(x:Ed)=> .tup [.agg (Al x.1),B x.2]) 67 S3 (Po L) fun a0 r h=>hF Tryd.func67 (oS [X87 L]) L (fun kk=>eE (Ss L a0)) h
def Wa [An A Ed](a0:Aa)(a1:Aa):A:=
 (bd (M8 L a0 a1 true) fun r1=>
 (lf (r1.1,r1.2)))
def Jw(a0:Aa)(a1:Aa):Option Ed:=Wa L a0 a1
def X58:Hy:=E2 (fun(x:Ed)=> .tup [.agg (Al x.1),B x.2]) 58 Av Av (Jw L) fun a0 a1 r h=>hF Tryd.func58 (oS [X55 L]) L (fun kk=>eE (Wa L a0 a1)) h
def c88:=CC Tryd.f88
def O88:Aq:=oL [X58 L,X87 L]
def A1o:((List Aa)×Bool)→Prop:=fun x=>kk ((fun(x:(List Aa)×Bool)=> .tup [lv (.t24 x.1),B x.2]) x)
def Aqx(a0:List Aa)(r1:Ed)(v:Tu9):St:=⟨[(0,.any),(2,.lst true (.t24 v.1)),(3,B v.2.1),(4,.loc 4 0),(5,.any),(6,.lst true (.t24 v.2.2.1)),(18,lv (.t24 a0)),(19,I (a0.length:Int)),(20,I v.2.2.2)],[(4,(Al r1.1))],0⟩
def F5 [An A (Nat×Tu9)](a0:List Aa)(r1:Ed)(rec:List Aa→Bool→List Aa→Int→A)(Dc:List Aa)(Ax:Bool)(Ae:List Aa)(Ar:Int):A:=
 (lw Ar a0
 (bd (Jw L (a0.getD (Int.toNat Ar) default) r1.1) fun r2=>
 (cn (!r2.2)
 (lf (0,[],false,Ae,Ar))
 (gq ((Ae.length+ [r2.1].length)*16≤140737488355328)
 (gq (Ae.length+ [r2.1].length≤maxLen)
 (rec Dc Ax (Ae++ [r2.1]) (B1 (Ar+1)))))))
 (lf (1,Dc,Ax,Ae,Ar)))
def Cc(L:Nat)(a0:List Aa)(r1:Ed):Nat→List Aa→Bool→List Aa→Int→Option (Nat×Tu9)
 |0,_,_,_,_=>none
 |n+1,Dc,Ax,Ae,Ar=>F5 L a0 r1 (Cc L a0 r1 n) Dc Ax Ae Ar
theorem Awf(a0:List Aa)(r1:Ed):LP (EV (O88 L) L 9 c88.x.l.u.l.l) [0,2,3,4,5,6,18,19,20] [4] (Aqx a0 r1) [.ret,.exit 0] (fun n v=>Cc L a0 r1 n v.1 v.2.1 v.2.2.1 v.2.2.2) K:=lE (fun _=>rfl) fun n v ih=>eE (F5 L a0 r1 (fun Dc Ax Ae Ar=>re (ih (Dc,Ax,Ae,Ar))) v.1 v.2.1 v.2.2.1 v.2.2.2)
def Dx [An A ((List Aa)×Bool)](L:Nat)(o3:Nat×Tu9):A:=
 (sl o3.1 [(lf (o3.2.1,o3.2.2.1)),
 (lf (o3.2.2.2.1,true))])
def Aoq:Bu:=(Bi 0 (Ek (EV (O88 L) L 9 c88.x.r) (Gv Tryd.prog (RS Tryd.f88) kk)))
theorem Aza(a0:List Aa)(r1:Ed)(o3:Nat×Tu9):kX [.ret,.exit 0] (Aqx a0 r1) (Aoq L kk) o3=ob (Dx L o3) (A1o kk):=eE (Dx L o3)
def Gc [An A ((List Aa)×Bool)](a0:List Aa)(nx1:Ed→A):A:=
 (bd (L5 L a0) fun r1=>
 (cn (!r1.2)
 (lf ([],false))
 (nx1 r1)))
def Qj [An A ((List Aa)×Bool)](a0:List Aa):A:=Gc L a0 (fun r1=>bd (Cc L a0 r1 L [] false [] 0) fun o3=>Dx L o3)
def H4(a0:List Aa):Option ((List Aa)×Bool):=Qj L a0
def X88:Hy:=E1 (fun(x:(List Aa)×Bool)=> .tup [lv (.t24 x.1),B x.2]) 88 S3 (H4 L) fun a0 r h=>hF Tryd.func88 (C:=O88 L) (oS _) L (fun kk=>eE (Gc L a0 (fun r1=>ho (Awf L (Aoq L kk) a0 r1 L ([],false,[],0)) fun o3=>Aza L kk a0 r1 o3))) h
def V9 [An A Ed](a0:Aa)(a1:Aa):A:=
 (bd (Cg L a0) fun r1=>
 (jb (.cn (!r1)
 (.lf true)
 (.bd (Cg L a1) fun r3=>
 (.lf (!r3)))) (fun b2=>
 (cn b2
 (lf ((⟨0,0⟩:Aa),false))
 (bd (Ba L a0.N) fun r4=>
 (bd (Ba L a1.N) fun r5=>
 (bd (Hj L (!((decide (a0.N < 0)) == (decide (a1.N < 0)))) r4 (IntKind.wrap .u64 (a0.D)) r5 (IntKind.wrap .u64 (a1.D))) fun r6=>
 (lf (r6.1,r6.2)))))))))
def M7(a0:Aa)(a1:Aa):Option Ed:=V9 L a0 a1
def X97:Hy:=E2 (fun(x:Ed)=> .tup [.agg (Al x.1),B x.2]) 97 Av Av (M7 L) fun a0 a1 r h=>hF Tryd.func97 (oS [X28 L,X59 L,X83 L]) L (fun kk=>eE (V9 L a0 a1)) h
def c89:=CC Tryd.f89
def O89:Aq:=oL [X63 L,X97 L]
def A1p:Ed→Prop:=fun x=>kk ((fun(x:Ed)=> .tup [.agg (Al x.1),B x.2]) x)
def Aqy(a0:List Aa)(a1:List Aa)(v:Aaj):St:=⟨[(0,lv (.t24 a0)),(1,lv (.t24 a1)),(4,.loc 4 0),(5,B v.1),(6,.lst true (.t24 v.2.1)),(11,I (a0.length:Int)),(12,I v.2.2.1)],[(4,[I v.2.2.2.1,I v.2.2.2.2])],0⟩
def Hg [An A (Nat×Aaj)](a0:List Aa)(a1:List Aa)(rec:Bool→List Aa→Int→Int→Int→A)(Ae:Bool)(Af:List Aa)(Ar:Int)(Ao:Int)(Au:Int):A:=
 (lw Ar a0
 (gi Ar a1
 (bd (M7 L (a0.getD (Int.toNat Ar) default) (a1.getD (Int.toNat Ar) default)) fun r1=>
 (cn (!r1.2)
 (lf (0,false,Af,Ar,0,0))
 (gq ((Af.length+ [r1.1].length)*16≤140737488355328)
 (gq (Af.length+ [r1.1].length≤maxLen)
 (rec Ae (Af++ [r1.1]) (B1 (Ar+1)) Ao Au))))))
 (lf (1,Ae,Af,Ar,Ao,Au)))
def Ct(L:Nat)(a0:List Aa)(a1:List Aa):Nat→Bool→List Aa→Int→Int→Int→Option (Nat×Aaj)
 |0,_,_,_,_,_=>none
 |n+1,Ae,Af,Ar,Ao,Au=>Hg L a0 a1 (Ct L a0 a1 n) Ae Af Ar Ao Au
theorem Awg(a0:List Aa)(a1:List Aa):LP (EV (O89 L) L 9 c89.w.l.u.l.l) [0,1,4,5,6,11,12] [4] (Aqy a0 a1) [.ret,.exit 0] (fun n v=>Ct L a0 a1 n v.1 v.2.1 v.2.2.1 v.2.2.2.1 v.2.2.2.2) K:=lE (fun _=>rfl) fun n v ih=>eE (Hg L a0 a1 (fun Ae Af Ar Ao Au=>re (ih (Ae,Af,Ar,Ao,Au))) v.1 v.2.1 v.2.2.1 v.2.2.2.1 v.2.2.2.2)
def Ei [An A Ed](o2:Nat×Aaj):A:=
 (sl o2.1 [(lf ((⟨o2.2.2.2.2.1,o2.2.2.2.2.2⟩:Aa),o2.2.1)),
 (bd (Lc L o2.2.2.1) fun r3=>
 (lf (r3.1,r3.2)))])
def Aor:Bu:=(Bi 0 (Ek (EV (O89 L) L 9 c89.w.r) (Gv Tryd.prog (RS Tryd.f89) kk)))
theorem Azb(a0:List Aa)(a1:List Aa)(o2:Nat×Aaj):kX [.ret,.exit 0] (Aqy a0 a1) (Aor L kk) o2=ob (Ei L o2) (A1p kk):=eE (Ei L o2)
def R7 [An A Ed](a0:List Aa)(a1:List Aa):A:=(bd (Ct L a0 a1 L false [] 0 0 0) fun o2=>Ei L o2)
def Kb(a0:List Aa)(a1:List Aa):Option Ed:=R7 L a0 a1
def X89:Hy:=E2 (fun(x:Ed)=> .tup [.agg (Al x.1),B x.2]) 89 S3 S3 (Kb L) fun a0 a1 r h=>hF Tryd.func89 (C:=O89 L) (oS _) L (fun kk=>eE ((ho (Awg L (Aor L kk) a0 a1 L (false,[],0,0,0)) fun o2=>Azb L kk a0 a1 o2))) h
def M9 [An A Ed](a0:List Aa):A:=
 (jp (.cn (decide ((a0.length:Int) < 2))
 (.lf true)
 (.lf (decide ((a0.length:Int) > 50)))) (fun b1=>
 (cn b1
 (lf ((⟨0,0⟩:Aa),false))
 (bd (H4 L a0) fun r2=>
 (cn (!r2.2)
 (lf ((⟨0,0⟩:Aa),false))
 (bd (Kb L r2.1 r2.1) fun r3=>
 (cn (!r3.2)
 (lf ((⟨0,0⟩:Aa),false))
 (bd (Ko L (B1 ((a0.length:Int) - 1))) fun r4=>
 (bd (Lb L r3.1 r4) fun r5=>
 (lf (r5.1,r5.2)))))))))))
def Ka(a0:List Aa):Option Ed:=M9 L a0
def X68:Hy:=E1 (fun(x:Ed)=> .tup [.agg (Al x.1),B x.2]) 68 S3 (Ka L) fun a0 r h=>hF Tryd.func68 (oS [X64 L,X88 L,X89 L,X90 L]) L (fun kk=>eE (M9 L a0)) h
def Kn [An A So](L:Nat)(a0:Int):A:=
 (jp (.cn (decide (a0 < 1))
 (.lf true)
 (.lf (decide (a0 > 50)))) (fun b1=>
 (cn b1
 (lf (0,false))
 (cn (decide (a0≤(gl0.length:Int)))
 (gi (B1 (a0 - 1)) gl0
 (lf ((gl0.getD (Int.toNat (B1 (a0 - 1))) default),true)))
 (cn (decide (a0≤40))
 (lf (2021,true))
 (lf (2009,true)))))))
def Ee(a0:Int):Option So:=Kn L a0
def X69:Hy:=E1 (fun(x:So)=> .tup [I x.1,B x.2]) 69 (cI .i64) (Ee L) fun a0 r h=>hF Tryd.func69 (oS []) L (fun kk=>eE (Kn L a0)) h
def c93:=CC Tryd.f93
def c70:=CC Tryd.f70
def O70:Aq:=oL [X86 L,X91 L]
def Axw:So→Prop:=fun x=>kk ((fun(x:So)=> .tup [I x.1,B x.2]) x)
def Aqt(a2:Aa)(r1:Gq)(a0:Int)(r2:Gq)(v:Gq):St:=⟨[(0,.any),(1,.clo 94 0 [.loc 11 0,.loc 13 0]),(4,I 0),(5,I v.1),(6,I v.2)],[(5,(Al a2)),(11,[V .u64 (IntKind.wrap .u64 ((IntKind.wrap .u64 (Int.tdiv r1.1 (IntKind.wrap .u64 ((B1 (a0*a2.D))))))+(Aak r2.1 1 0)))]),(13,[V .u64 (Acf r2.1 1 0)])],14⟩
def Lf [An A (Nat×Gq)](a2:Aa)(r1:Gq)(a0:Int)(r2:Gq)(rec:Int→Int→A)(Ax:Int)(Ae:Int):A:=
 (cn (decide (Ax < Ae))
 (bd (Gj L (IntKind.wrap .u64 ((B1 ((Int.fdiv (IntKind.wrap .u64 ((B1 (Ax+Ae)))) (2 ^ 1)))))) (IntKind.wrap .u64 ((B1 ((Int.fdiv (IntKind.wrap .u64 ((B1 (Ax+Ae)))) (2 ^ 1))))))) fun r3=>
 (jp (.cn (decide (r3.1 > (IntKind.wrap .u64 ((IntKind.wrap .u64 (Int.tdiv r1.1 (IntKind.wrap .u64 ((B1 (a0*a2.D))))))+(Aak r2.1 1 0)))))
 (.lf true)
 (.cn (r3.1 == (IntKind.wrap .u64 ((IntKind.wrap .u64 (Int.tdiv r1.1 (IntKind.wrap .u64 ((B1 (a0*a2.D))))))+(Aak r2.1 1 0))))
 (.lf (decide (r3.2≥(Acf r2.1 1 0))))
 (.lf false))) (fun b4=>
 (cn (!b4)
 (rec (B1 ((B1 ((Int.fdiv (IntKind.wrap .u64 ((B1 (Ax+Ae)))) (2 ^ 1))))+1)) Ae)
 (rec Ax (B1 ((Int.fdiv (IntKind.wrap .u64 ((B1 (Ax+Ae)))) (2 ^ 1)))))))))
 (lf (0,Ax,Ae)))
def Dz(L:Nat)(a2:Aa)(r1:Gq)(a0:Int)(r2:Gq):Nat→Int→Int→Option (Nat×Gq)
 |0,_,_=>none
 |n+1,Ax,Ae=>Lf L a2 r1 a0 r2 (Dz L a2 r1 a0 r2 n) Ax Ae
theorem Awb(a2:Aa)(r1:Gq)(a0:Int)(r2:Gq):LP (EV (O70 L) L 8 c93.w.l.l.l) [0,1,4,5,6] [5,11,13] (Aqt a2 r1 a0 r2) [.exit 0] (fun n v=>Dz L a2 r1 a0 r2 n v.1 v.2) K:=lE (fun _=>rfl) fun n v ih=>eE (Lf L a2 r1 a0 r2 (fun Ax Ae=>re (ih (Ax,Ae))) v.1 v.2)
def Aqu(a2:Aa)(r1:Gq)(a0:Int)(r2:Gq)(v:Gq):St:=⟨[(0,.any),(1,.clo 94 0 [.loc 11 0,.loc 13 0]),(4,I 0),(5,I v.1),(6,I v.2)],[(5,(Al a2)),(11,[V .u64 (IntKind.wrap .u64 (Int.tdiv r1.1 (IntKind.wrap .u64 ((B1 (a0*a2.D))))))]),(13,[V .u64 r2.1])],14⟩
def Lg [An A (Nat×Gq)](a2:Aa)(r1:Gq)(a0:Int)(r2:Gq)(rec:Int→Int→A)(Aad:Int)(D3:Int):A:=
 (cn (decide (Aad < D3))
 (bd (Gj L (IntKind.wrap .u64 ((B1 ((Int.fdiv (IntKind.wrap .u64 ((B1 (Aad+D3)))) (2 ^ 1)))))) (IntKind.wrap .u64 ((B1 ((Int.fdiv (IntKind.wrap .u64 ((B1 (Aad+D3)))) (2 ^ 1))))))) fun r5=>
 (jp (.cn (decide (r5.1 > (IntKind.wrap .u64 (Int.tdiv r1.1 (IntKind.wrap .u64 ((B1 (a0*a2.D))))))))
 (.lf true)
 (.cn (r5.1 == (IntKind.wrap .u64 (Int.tdiv r1.1 (IntKind.wrap .u64 ((B1 (a0*a2.D)))))))
 (.lf (decide (r5.2≥r2.1)))
 (.lf false))) (fun b6=>
 (cn (!b6)
 (rec (B1 ((B1 ((Int.fdiv (IntKind.wrap .u64 ((B1 (Aad+D3)))) (2 ^ 1))))+1)) D3)
 (rec Aad (B1 ((Int.fdiv (IntKind.wrap .u64 ((B1 (Aad+D3)))) (2 ^ 1)))))))))
 (lf (0,Aad,D3)))
def D0(L:Nat)(a2:Aa)(r1:Gq)(a0:Int)(r2:Gq):Nat→Int→Int→Option (Nat×Gq)
 |0,_,_=>none
 |n+1,Aad,D3=>Lg L a2 r1 a0 r2 (D0 L a2 r1 a0 r2 n) Aad D3
theorem Awc(a2:Aa)(r1:Gq)(a0:Int)(r2:Gq):LP (EV (O70 L) L 8 c93.w.l.l.l) [0,1,4,5,6] [5,11,13] (Aqu a2 r1 a0 r2) [.exit 0] (fun n v=>D0 L a2 r1 a0 r2 n v.1 v.2) K:=lE (fun _=>rfl) fun n v ih=>eE (Lg L a2 r1 a0 r2 (fun Aad D3=>re (ih (Aad,D3))) v.1 v.2)
def E9 [An A So](L:Nat)(o7:Nat×Gq):A:=
 (sl o7.1 [(lf (o7.2.1,(decide (o7.2.1≤1000000000000))))])
def Aom(a2:Aa)(r1:Gq)(a0:Int)(r2:Gq):Bu:=(Bi 0 (Ek (EV (O70 L) L 8 c93.w.r) (Xn Tryd.prog (RS Tryd.f93) (Wl Tryd.prog (O70 L) (EI (O70 L) L 9) 1 (List.drop 2 c70.x.w.l.ops) ⟨[(55,.clo 94 0 [.loc 11 0,.loc 13 0]),(6,I 0),(7,B false),(11,.loc 11 0),(13,.loc 13 0)],[(5,(Al a2)),(11,[V .u64 (IntKind.wrap .u64 ((IntKind.wrap .u64 (Int.tdiv r1.1 (IntKind.wrap .u64 ((B1 (a0*a2.D))))))+(Aak r2.1 1 0)))]),(13,[V .u64 (Acf r2.1 1 0)])],0⟩ (some 56) (fun st9=>(Ek (EV (O70 L) L 9 c70.x.w.r) (Gv Tryd.prog (RS Tryd.f70) kk)) .normal st9)))))
theorem Ay6(a2:Aa)(r1:Gq)(a0:Int)(r2:Gq)(o7:Nat×Gq):kX [.exit 0] (Aqt a2 r1 a0 r2) (Aom L kk a2 r1 a0 r2) o7=ob (E9 L o7) (Axw kk):=eE (E9 L o7)
def Fs [An A So](L:Nat)(o8:Nat×Gq):A:=
 (sl o8.1 [(lf (o8.2.1,(decide (o8.2.1≤1000000000000))))])
def Aon(a2:Aa)(r1:Gq)(a0:Int)(r2:Gq):Bu:=(Bi 0 (Ek (EV (O70 L) L 8 c93.w.r) (Xn Tryd.prog (RS Tryd.f93) (Wl Tryd.prog (O70 L) (EI (O70 L) L 9) 1 (List.drop 2 c70.x.w.l.ops) ⟨[(55,.clo 94 0 [.loc 11 0,.loc 13 0]),(6,I 0),(7,B false),(11,.loc 11 0),(13,.loc 13 0)],[(5,(Al a2)),(11,[V .u64 (IntKind.wrap .u64 (Int.tdiv r1.1 (IntKind.wrap .u64 ((B1 (a0*a2.D))))))]),(13,[V .u64 r2.1])],0⟩ (some 56) (fun st9=>(Ek (EV (O70 L) L 9 c70.x.w.r) (Gv Tryd.prog (RS Tryd.f70) kk)) .normal st9)))))
theorem Ay7(a2:Aa)(r1:Gq)(a0:Int)(r2:Gq)(o8:Nat×Gq):kX [.exit 0] (Aqu a2 r1 a0 r2) (Aon L kk a2 r1 a0 r2) o8=ob (Fs L o8) (Axw kk):=eE (Fs L o8)
def Io [An A So](a0:Int)(a1:Int)(a2:Aa)(nx1:Gq→Gq→A)(nx2:Gq→Gq→A):A:=
 (bd (Gj L (IntKind.wrap .u64 ((B1 (a1*a1)))) (IntKind.wrap .u64 (a2.N))) fun r1=>
 (cn (!decide ((IntKind.wrap .u64 ((B1 (a0*a2.D))))=0))
 (cn (!decide ((IntKind.wrap .u64 ((B1 (a0*a2.D))))=0))
 (bd (H5 L (Int.tmod r1.1 (IntKind.wrap .u64 ((B1 (a0*a2.D))))) r1.2 (IntKind.wrap .u64 ((B1 (a0*a2.D))))) fun r2=>
 (cn (decide (r2.2 > 0))
 (gq ((0:Int)≤1)
 (nx1 r1 r2))
 (nx2 r1 r2)))
 fl)
 fl))
def Tw [An A So](a0:Int)(a1:Int)(a2:Aa):A:=Io L a0 a1 a2 (fun r1 r2=>bd (Dz L a2 r1 a0 r2 L 0 1000000000001) fun o7=>E9 L o7) (fun r1 r2=>bd (D0 L a2 r1 a0 r2 L 0 1000000000001) fun o8=>Fs L o8)
def K0(a0:Int)(a1:Int)(a2:Aa):Option So:=Tw L a0 a1 a2
def X70:Hy:=E3 (fun(x:So)=> .tup [I x.1,B x.2]) 70 (cI .i64) (cI .i64) Av (K0 L) fun a0 a1 a2 r h=>hF Tryd.func70 (C:=O70 L) (oS _) L (fun kk=>eE (Io L a0 a1 a2 (fun r1 r2=>ho (Awb L (Aom L kk a2 r1 a0 r2) a2 r1 a0 r2 L (0,1000000000001)) fun o7=>Ay6 L kk a2 r1 a0 r2 o7) (fun r1 r2=>ho (Awc L (Aon L kk a2 r1 a0 r2) a2 r1 a0 r2 L (0,1000000000001)) fun o8=>Ay7 L kk a2 r1 a0 r2 o8))) h
def Ys [An A Ed](a0:Int)(a1:Int):A:=
 (cn (a1 == 0)
 (lf ((⟨0,0⟩:Aa),false))
 (bd (Ba L a0) fun r1=>
 (bd (Ba L a1) fun r2=>
 (bd (Gs L r1 r2) fun r3=>
 (bd (Ba L a0) fun r4=>
 (cn (!decide (r3=0))
 (bd (Ba L a1) fun r5=>
 (cn (!decide (r3=0))
 (bd (Jx L (!((decide (a0 < 0)) == (decide (a1 < 0)))) (IntKind.wrap .u64 (Int.tdiv r4 r3)) (IntKind.wrap .u64 (Int.tdiv r5 r3))) fun r6=>
 (lf (r6.1,r6.2)))
 fl))
 fl))))))
def R4(a0:Int)(a1:Int):Option Ed:=Ys L a0 a1
def X71:Hy:=E2 (fun(x:Ed)=> .tup [.agg (Al x.1),B x.2]) 71 (cI .i64) (cI .i64) (R4 L) fun a0 a1 r h=>hF Tryd.func71 (oS [X59 L,X60 L,X82 L]) L (fun kk=>eE (Ys L a0 a1)) h
def Rr [An A (Ac×Int)](a0:List Aa):A:=
 (cn (decide ((a0.length:Int) < 2))
 (lf ((⟨(⟨0,0⟩:Aa),(⟨0,0⟩:Aa)⟩:Ac),7))
 (cn (decide ((a0.length:Int) > 50))
 (lf ((⟨(⟨0,0⟩:Aa),(⟨0,0⟩:Aa)⟩:Ac),6))
 (bd (Po L a0) fun r1=>
 (bd (Ka L a0) fun r2=>
 (jp (.cn (!r1.2)
 (.lf true)
 (.lf (!r2.2))) (fun b3=>
 (cn b3
 (lf ((⟨(⟨0,0⟩:Aa),(⟨0,0⟩:Aa)⟩:Ac),2))
 (bd (Ee L (B1 ((a0.length:Int) - 1))) fun r4=>
 (bd (K0 L (a0.length:Int) r4.1 r2.1) fun r5=>
 (cn (!r5.2)
 (lf ((⟨(⟨0,0⟩:Aa),(⟨0,0⟩:Aa)⟩:Ac),2))
 (bd (R4 L r5.1 1000) fun r6=>
 (lf ((⟨r1.1,r6.1⟩:Ac),0)))))))))))))
def Kq(a0:List Aa):Option (Ac×Int):=Rr L a0
def X37:Hy:=E1 (fun(x:Ac×Int)=> .tup [.agg (Pv x.1),I x.2]) 37 S3 (Kq L) fun a0 r h=>hF Tryd.func37 (oS [X67 L,X68 L,X69 L,X70 L,X71 L]) L (fun kk=>eE (Rr L a0)) h
end
end Go.Proofs.YtckmlfboedljeaaDoor.Ev
