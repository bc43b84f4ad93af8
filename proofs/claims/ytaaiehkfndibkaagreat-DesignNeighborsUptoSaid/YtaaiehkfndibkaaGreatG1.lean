import Derived.Test.YtaaiehkfndibkaaGreatG0
namespace Go.Proofs.YtaaiehkfndibkaaGreat.Ev
open Go
set_option maxRecDepth 100000
set_option linter.unusedVariables false
set_option linter.unusedSimpArgs false
set_option linter.unnecessarySimpa false
/-! ### simulator/simulatorlaw51.small -/
noncomputable def c9 : EC := (cFn Tryz.prog inl Tryz.f9).getD .stop
def O9  (L : Nat) : Oracle := noC
theorem s9   (L : Nat) : SoundC Tryz.prog (O9 L) := (noC_sound Tryz.prog)
def sh9_1 (a0 : (List api_Factor)) (v1_1 : Bool) (v1_2 : Int) : St := ({ fr := [(0, .lst false (.t59 a0)), (2, B v1_1), (3, I v1_2)], ob := [], base := 0 } : St)
def KK9_1 (a0 : (List api_Factor)) (K : Ex → St → Prop) : Nat × (Bool × Int) → Prop := fun o => seln o.1 [K .ret (sh9_1 a0 o.2.1 o.2.2), K (.exit 0) (sh9_1 a0 o.2.1 o.2.2)]
def lb_L51_small_1 {A : Type} (an : An A)  (L : Nat) (a0 : (List api_Factor)) (rec : Bool → Int → A) (out : Nat × (Bool × Int) → A) (v1_1 : Bool) (v1_2 : Int) : A :=
 (an.cn (decide (v1_2 < (a0.length : Int)))
 (an.gd ((0 : Int) ≤ v1_2)
 (an.gd (v1_2 < ((a0.length : Nat) : Int))
 (an.cn (decide ((((a0.getD (Int.toNat v1_2) default).Levels).length : Int) > 300))
 (an.lf out (0, (false, v1_2)))
 (rec v1_1 (w64 (v1_2 + 1))))))
 (an.lf out (1, (v1_1, v1_2))))
def lp_L51_small_1  (L : Nat) (a0 : (List api_Factor)) : Nat → Bool → Int → Option (Nat × (Bool × Int))
  | 0, _, _ => none
  | n + 1, v1_1, v1_2 => lb_L51_small_1 (anO _)  L a0 (lp_L51_small_1  L a0 n) some v1_1 v1_2
theorem ln9_1  (L : Nat) (a0 : (List api_Factor)) (g : Bool → Int → Option (Nat × (Bool × Int))) (Q : Nat × (Bool × Int) → Prop) (v1_1 : Bool) (v1_2 : Int) : lb_L51_small_1 anP  L a0 (fun v1_1 v1_2 => ob (g v1_1 v1_2) Q) Q v1_1 v1_2 = ob (lb_L51_small_1 (anO _)  L a0 g some v1_1 v1_2) Q := by
  unfold lb_L51_small_1
  dsimp only [anP, anO]
  try simp only [y1, y2, y3, y4, y5 Q, y6, y7, y8 Q, y9, z1, z2, z3, z4]
theorem le9_1  (L : Nat) (a0 : (List api_Factor)) (n : Nat) (v1_1 : Bool) (v1_2 : Int) (K : Ex → St → Prop) : loopN (EV (O9 L) L 9 c9.r.r.r.r.l.r.r.l.l) [0, 2, 3] [] n (sh9_1 a0 v1_1 v1_2) K = ob (lp_L51_small_1  L a0 n v1_1 v1_2) (fun o => KK9_1 a0 K o) := by
  induction n generalizing v1_1 v1_2 with
  | zero => rfl
  | succ n ih =>
    refine Eq.trans (b := lb_L51_small_1 anP  L a0 (fun v1_1 v1_2 => loopN (EV (O9 L) L 9 c9.r.r.r.r.l.r.r.l.l) [0, 2, 3] [] n (sh9_1 a0 v1_1 v1_2) K) (KK9_1 a0 K) v1_1 v1_2) (by kernel_rfl) ?_
    simp only [ih]
    exact ln9_1  L a0 (lp_L51_small_1  L a0 n) (KK9_1 a0 K) v1_1 v1_2
def kc9_1  (L : Nat)  (kk : PV → Prop) : Ex → St → Prop := (kBlock 0 (kSeq (EV (O9 L) L 9 c9.r.r.r.r.r) (kEnd Tryz.prog (RS Tryz.f9) kk)))
theorem q9_1  (L : Nat) (a0 : (List api_Factor)) (kk : PV → Prop) (o1 : Nat × (Bool × Int)) : KK9_1 a0 (kc9_1 L kk) o1 =
 (seln o1.1 [(ob (some o1.2.1) (fun (x : Bool) => kk (B x))),
 (ob (some true) (fun (x : Bool) => kk (B x)))]) := by kernel_rfl
def T_L51_small {A : Type} (an : An A)  (L : Nat) (a0 : (List api_Factor)) (out : Bool → A) : A :=
 (an.cn (decide ((a0.length : Int) > 100))
 (an.lf out false)
 (an.bd (lp_L51_small_1 L a0 L false 0) fun o1 =>
 (an.sl o1.1 [(an.lf out o1.2.1),
 (an.lf out true)])))
def F_L51_small  (L : Nat) (a0 : (List api_Factor)) : Option Bool := T_L51_small (anO _) L a0 some
theorem e9  (L : Nat) (a0 : (List api_Factor)) (kk : PV → Prop) : EW (O9 L) L 9 (RS Tryz.f9) c9 [.lst false (.t59 a0)] kk = ob (F_L51_small L a0) (fun (x : Bool) => kk (B x)) := by
  refine Eq.trans (b := T_L51_small anP L a0 (fun (x : Bool) => kk (B x))) ?_ ?_
  · refine Eq.trans (b := (br (decide ((a0.length : Int) > 100))
 (ob (some false) (fun (x : Bool) => kk (B x)))
 (loopN (EV (O9 L) L 9 c9.r.r.r.r.l.r.r.l.l) [0, 2, 3] [] L (sh9_1 a0 false 0) (kc9_1 L kk)))) (by kernel_rfl) ?_
    unfold T_L51_small
    dsimp only [anP]
    simp only [le9_1, q9_1]
  generalize (fun (x : Bool) => kk (B x)) = Q
  unfold F_L51_small T_L51_small
  dsimp only [anP, anO]
  try simp only [y1, y2, y3, y4, y5 Q, y6, y7, y8 Q, y9, z1, z2, z3, z4]
theorem h9   (L : Nat) (a0 : (List api_Factor)) (r : Bool) (h : F_L51_small L a0 = some r) : Holds Tryz.prog 9 [.lst false (.t59 a0)] (B r) :=
  hE grwOK (s9  L) mixed Tryz.func9 (by kernel_rfl : cFn Tryz.prog inl Tryz.f9 = some c9) (er := fun (x : Bool) => B x) (by kernel_rfl) (e9 L a0) h
/-! ### simulator/num.Clip -/
noncomputable def c66 : EC := (cFn Tryz.prog inl Tryz.f66).getD .stop
def O66  (L : Nat) : Oracle := noC
theorem s66   (L : Nat) : SoundC Tryz.prog (O66 L) := (noC_sound Tryz.prog)
def T_num_Clip {A : Type} (an : An A)  (L : Nat) (a0 : Int) (out : Int → A) : A :=
 (an.lf out (if (if 1000000000000 < a0 then 1000000000000 else a0) > (-1000000000000) then (if 1000000000000 < a0 then 1000000000000 else a0) else (-1000000000000)))
def F_num_Clip  (L : Nat) (a0 : Int) : Option Int := T_num_Clip (anO _) L a0 some
theorem e66  (L : Nat) (a0 : Int) (kk : PV → Prop) : EW (O66 L) L 9 (RS Tryz.f66) c66 [I a0] kk = ob (F_num_Clip L a0) (fun (x : Int) => kk (I x)) := by
  refine Eq.trans (b := T_num_Clip anP L a0 (fun (x : Int) => kk (I x))) (by kernel_rfl) ?_
  generalize (fun (x : Int) => kk (I x)) = Q
  unfold F_num_Clip T_num_Clip
  dsimp only [anP, anO]
  try simp only [y1, y2, y3, y4, y5 Q, y6, y7, y8 Q, y9, z1, z2, z3, z4]
theorem h66   (L : Nat) (a0 : Int) (r : Int) (h : F_num_Clip L a0 = some r) : Holds Tryz.prog 66 [I a0] (I r) :=
  hE grwOK (s66  L) mixed Tryz.func66 (by kernel_rfl : cFn Tryz.prog inl Tryz.f66 = some c66) (er := fun (x : Int) => I x) (by kernel_rfl) (e66 L a0) h
/-! ### simulator/num.size -/
noncomputable def c68 : EC := (cFn Tryz.prog inl Tryz.f68).getD .stop
def O68  (L : Nat) : Oracle := noC
theorem s68   (L : Nat) : SoundC Tryz.prog (O68 L) := (noC_sound Tryz.prog)
def T_num_size {A : Type} (an : An A)  (L : Nat) (a0 : Int) (out : Int → A) : A :=
 (an.lf out (if (w64 (0 - a0)) > a0 then (w64 (0 - a0)) else a0))
def F_num_size  (L : Nat) (a0 : Int) : Option Int := T_num_size (anO _) L a0 some
theorem e68  (L : Nat) (a0 : Int) (kk : PV → Prop) : EW (O68 L) L 9 (RS Tryz.f68) c68 [I a0] kk = ob (F_num_size L a0) (fun (x : Int) => kk (I x)) := by
  refine Eq.trans (b := T_num_size anP L a0 (fun (x : Int) => kk (I x))) (by kernel_rfl) ?_
  generalize (fun (x : Int) => kk (I x)) = Q
  unfold F_num_size T_num_size
  dsimp only [anP, anO]
  try simp only [y1, y2, y3, y4, y5 Q, y6, y7, y8 Q, y9, z1, z2, z3, z4]
theorem h68   (L : Nat) (a0 : Int) (r : Int) (h : F_num_size L a0 = some r) : Holds Tryz.prog 68 [I a0] (I r) :=
  hE grwOK (s68  L) mixed Tryz.func68 (by kernel_rfl : cFn Tryz.prog inl Tryz.f68 = some c68) (er := fun (x : Int) => I x) (by kernel_rfl) (e68 L a0) h
/-! ### math/bits.Mul64 -/
noncomputable def c67 : EC := (cFn Tryz.prog inl Tryz.f67).getD .stop
def O67  (L : Nat) : Oracle := noC
theorem s67   (L : Nat) : SoundC Tryz.prog (O67 L) := (noC_sound Tryz.prog)
def T_bits_Mul64 {A : Type} (an : An A)  (L : Nat) (a0 : Int) (a1 : Int) (out : (Int × Int) → A) : A :=
 (an.lf out ((IntKind.wrap .u64 ((IntKind.wrap .u64 ((IntKind.wrap .u64 ((Int.fdiv a0 (2 ^ 32)) * (Int.fdiv a1 (2 ^ 32)))) + (Int.fdiv (IntKind.wrap .u64 ((IntKind.wrap .u64 ((Int.fdiv a0 (2 ^ 32)) * (IntKind.wrap .u64 (((BitVec.ofInt 64 a1 &&& BitVec.ofInt 64 4294967295).toNat : Int))))) + (Int.fdiv (IntKind.wrap .u64 ((IntKind.wrap .u64 (((BitVec.ofInt 64 a0 &&& BitVec.ofInt 64 4294967295).toNat : Int))) * (IntKind.wrap .u64 (((BitVec.ofInt 64 a1 &&& BitVec.ofInt 64 4294967295).toNat : Int))))) (2 ^ 32)))) (2 ^ 32)))) + (Int.fdiv (IntKind.wrap .u64 ((IntKind.wrap .u64 (((BitVec.ofInt 64 (IntKind.wrap .u64 ((IntKind.wrap .u64 ((Int.fdiv a0 (2 ^ 32)) * (IntKind.wrap .u64 (((BitVec.ofInt 64 a1 &&& BitVec.ofInt 64 4294967295).toNat : Int))))) + (Int.fdiv (IntKind.wrap .u64 ((IntKind.wrap .u64 (((BitVec.ofInt 64 a0 &&& BitVec.ofInt 64 4294967295).toNat : Int))) * (IntKind.wrap .u64 (((BitVec.ofInt 64 a1 &&& BitVec.ofInt 64 4294967295).toNat : Int))))) (2 ^ 32)))) &&& BitVec.ofInt 64 4294967295).toNat : Int))) + (IntKind.wrap .u64 ((IntKind.wrap .u64 (((BitVec.ofInt 64 a0 &&& BitVec.ofInt 64 4294967295).toNat : Int))) * (Int.fdiv a1 (2 ^ 32)))))) (2 ^ 32)))), (IntKind.wrap .u64 (a0 * a1))))
def F_bits_Mul64  (L : Nat) (a0 : Int) (a1 : Int) : Option (Int × Int) := T_bits_Mul64 (anO _) L a0 a1 some
theorem e67  (L : Nat) (a0 : Int) (a1 : Int) (kk : PV → Prop) : EW (O67 L) L 9 (RS Tryz.f67) c67 [V .u64 a0, V .u64 a1] kk = ob (F_bits_Mul64 L a0 a1) (fun (x : (Int × Int)) => kk (.tup [V .u64 x.1, V .u64 x.2])) := by
  refine Eq.trans (b := T_bits_Mul64 anP L a0 a1 (fun (x : (Int × Int)) => kk (.tup [V .u64 x.1, V .u64 x.2]))) (by kernel_rfl) ?_
  generalize (fun (x : (Int × Int)) => kk (.tup [V .u64 x.1, V .u64 x.2])) = Q
  unfold F_bits_Mul64 T_bits_Mul64
  dsimp only [anP, anO]
  try simp only [y1, y2, y3, y4, y5 Q, y6, y7, y8 Q, y9, z1, z2, z3, z4]
theorem h67   (L : Nat) (a0 : Int) (a1 : Int) (r : (Int × Int)) (h : F_bits_Mul64 L a0 a1 = some r) : Holds Tryz.prog 67 [V .u64 a0, V .u64 a1] (.tup [V .u64 r.1, V .u64 r.2]) :=
  hE grwOK (s67  L) mixed Tryz.func67 (by kernel_rfl : cFn Tryz.prog inl Tryz.f67 = some c67) (er := fun (x : (Int × Int)) => .tup [V .u64 x.1, V .u64 x.2]) (by kernel_rfl) (e67 L a0 a1) h
/-! ### simulator/num.Mul -/
noncomputable def c44 : EC := (cFn Tryz.prog inl Tryz.f44).getD .stop
def O44  (L : Nat) : Oracle := (orc 66 (A1 (fun (x : Int) => I x) (cI .i64) (F_num_Clip L)) (orc 67 (A2 (fun (x : (Int × Int)) => .tup [V .u64 x.1, V .u64 x.2]) (cI .u64) (cI .u64) (F_bits_Mul64 L)) (orc 68 (A1 (fun (x : Int) => I x) (cI .i64) (F_num_size L)) noC)))
theorem s44   (L : Nat) : SoundC Tryz.prog (O44 L) := (orc_sound (a1 _ (h66 L)) (orc_sound (a2 _ (h67 L)) (orc_sound (a1 _ (h68 L)) (noC_sound Tryz.prog))))
def T_num_Mul {A : Type} (an : An A)  (L : Nat) (a0 : Int) (a1 : Int) (out : Int → A) : A :=
 (an.bd (F_num_Clip L a0) fun r1 =>
 (an.bd (F_num_Clip L a1) fun r2 =>
 (an.bd (F_num_size L r1) fun r3 =>
 (an.bd (F_num_size L r2) fun r4 =>
 (an.bd (F_bits_Mul64 L (IntKind.wrap .u64 (r3)) (IntKind.wrap .u64 (r4))) fun r5 =>
 (an.jp (bif (r5.1 == 0) then (decide (r5.2 < 1000000000000))
 else false) (fun j => (an.cn (r5.1 == 0)
 (an.ap j (decide (r5.2 < 1000000000000)))
 (an.ap j false))) (fun b6 =>
 (an.cn b6
 (an.cn (!((decide (r1 < 0)) == (decide (r2 < 0))))
 (an.lf out (w64 (0 - (w64 (r5.2)))))
 (an.lf out (w64 (r5.2))))
 (an.cn (!((decide (r1 < 0)) == (decide (r2 < 0))))
 (an.lf out (-1000000000000))
 (an.lf out 1000000000000))))))))))
def F_num_Mul  (L : Nat) (a0 : Int) (a1 : Int) : Option Int := T_num_Mul (anO _) L a0 a1 some
theorem e44  (L : Nat) (a0 : Int) (a1 : Int) (kk : PV → Prop) : EW (O44 L) L 9 (RS Tryz.f44) c44 [I a0, I a1] kk = ob (F_num_Mul L a0 a1) (fun (x : Int) => kk (I x)) := by
  refine Eq.trans (b := T_num_Mul anP L a0 a1 (fun (x : Int) => kk (I x))) (by kernel_rfl) ?_
  generalize (fun (x : Int) => kk (I x)) = Q
  unfold F_num_Mul T_num_Mul
  dsimp only [anP, anO]
  try simp only [y1, y2, y3, y4, y5 Q, y6, y7, y8 Q, y9, z1, z2, z3, z4]
theorem h44   (L : Nat) (a0 : Int) (a1 : Int) (r : Int) (h : F_num_Mul L a0 a1 = some r) : Holds Tryz.prog 44 [I a0, I a1] (I r) :=
  hE grwOK (s44  L) mixed Tryz.func44 (by kernel_rfl : cFn Tryz.prog inl Tryz.f44 = some c44) (er := fun (x : Int) => I x) (by kernel_rfl) (e44 L a0 a1) h
/-! ### simulator/design.Size -/
noncomputable def c14 : EC := (cFn Tryz.prog inl Tryz.f14).getD .stop
def O14  (L : Nat) : Oracle := (orc 44 (A2 (fun (x : Int) => I x) (cI .i64) (cI .i64) (F_num_Mul L)) noC)
theorem s14   (L : Nat) : SoundC Tryz.prog (O14 L) := (orc_sound (a2 _ (h44 L)) (noC_sound Tryz.prog))
def sh14_1 (a0 : (List api_Factor)) (v1_1 : Int) (v1_4 : Int) : St := ({ fr := [(0, .any), (2, I 0), (3, I v1_1), (9, .lst false (.t59 a0)), (10, I (a0.length : Int)), (11, I v1_4)], ob := [], base := 0 } : St)
def KK14_1 (a0 : (List api_Factor)) (K : Ex → St → Prop) : Nat × (Int × Int) → Prop := fun o => seln o.1 [K (.exit 0) (sh14_1 a0 o.2.1 o.2.2)]
def lb_design_Size_1 {A : Type} (an : An A)  (L : Nat) (a0 : (List api_Factor)) (rec : Int → Int → A) (out : Nat × (Int × Int) → A) (v1_1 : Int) (v1_4 : Int) : A :=
 (an.cn (decide (v1_4 < (a0.length : Int)))
 (an.gd ((0 : Int) ≤ v1_4)
 (an.gd (v1_4 < ((a0.length : Nat) : Int))
 (an.bd (F_num_Mul L v1_1 (((a0.getD (Int.toNat v1_4) default).Levels).length : Int)) fun r1 =>
 (rec r1 (w64 (v1_4 + 1))))))
 (an.lf out (0, (v1_1, v1_4))))
def lp_design_Size_1  (L : Nat) (a0 : (List api_Factor)) : Nat → Int → Int → Option (Nat × (Int × Int))
  | 0, _, _ => none
  | n + 1, v1_1, v1_4 => lb_design_Size_1 (anO _)  L a0 (lp_design_Size_1  L a0 n) some v1_1 v1_4
theorem ln14_1  (L : Nat) (a0 : (List api_Factor)) (g : Int → Int → Option (Nat × (Int × Int))) (Q : Nat × (Int × Int) → Prop) (v1_1 : Int) (v1_4 : Int) : lb_design_Size_1 anP  L a0 (fun v1_1 v1_4 => ob (g v1_1 v1_4) Q) Q v1_1 v1_4 = ob (lb_design_Size_1 (anO _)  L a0 g some v1_1 v1_4) Q := by
  unfold lb_design_Size_1
  dsimp only [anP, anO]
  try simp only [y1, y2, y3, y4, y5 Q, y6, y7, y8 Q, y9, z1, z2, z3, z4]
theorem le14_1  (L : Nat) (a0 : (List api_Factor)) (n : Nat) (v1_1 : Int) (v1_4 : Int) (K : Ex → St → Prop) : loopN (EV (O14 L) L 9 c14.r.r.r.r.r.r.l.r.r.l.l) [0, 2, 3, 9, 10, 11] [] n (sh14_1 a0 v1_1 v1_4) K = ob (lp_design_Size_1  L a0 n v1_1 v1_4) (fun o => KK14_1 a0 K o) := by
  induction n generalizing v1_1 v1_4 with
  | zero => rfl
  | succ n ih =>
    refine Eq.trans (b := lb_design_Size_1 anP  L a0 (fun v1_1 v1_4 => loopN (EV (O14 L) L 9 c14.r.r.r.r.r.r.l.r.r.l.l) [0, 2, 3, 9, 10, 11] [] n (sh14_1 a0 v1_1 v1_4) K) (KK14_1 a0 K) v1_1 v1_4) (by kernel_rfl) ?_
    simp only [ih]
    exact ln14_1  L a0 (lp_design_Size_1  L a0 n) (KK14_1 a0 K) v1_1 v1_4
def kc14_1  (L : Nat)  (kk : PV → Prop) : Ex → St → Prop := (kBlock 0 (kSeq (EV (O14 L) L 9 c14.r.r.r.r.r.r.r) (kEnd Tryz.prog (RS Tryz.f14) kk)))
theorem q14_1  (L : Nat) (a0 : (List api_Factor)) (kk : PV → Prop) (o1 : Nat × (Int × Int)) : KK14_1 a0 (kc14_1 L kk) o1 =
 (seln o1.1 [(ob (some o1.2.1) (fun (x : Int) => kk (I x)))]) := by kernel_rfl
def T_design_Size {A : Type} (an : An A)  (L : Nat) (a0 : (List api_Factor)) (out : Int → A) : A :=
 (an.cn ((a0.length : Int) == 0)
 (an.lf out 0)
 (an.bd (lp_design_Size_1 L a0 L 1 0) fun o1 =>
 (an.sl o1.1 [(an.lf out o1.2.1)])))
def F_design_Size  (L : Nat) (a0 : (List api_Factor)) : Option Int := T_design_Size (anO _) L a0 some
theorem e14  (L : Nat) (a0 : (List api_Factor)) (kk : PV → Prop) : EW (O14 L) L 9 (RS Tryz.f14) c14 [.lst false (.t59 a0)] kk = ob (F_design_Size L a0) (fun (x : Int) => kk (I x)) := by
  refine Eq.trans (b := T_design_Size anP L a0 (fun (x : Int) => kk (I x))) ?_ ?_
  · refine Eq.trans (b := (br ((a0.length : Int) == 0)
 (ob (some 0) (fun (x : Int) => kk (I x)))
 (loopN (EV (O14 L) L 9 c14.r.r.r.r.r.r.l.r.r.l.l) [0, 2, 3, 9, 10, 11] [] L (sh14_1 a0 1 0) (kc14_1 L kk)))) (by kernel_rfl) ?_
    unfold T_design_Size
    dsimp only [anP]
    simp only [le14_1, q14_1]
  generalize (fun (x : Int) => kk (I x)) = Q
  unfold F_design_Size T_design_Size
  dsimp only [anP, anO]
  try simp only [y1, y2, y3, y4, y5 Q, y6, y7, y8 Q, y9, z1, z2, z3, z4]
theorem h14   (L : Nat) (a0 : (List api_Factor)) (r : Int) (h : F_design_Size L a0 = some r) : Holds Tryz.prog 14 [.lst false (.t59 a0)] (I r) :=
  hE grwOK (s14  L) mixed Tryz.func14 (by kernel_rfl : cFn Tryz.prog inl Tryz.f14 = some c14) (er := fun (x : Int) => I x) (by kernel_rfl) (e14 L a0) h
noncomputable def c39 : EC := (cFn Tryz.prog inl Tryz.f39).getD .stop
noncomputable def c59 : EC := (cFn Tryz.prog inl Tryz.f59).getD .stop
/-! ### simulator/design.usable -/
noncomputable def c46 : EC := (cFn Tryz.prog inl Tryz.f46).getD .stop
def O46  (L : Nat) : Oracle := (orc 14 (A1 (fun (x : Int) => I x) cl59 (F_design_Size L)) noC)
theorem s46   (L : Nat) : SoundC Tryz.prog (O46 L) := (orc_sound (a1 _ (h14 L)) (noC_sound Tryz.prog))
def sh46_1 (p1_0 : List api_Factor) (v1_1 : Int) (v1_3 : Int) : St := ({ fr := [(0, .lst false (.t59 p1_0)), (1, .clo 71 0 []), (4, I v1_1), (7, I (p1_0.length : Int)), (8, I v1_3)], ob := [], base := 0 } : St)
def KK46_1 (p1_0 : List api_Factor) (K : Ex → St → Prop) : Nat × (Int × Int) → Prop := fun o => seln o.1 [K .ret (sh46_1 p1_0 o.2.1 o.2.2), K (.exit 0) (sh46_1 p1_0 o.2.1 o.2.2)]
def lb_design_usable_1 {A : Type} (an : An A)  (L : Nat) (p1_0 : List api_Factor) (rec : Int → Int → A) (out : Nat × (Int × Int) → A) (v1_1 : Int) (v1_3 : Int) : A :=
 (an.cn (decide (v1_3 < (p1_0.length : Int)))
 (an.gd ((0 : Int) ≤ v1_3)
 (an.gd (v1_3 < ((p1_0.length : Nat) : Int))
 (an.cn ((((p1_0.getD (Int.toNat v1_3) default).Levels).length : Int) == 0)
 (an.lf out (0, (v1_3, v1_3)))
 (rec v1_1 (w64 (v1_3 + 1))))))
 (an.lf out (1, (v1_1, v1_3))))
def lp_design_usable_1  (L : Nat) (p1_0 : List api_Factor) : Nat → Int → Int → Option (Nat × (Int × Int))
  | 0, _, _ => none
  | n + 1, v1_1, v1_3 => lb_design_usable_1 (anO _)  L p1_0 (lp_design_usable_1  L p1_0 n) some v1_1 v1_3
theorem ln46_1  (L : Nat) (p1_0 : List api_Factor) (g : Int → Int → Option (Nat × (Int × Int))) (Q : Nat × (Int × Int) → Prop) (v1_1 : Int) (v1_3 : Int) : lb_design_usable_1 anP  L p1_0 (fun v1_1 v1_3 => ob (g v1_1 v1_3) Q) Q v1_1 v1_3 = ob (lb_design_usable_1 (anO _)  L p1_0 g some v1_1 v1_3) Q := by
  unfold lb_design_usable_1
  dsimp only [anP, anO]
  try simp only [y1, y2, y3, y4, y5 Q, y6, y7, y8 Q, y9, z1, z2, z3, z4]
theorem le46_1  (L : Nat) (p1_0 : List api_Factor) (n : Nat) (v1_1 : Int) (v1_3 : Int) (K : Ex → St → Prop) : loopN (EV (O46 L) L 7 c59.r.r.l.r.r.l.l) [0, 1, 4, 7, 8] [] n (sh46_1 p1_0 v1_1 v1_3) K = ob (lp_design_usable_1  L p1_0 n v1_1 v1_3) (fun o => KK46_1 p1_0 K o) := by
  induction n generalizing v1_1 v1_3 with
  | zero => rfl
  | succ n ih =>
    refine Eq.trans (b := lb_design_usable_1 anP  L p1_0 (fun v1_1 v1_3 => loopN (EV (O46 L) L 7 c59.r.r.l.r.r.l.l) [0, 1, 4, 7, 8] [] n (sh46_1 p1_0 v1_1 v1_3) K) (KK46_1 p1_0 K) v1_1 v1_3) (by kernel_rfl) ?_
    simp only [ih]
    exact ln46_1  L p1_0 (lp_design_usable_1  L p1_0 n) (KK46_1 p1_0 K) v1_1 v1_3
def ia46_1 (p1_0 : List api_Factor) : List PV := [.lst false (.t59 p1_0), .clo 71 0 []]
def io46_1 (p1_0 : List api_Factor) : List (Nat × List PV) := []
def KI46_1 (p1_0 : List api_Factor) (k : PV → List (Nat × List PV) → Prop) : Int → Prop := fun o => k (I o) []
def ib_design_usable_1 {A : Type} (an : An A)  (L : Nat) (p1_0 : List api_Factor) (out : Int → A) : A :=
 (an.bd (lp_design_usable_1 L p1_0 L 0 0) fun o1 =>
 (an.sl o1.1 [(an.lf out o1.2.1),
 (an.lf out (-1))]))
def ic_design_usable_1  (L : Nat) (p1_0 : List api_Factor) : Option Int := ib_design_usable_1 (anO _)  L p1_0 some
def kc46_1  (L : Nat)  (p1_0 : List api_Factor) (k : PV → List (Nat × List PV) → Prop) : Ex → St → Prop := (kBlock 0 (kSeq (EV (O46 L) L 7 c59.r.r.r) (kEndI Tryz.prog (RS Tryz.f59) k)))
theorem q46_1  (L : Nat)  (p1_0 : List api_Factor) (k : PV → List (Nat × List PV) → Prop) (o1 : Nat × (Int × Int)) : KK46_1 p1_0 (kc46_1 L p1_0 k) o1 =
 (seln o1.1 [(ob (some o1.2.1) (KI46_1 p1_0 k)),
 (ob (some (-1)) (KI46_1 p1_0 k))]) := by kernel_rfl
theorem iE46_1  (L : Nat) (p1_0 : List api_Factor) (k : PV → List (Nat × List PV) → Prop) : YO (O46 L) L 8 59 (ia46_1 p1_0) (io46_1 p1_0) k = ob (ic_design_usable_1  L p1_0) (fun o => KI46_1 p1_0 k o) := by
  refine (Yo_step _ _ _ jn4 _ _ _ _ _ _ _).trans ?_
  refine Eq.trans (b := ib_design_usable_1 anP  L p1_0 (KI46_1 p1_0 k)) ?_ ?_
  · refine Eq.trans (b := (loopN (EV (O46 L) L 7 c59.r.r.l.r.r.l.l) [0, 1, 4, 7, 8] [] L (sh46_1 p1_0 0 0) (kc46_1 L p1_0 k))) (by kernel_rfl) ?_
    unfold ib_design_usable_1
    dsimp only [anP]
    simp only [le46_1, q46_1]
  generalize KI46_1 p1_0 k = Q
  unfold ic_design_usable_1 ib_design_usable_1
  dsimp only [anP, anO]
  try simp only [y1, y2, y3, y4, y5 Q, y6, y7, y8 Q, y9, z1, z2, z3, z4]
def kc46_2  (L : Nat) (a0 : (List api_Factor)) (kk : PV → Prop) : PV → List (Nat × List PV) → Prop := (kCallS Tryz.prog (O46 L) (EI (O46 L) L 8) 2 (List.drop 3 c39.r.r.l.ops) ({ fr := [(6, .clo 71 0 []), (5, .lst false (.t59 a0)), (0, .lst false (.t59 a0)), (1, .clo 71 0 []), (4, B false)], ob := [], base := 0 } : St) (some 7) (fun st9 => (kSeq (EV (O46 L) L 8 c39.r.r.r) (kEndI Tryz.prog (RS Tryz.f39) (kCallS Tryz.prog (O46 L) (EI (O46 L) L 9) 1 (List.drop 6 c46.r.r.l.l.ops) ({ fr := [(6, B false), (7, .lst false (.t59 a0)), (6, B false), (6, B ((a0.length : Int) == 0)), (5, B ((a0.length : Int) == 0)), (4, I (a0.length : Int)), (3, .lst false (.t59 a0)), (0, .lst false (.t59 a0)), (2, I 0)], ob := [], base := 0 } : St) (some 8) (fun st9 => (kSeq (EV (O46 L) L 9 c46.r.r.l.r) (kSeq (EV (O46 L) L 9 c46.r.r.r) (kEnd Tryz.prog (RS Tryz.f46) kk))) .normal st9)))) .normal st9))
theorem q46_2  (L : Nat) (a0 : (List api_Factor)) (kk : PV → Prop) (o1 : Int) : KI46_1 a0 (kc46_2 L a0 kk) o1 =
 (br (decide (o1 ≥ 0))
 (ob (some 7) (fun (x : Int) => kk (I x)))
 (jn (fun j => (br (decide ((a0.length : Int) > 6))
 (ob (some true) j)
 (ob (F_design_Size L a0) fun r3 =>
 (ob (some (decide (r3 > 200))) j)))) (fun b2 =>
 (br b2
 (ob (some 6) (fun (x : Int) => kk (I x)))
 (ob (some 0) (fun (x : Int) => kk (I x))))))) := by kernel_rfl
def T_design_usable {A : Type} (an : An A)  (L : Nat) (a0 : (List api_Factor)) (out : Int → A) : A :=
 (an.cn ((a0.length : Int) == 0)
 (an.lf out 7)
 (an.bd (ic_design_usable_1 L a0) fun o1 =>
 (an.cn (decide (o1 ≥ 0))
 (an.lf out 7)
 (an.jb (bif (decide ((a0.length : Int) > 6)) then (some true)
 else (Option.bind (F_design_Size L a0) fun r3 =>
 (some (decide (r3 > 200))))) (fun j => (an.cn (decide ((a0.length : Int) > 6))
 (an.lf j true)
 (an.bd (F_design_Size L a0) fun r4 =>
 (an.lf j (decide (r4 > 200)))))) (fun b2 =>
 (an.cn b2
 (an.lf out 6)
 (an.lf out 0)))))))
def F_design_usable  (L : Nat) (a0 : (List api_Factor)) : Option Int := T_design_usable (anO _) L a0 some
theorem e46  (L : Nat) (a0 : (List api_Factor)) (kk : PV → Prop) : EW (O46 L) L 9 (RS Tryz.f46) c46 [.lst false (.t59 a0)] kk = ob (F_design_usable L a0) (fun (x : Int) => kk (I x)) := by
  refine Eq.trans (b := T_design_usable anP L a0 (fun (x : Int) => kk (I x))) ?_ ?_
  · refine Eq.trans (b := (br ((a0.length : Int) == 0)
 (ob (some 7) (fun (x : Int) => kk (I x)))
 (YO (O46 L) L 8 59 (ia46_1 a0) (io46_1 a0) (kc46_2 L a0 kk)))) (by kernel_rfl) ?_
    unfold T_design_usable
    dsimp only [anP]
    simp only [iE46_1, q46_2]
  generalize (fun (x : Int) => kk (I x)) = Q
  unfold F_design_usable T_design_usable
  dsimp only [anP, anO]
  try simp only [y1, y2, y3, y4, y5 Q, y6, y7, y8 Q, y9, z1, z2, z3, z4]
theorem h46   (L : Nat) (a0 : (List api_Factor)) (r : Int) (h : F_design_usable L a0 = some r) : Holds Tryz.prog 46 [.lst false (.t59 a0)] (I r) :=
  hE grwOK (s46  L) mixed Tryz.func46 (by kernel_rfl : cFn Tryz.prog inl Tryz.f46 = some c46) (er := fun (x : Int) => I x) (by kernel_rfl) (e46 L a0) h
/-! ### simulator/design.Point -/
noncomputable def c16 : EC := (cFn Tryz.prog inl Tryz.f16).getD .stop
def O16  (L : Nat) : Oracle := (orc 14 (A1 (fun (x : Int) => I x) cl59 (F_design_Size L)) (orc 46 (A1 (fun (x : Int) => I x) cl59 (F_design_usable L)) noC))
theorem s16   (L : Nat) : SoundC Tryz.prog (O16 L) := (orc_sound (a1 _ (h14 L)) (orc_sound (a1 _ (h46 L)) (noC_sound Tryz.prog)))
def sh16_1 (a0 : (List api_Factor)) (v1_1 : Int) (v1_5 : Int) (v1_6 : List Int) : St := ({ fr := [(0, .lst false (.t59 a0)), (1, I v1_1), (4, .lst true (.t3 [])), (5, I 0), (6, .any), (7, .vw false 25 3 1 (Int.toNat (a0.length : Int))), (8, I v1_5)], ob := [(25, [.arrO (.t3 v1_6)])], base := 0 } : St)
def KK16_1 (a0 : (List api_Factor)) (K : Ex → St → Prop) : Nat × (Int × Int × List Int) → Prop := fun o => seln o.1 [K (.exit 0) (sh16_1 a0 o.2.1 o.2.2.1 o.2.2.2)]
def lb_design_Point_1 {A : Type} (an : An A)  (L : Nat) (a0 : (List api_Factor)) (rec : Int → Int → List Int → A) (out : Nat × (Int × Int × List Int) → A) (v1_1 : Int) (v1_5 : Int) (v1_6 : List Int) : A :=
 (an.cn (decide (v1_5 ≥ 0))
 (an.gd ((0 : Int) ≤ v1_5)
 (an.gd (v1_5 < ((a0.length : Nat) : Int))
 (an.cn (!decide ((((a0.getD (Int.toNat v1_5) default).Levels).length : Int) = 0))
 (an.gd ((0 : Int) ≤ v1_5)
 (an.gd (v1_5 < (((Int.toNat (a0.length : Int)) : Nat) : Int))
 (an.cn (!decide ((((a0.getD (Int.toNat v1_5) default).Levels).length : Int) = 0))
 (rec (w64 (Int.tdiv v1_1 (((a0.getD (Int.toNat v1_5) default).Levels).length : Int))) (w64 (v1_5 - 1)) (v1_6.set (Int.toNat v1_5) (Int.tmod v1_1 (((a0.getD (Int.toNat v1_5) default).Levels).length : Int))))
 an.fl)))
 an.fl)))
 (an.lf out (0, (v1_1, v1_5, v1_6))))
def lp_design_Point_1  (L : Nat) (a0 : (List api_Factor)) : Nat → Int → Int → List Int → Option (Nat × (Int × Int × List Int))
  | 0, _, _, _ => none
  | n + 1, v1_1, v1_5, v1_6 => lb_design_Point_1 (anO _)  L a0 (lp_design_Point_1  L a0 n) some v1_1 v1_5 v1_6
theorem ln16_1  (L : Nat) (a0 : (List api_Factor)) (g : Int → Int → List Int → Option (Nat × (Int × Int × List Int))) (Q : Nat × (Int × Int × List Int) → Prop) (v1_1 : Int) (v1_5 : Int) (v1_6 : List Int) : lb_design_Point_1 anP  L a0 (fun v1_1 v1_5 v1_6 => ob (g v1_1 v1_5 v1_6) Q) Q v1_1 v1_5 v1_6 = ob (lb_design_Point_1 (anO _)  L a0 g some v1_1 v1_5 v1_6) Q := by
  unfold lb_design_Point_1
  dsimp only [anP, anO]
  try simp only [y1, y2, y3, y4, y5 Q, y6, y7, y8 Q, y9, z1, z2, z3, z4]
theorem le16_1  (L : Nat) (a0 : (List api_Factor)) (n : Nat) (v1_1 : Int) (v1_5 : Int) (v1_6 : List Int) (K : Ex → St → Prop) : loopN (EV (O16 L) L 9 c16.r.r.r.r.r.r.r.r.l.r.r.l.l) [0, 1, 4, 5, 6, 7, 8] [25] n (sh16_1 a0 v1_1 v1_5 v1_6) K = ob (lp_design_Point_1  L a0 n v1_1 v1_5 v1_6) (fun o => KK16_1 a0 K o) := by
  induction n generalizing v1_1 v1_5 v1_6 with
  | zero => rfl
  | succ n ih =>
    refine Eq.trans (b := lb_design_Point_1 anP  L a0 (fun v1_1 v1_5 v1_6 => loopN (EV (O16 L) L 9 c16.r.r.r.r.r.r.r.r.l.r.r.l.l) [0, 1, 4, 5, 6, 7, 8] [25] n (sh16_1 a0 v1_1 v1_5 v1_6) K) (KK16_1 a0 K) v1_1 v1_5 v1_6) (by kernel_rfl) ?_
    simp only [ih]
    exact ln16_1  L a0 (lp_design_Point_1  L a0 n) (KK16_1 a0 K) v1_1 v1_5 v1_6
def kc16_1  (L : Nat)  (kk : PV → Prop) : Ex → St → Prop := (kBlock 0 (kSeq (EV (O16 L) L 9 c16.r.r.r.r.r.r.r.r.r) (kEnd Tryz.prog (RS Tryz.f16) kk)))
theorem q16_1  (L : Nat) (a0 : (List api_Factor)) (kk : PV → Prop) (o4 : Nat × (Int × Int × List Int)) : KK16_1 a0 (kc16_1 L kk) o4 =
 (seln o4.1 [(ob (some (o4.2.2.2, 0)) (fun (x : ((List Int) × Int)) => kk (.tup [.lst false (.t3 x.1), I x.2])))]) := by kernel_rfl
def T_design_Point {A : Type} (an : An A)  (L : Nat) (a0 : (List api_Factor)) (a1 : Int) (out : ((List Int) × Int) → A) : A :=
 (an.bd (F_design_usable L a0) fun r1 =>
 (an.cn (r1 != 0)
 (an.lf out ([], r1))
 (an.jb (bif (decide (a1 < 0)) then (some true)
 else (Option.bind (F_design_Size L a0) fun r3 =>
 (some (decide (a1 ≥ r3))))) (fun j => (an.cn (decide (a1 < 0))
 (an.lf j true)
 (an.bd (F_design_Size L a0) fun r4 =>
 (an.lf j (decide (a1 ≥ r4)))))) (fun b2 =>
 (an.cn b2
 (an.lf out ([], 2))
 (an.gd ((0 : Int) ≤ (a0.length : Int))
 (an.gd ((a0.length : Int) * ((8 : Nat) : Int) ≤ 140737488355328)
 (an.gd ((a0.length : Int) ≤ 9223372036854775807)
 (an.bd (lp_design_Point_1 L a0 L a1 (w64 ((a0.length : Int) - 1)) (List.replicate (Int.toNat (a0.length : Int)) 0)) fun o5 =>
 (an.sl o5.1 [(an.lf out (o5.2.2.2, 0))]))))))))))
def F_design_Point  (L : Nat) (a0 : (List api_Factor)) (a1 : Int) : Option ((List Int) × Int) := T_design_Point (anO _) L a0 a1 some
theorem e16  (L : Nat) (a0 : (List api_Factor)) (a1 : Int) (kk : PV → Prop) : EW (O16 L) L 9 (RS Tryz.f16) c16 [.lst false (.t59 a0), I a1] kk = ob (F_design_Point L a0 a1) (fun (x : ((List Int) × Int)) => kk (.tup [.lst false (.t3 x.1), I x.2])) := by
  refine Eq.trans (b := T_design_Point anP L a0 a1 (fun (x : ((List Int) × Int)) => kk (.tup [.lst false (.t3 x.1), I x.2]))) ?_ ?_
  · refine Eq.trans (b := (ob (F_design_usable L a0) fun r1 =>
 (br (r1 != 0)
 (ob (some ([], r1)) (fun (x : ((List Int) × Int)) => kk (.tup [.lst false (.t3 x.1), I x.2])))
 (jn (fun j => (br (decide (a1 < 0))
 (ob (some true) j)
 (ob (F_design_Size L a0) fun r3 =>
 (ob (some (decide (a1 ≥ r3))) j)))) (fun b2 =>
 (br b2
 (ob (some ([], 2)) (fun (x : ((List Int) × Int)) => kk (.tup [.lst false (.t3 x.1), I x.2])))
 (gd ((0 : Int) ≤ (a0.length : Int))
 (gd ((a0.length : Int) * ((8 : Nat) : Int) ≤ 140737488355328)
 (gd ((a0.length : Int) ≤ 9223372036854775807)
 (loopN (EV (O16 L) L 9 c16.r.r.r.r.r.r.r.r.l.r.r.l.l) [0, 1, 4, 5, 6, 7, 8] [25] L (sh16_1 a0 a1 (w64 ((a0.length : Int) - 1)) (List.replicate (Int.toNat (a0.length : Int)) 0)) (kc16_1 L kk))))))))))) (by kernel_rfl) ?_
    unfold T_design_Point
    dsimp only [anP]
    simp only [le16_1, q16_1]
  generalize (fun (x : ((List Int) × Int)) => kk (.tup [.lst false (.t3 x.1), I x.2])) = Q
  unfold F_design_Point T_design_Point
  dsimp only [anP, anO]
  try simp only [y1, y2, y3, y4, y5 Q, y6, y7, y8 Q, y9, z1, z2, z3, z4]
  try simp only [z5, z6, y1, y2, y3, y4, y5 Q, y6, y7, y8 Q, y9, z1, z2, z3, z4]
theorem h16   (L : Nat) (a0 : (List api_Factor)) (a1 : Int) (r : ((List Int) × Int)) (h : F_design_Point L a0 a1 = some r) : Holds Tryz.prog 16 [.lst false (.t59 a0), I a1] (.tup [.lst false (.t3 r.1), I r.2]) :=
  hE grwOK (s16  L) mixed Tryz.func16 (by kernel_rfl : cFn Tryz.prog inl Tryz.f16 = some c16) (er := fun (x : ((List Int) × Int)) => .tup [.lst false (.t3 x.1), I x.2]) (by kernel_rfl) (e16 L a0 a1) h
/-! ### simulator/simulatorref01.Clip -/
noncomputable def c69 : EC := (cFn Tryz.prog inl Tryz.f69).getD .stop
def O69  (L : Nat) : Oracle := noC
theorem s69   (L : Nat) : SoundC Tryz.prog (O69 L) := (noC_sound Tryz.prog)
def T_R01_Clip {A : Type} (an : An A)  (L : Nat) (a0 : Int) (out : Int → A) : A :=
 (an.cn (decide (a0 > 1000000000000))
 (an.lf out 1000000000000)
 (an.cn (decide (a0 < (-1000000000000)))
 (an.lf out (-1000000000000))
 (an.lf out a0)))
def F_R01_Clip  (L : Nat) (a0 : Int) : Option Int := T_R01_Clip (anO _) L a0 some
theorem e69  (L : Nat) (a0 : Int) (kk : PV → Prop) : EW (O69 L) L 9 (RS Tryz.f69) c69 [I a0] kk = ob (F_R01_Clip L a0) (fun (x : Int) => kk (I x)) := by
  refine Eq.trans (b := T_R01_Clip anP L a0 (fun (x : Int) => kk (I x))) (by kernel_rfl) ?_
  generalize (fun (x : Int) => kk (I x)) = Q
  unfold F_R01_Clip T_R01_Clip
  dsimp only [anP, anO]
  try simp only [y1, y2, y3, y4, y5 Q, y6, y7, y8 Q, y9, z1, z2, z3, z4]
theorem h69   (L : Nat) (a0 : Int) (r : Int) (h : F_R01_Clip L a0 = some r) : Holds Tryz.prog 69 [I a0] (I r) :=
  hE grwOK (s69  L) mixed Tryz.func69 (by kernel_rfl : cFn Tryz.prog inl Tryz.f69 = some c69) (er := fun (x : Int) => I x) (by kernel_rfl) (e69 L a0) h
/-! ### simulator/simulatorref01.Abs -/
noncomputable def c70 : EC := (cFn Tryz.prog inl Tryz.f70).getD .stop
def O70  (L : Nat) : Oracle := noC
theorem s70   (L : Nat) : SoundC Tryz.prog (O70 L) := (noC_sound Tryz.prog)
def T_R01_Abs {A : Type} (an : An A)  (L : Nat) (a0 : Int) (out : Int → A) : A :=
 (an.cn (decide (a0 < 0))
 (an.lf out (w64 (0 - a0)))
 (an.lf out a0))
def F_R01_Abs  (L : Nat) (a0 : Int) : Option Int := T_R01_Abs (anO _) L a0 some
theorem e70  (L : Nat) (a0 : Int) (kk : PV → Prop) : EW (O70 L) L 9 (RS Tryz.f70) c70 [I a0] kk = ob (F_R01_Abs L a0) (fun (x : Int) => kk (I x)) := by
  refine Eq.trans (b := T_R01_Abs anP L a0 (fun (x : Int) => kk (I x))) (by kernel_rfl) ?_
  generalize (fun (x : Int) => kk (I x)) = Q
  unfold F_R01_Abs T_R01_Abs
  dsimp only [anP, anO]
  try simp only [y1, y2, y3, y4, y5 Q, y6, y7, y8 Q, y9, z1, z2, z3, z4]
theorem h70   (L : Nat) (a0 : Int) (r : Int) (h : F_R01_Abs L a0 = some r) : Holds Tryz.prog 70 [I a0] (I r) :=
  hE grwOK (s70  L) mixed Tryz.func70 (by kernel_rfl : cFn Tryz.prog inl Tryz.f70 = some c70) (er := fun (x : Int) => I x) (by kernel_rfl) (e70 L a0) h
/-! ### simulator/simulatorref01.Mul -/
noncomputable def c45 : EC := (cFn Tryz.prog inl Tryz.f45).getD .stop
def O45  (L : Nat) : Oracle := (orc 69 (A1 (fun (x : Int) => I x) (cI .i64) (F_R01_Clip L)) (orc 70 (A1 (fun (x : Int) => I x) (cI .i64) (F_R01_Abs L)) noC))
theorem s45   (L : Nat) : SoundC Tryz.prog (O45 L) := (orc_sound (a1 _ (h69 L)) (orc_sound (a1 _ (h70 L)) (noC_sound Tryz.prog)))
def T_R01_Mul {A : Type} (an : An A)  (L : Nat) (a0 : Int) (a1 : Int) (out : Int → A) : A :=
 (an.bd (F_R01_Clip L a0) fun r1 =>
 (an.bd (F_R01_Clip L a1) fun r2 =>
 (an.jp (bif (r1 == 0) then true
 else (r2 == 0)) (fun j => (an.cn (r1 == 0)
 (an.ap j true)
 (an.ap j (r2 == 0)))) (fun b3 =>
 (an.cn b3
 (an.lf out 0)
 (an.bd (F_R01_Abs L r2) fun r4 =>
 (an.bd (F_R01_Abs L r1) fun r5 =>
 (an.cn (!decide (r5 = 0))
 (an.cn (decide (r4 ≤ (w64 (Int.tdiv 1000000000000 r5))))
 (an.lf out (w64 (r1 * r2)))
 (an.cn (!((decide (r1 < 0)) == (decide (r2 < 0))))
 (an.lf out (-1000000000000))
 (an.lf out 1000000000000)))
 an.fl))))))))
def F_R01_Mul  (L : Nat) (a0 : Int) (a1 : Int) : Option Int := T_R01_Mul (anO _) L a0 a1 some
theorem e45  (L : Nat) (a0 : Int) (a1 : Int) (kk : PV → Prop) : EW (O45 L) L 9 (RS Tryz.f45) c45 [I a0, I a1] kk = ob (F_R01_Mul L a0 a1) (fun (x : Int) => kk (I x)) := by
  refine Eq.trans (b := T_R01_Mul anP L a0 a1 (fun (x : Int) => kk (I x))) (by kernel_rfl) ?_
  generalize (fun (x : Int) => kk (I x)) = Q
  unfold F_R01_Mul T_R01_Mul
  dsimp only [anP, anO]
  try simp only [y1, y2, y3, y4, y5 Q, y6, y7, y8 Q, y9, z1, z2, z3, z4]
theorem h45   (L : Nat) (a0 : Int) (a1 : Int) (r : Int) (h : F_R01_Mul L a0 a1 = some r) : Holds Tryz.prog 45 [I a0, I a1] (I r) :=
  hE grwOK (s45  L) mixed Tryz.func45 (by kernel_rfl : cFn Tryz.prog inl Tryz.f45 = some c45) (er := fun (x : Int) => I x) (by kernel_rfl) (e45 L a0 a1) h
/-! ### simulator/simulatorref51.Size -/
noncomputable def c15 : EC := (cFn Tryz.prog inl Tryz.f15).getD .stop
def O15  (L : Nat) : Oracle := (orc 45 (A2 (fun (x : Int) => I x) (cI .i64) (cI .i64) (F_R01_Mul L)) noC)
theorem s15   (L : Nat) : SoundC Tryz.prog (O15 L) := (orc_sound (a2 _ (h45 L)) (noC_sound Tryz.prog))
def sh15_1 (a0 : (List api_Factor)) (v1_2 : Int) (v1_3 : Int) : St := ({ fr := [(0, .lst false (.t59 a0)), (2, I 0), (3, I v1_2), (4, I v1_3)], ob := [], base := 0 } : St)
def KK15_1 (a0 : (List api_Factor)) (K : Ex → St → Prop) : Nat × (Int × Int) → Prop := fun o => seln o.1 [K (.exit 0) (sh15_1 a0 o.2.1 o.2.2)]
def lb_R51_Size_1 {A : Type} (an : An A)  (L : Nat) (a0 : (List api_Factor)) (rec : Int → Int → A) (out : Nat × (Int × Int) → A) (v1_2 : Int) (v1_3 : Int) : A :=
 (an.cn (decide (v1_3 < (a0.length : Int)))
 (an.gd ((0 : Int) ≤ v1_3)
 (an.gd (v1_3 < ((a0.length : Nat) : Int))
 (an.bd (F_R01_Mul L v1_2 (((a0.getD (Int.toNat v1_3) default).Levels).length : Int)) fun r1 =>
 (rec r1 (w64 (v1_3 + 1))))))
 (an.lf out (0, (v1_2, v1_3))))
def lp_R51_Size_1  (L : Nat) (a0 : (List api_Factor)) : Nat → Int → Int → Option (Nat × (Int × Int))
  | 0, _, _ => none
  | n + 1, v1_2, v1_3 => lb_R51_Size_1 (anO _)  L a0 (lp_R51_Size_1  L a0 n) some v1_2 v1_3
theorem ln15_1  (L : Nat) (a0 : (List api_Factor)) (g : Int → Int → Option (Nat × (Int × Int))) (Q : Nat × (Int × Int) → Prop) (v1_2 : Int) (v1_3 : Int) : lb_R51_Size_1 anP  L a0 (fun v1_2 v1_3 => ob (g v1_2 v1_3) Q) Q v1_2 v1_3 = ob (lb_R51_Size_1 (anO _)  L a0 g some v1_2 v1_3) Q := by
  unfold lb_R51_Size_1
  dsimp only [anP, anO]
  try simp only [y1, y2, y3, y4, y5 Q, y6, y7, y8 Q, y9, z1, z2, z3, z4]
theorem le15_1  (L : Nat) (a0 : (List api_Factor)) (n : Nat) (v1_2 : Int) (v1_3 : Int) (K : Ex → St → Prop) : loopN (EV (O15 L) L 9 c15.r.r.r.r.r.r.l.r.r.l.l) [0, 2, 3, 4] [] n (sh15_1 a0 v1_2 v1_3) K = ob (lp_R51_Size_1  L a0 n v1_2 v1_3) (fun o => KK15_1 a0 K o) := by
  induction n generalizing v1_2 v1_3 with
  | zero => rfl
  | succ n ih =>
    refine Eq.trans (b := lb_R51_Size_1 anP  L a0 (fun v1_2 v1_3 => loopN (EV (O15 L) L 9 c15.r.r.r.r.r.r.l.r.r.l.l) [0, 2, 3, 4] [] n (sh15_1 a0 v1_2 v1_3) K) (KK15_1 a0 K) v1_2 v1_3) (by kernel_rfl) ?_
    simp only [ih]
    exact ln15_1  L a0 (lp_R51_Size_1  L a0 n) (KK15_1 a0 K) v1_2 v1_3
def kc15_1  (L : Nat)  (kk : PV → Prop) : Ex → St → Prop := (kBlock 0 (kSeq (EV (O15 L) L 9 c15.r.r.r.r.r.r.r) (kEnd Tryz.prog (RS Tryz.f15) kk)))
theorem q15_1  (L : Nat) (a0 : (List api_Factor)) (kk : PV → Prop) (o1 : Nat × (Int × Int)) : KK15_1 a0 (kc15_1 L kk) o1 =
 (seln o1.1 [(ob (some o1.2.1) (fun (x : Int) => kk (I x)))]) := by kernel_rfl
def T_R51_Size {A : Type} (an : An A)  (L : Nat) (a0 : (List api_Factor)) (out : Int → A) : A :=
 (an.cn ((a0.length : Int) == 0)
 (an.lf out 0)
 (an.bd (lp_R51_Size_1 L a0 L 1 0) fun o1 =>
 (an.sl o1.1 [(an.lf out o1.2.1)])))
def F_R51_Size  (L : Nat) (a0 : (List api_Factor)) : Option Int := T_R51_Size (anO _) L a0 some
theorem e15  (L : Nat) (a0 : (List api_Factor)) (kk : PV → Prop) : EW (O15 L) L 9 (RS Tryz.f15) c15 [.lst false (.t59 a0)] kk = ob (F_R51_Size L a0) (fun (x : Int) => kk (I x)) := by
  refine Eq.trans (b := T_R51_Size anP L a0 (fun (x : Int) => kk (I x))) ?_ ?_
  · refine Eq.trans (b := (br ((a0.length : Int) == 0)
 (ob (some 0) (fun (x : Int) => kk (I x)))
 (loopN (EV (O15 L) L 9 c15.r.r.r.r.r.r.l.r.r.l.l) [0, 2, 3, 4] [] L (sh15_1 a0 1 0) (kc15_1 L kk)))) (by kernel_rfl) ?_
    unfold T_R51_Size
    dsimp only [anP]
    simp only [le15_1, q15_1]
  generalize (fun (x : Int) => kk (I x)) = Q
  unfold F_R51_Size T_R51_Size
  dsimp only [anP, anO]
  try simp only [y1, y2, y3, y4, y5 Q, y6, y7, y8 Q, y9, z1, z2, z3, z4]
theorem h15   (L : Nat) (a0 : (List api_Factor)) (r : Int) (h : F_R51_Size L a0 = some r) : Holds Tryz.prog 15 [.lst false (.t59 a0)] (I r) :=
  hE grwOK (s15  L) mixed Tryz.func15 (by kernel_rfl : cFn Tryz.prog inl Tryz.f15 = some c15) (er := fun (x : Int) => I x) (by kernel_rfl) (e15 L a0) h
/-! ### simulator/simulatorref51.Usable -/
noncomputable def c47 : EC := (cFn Tryz.prog inl Tryz.f47).getD .stop
def O47  (L : Nat) : Oracle := (orc 15 (A1 (fun (x : Int) => I x) cl59 (F_R51_Size L)) noC)
theorem s47   (L : Nat) : SoundC Tryz.prog (O47 L) := (orc_sound (a1 _ (h15 L)) (noC_sound Tryz.prog))
def T_R51_Usable {A : Type} (an : An A)  (L : Nat) (a0 : (List api_Factor)) (out : Int → A) : A :=
 (an.bd (F_R51_Size L a0) fun r1 =>
 (an.cn (r1 == 0)
 (an.lf out 7)
 (an.jb (bif (decide ((a0.length : Int) > 6)) then (some true)
 else (Option.bind (F_R51_Size L a0) fun r3 =>
 (some (decide (r3 > 200))))) (fun j => (an.cn (decide ((a0.length : Int) > 6))
 (an.lf j true)
 (an.bd (F_R51_Size L a0) fun r4 =>
 (an.lf j (decide (r4 > 200)))))) (fun b2 =>
 (an.cn b2
 (an.lf out 6)
 (an.lf out 0))))))
def F_R51_Usable  (L : Nat) (a0 : (List api_Factor)) : Option Int := T_R51_Usable (anO _) L a0 some
theorem e47  (L : Nat) (a0 : (List api_Factor)) (kk : PV → Prop) : EW (O47 L) L 9 (RS Tryz.f47) c47 [.lst false (.t59 a0)] kk = ob (F_R51_Usable L a0) (fun (x : Int) => kk (I x)) := by
  refine Eq.trans (b := T_R51_Usable anP L a0 (fun (x : Int) => kk (I x))) (by kernel_rfl) ?_
  generalize (fun (x : Int) => kk (I x)) = Q
  unfold F_R51_Usable T_R51_Usable
  dsimp only [anP, anO]
  try simp only [y1, y2, y3, y4, y5 Q, y6, y7, y8 Q, y9, z1, z2, z3, z4]
theorem h47   (L : Nat) (a0 : (List api_Factor)) (r : Int) (h : F_R51_Usable L a0 = some r) : Holds Tryz.prog 47 [.lst false (.t59 a0)] (I r) :=
  hE grwOK (s47  L) mixed Tryz.func47 (by kernel_rfl : cFn Tryz.prog inl Tryz.f47 = some c47) (er := fun (x : Int) => I x) (by kernel_rfl) (e47 L a0) h
/-! ### simulator/simulatorref51.Point -/
noncomputable def c17 : EC := (cFn Tryz.prog inl Tryz.f17).getD .stop
def O17  (L : Nat) : Oracle := (orc 15 (A1 (fun (x : Int) => I x) cl59 (F_R51_Size L)) (orc 47 (A1 (fun (x : Int) => I x) cl59 (F_R51_Usable L)) noC))
theorem s17   (L : Nat) : SoundC Tryz.prog (O17 L) := (orc_sound (a1 _ (h15 L)) (orc_sound (a1 _ (h47 L)) (noC_sound Tryz.prog)))
def sh17_1 (a0 : (List api_Factor)) (v1_1 : Int) (v1_5 : Int) (v1_6 : List Int) : St := ({ fr := [(0, .lst false (.t59 a0)), (1, I v1_1), (4, .lst true (.t3 [])), (5, I 0), (6, .any), (7, .vw false 24 3 1 (Int.toNat (a0.length : Int))), (8, I v1_5)], ob := [(24, [.arrO (.t3 v1_6)])], base := 0 } : St)
def KK17_1 (a0 : (List api_Factor)) (K : Ex → St → Prop) : Nat × (Int × Int × List Int) → Prop := fun o => seln o.1 [K (.exit 0) (sh17_1 a0 o.2.1 o.2.2.1 o.2.2.2)]
def lb_R51_Point_1 {A : Type} (an : An A)  (L : Nat) (a0 : (List api_Factor)) (rec : Int → Int → List Int → A) (out : Nat × (Int × Int × List Int) → A) (v1_1 : Int) (v1_5 : Int) (v1_6 : List Int) : A :=
 (an.cn (decide (v1_5 ≥ 0))
 (an.gd ((0 : Int) ≤ v1_5)
 (an.gd (v1_5 < ((a0.length : Nat) : Int))
 (an.cn (!decide ((((a0.getD (Int.toNat v1_5) default).Levels).length : Int) = 0))
 (an.gd ((0 : Int) ≤ v1_5)
 (an.gd (v1_5 < (((Int.toNat (a0.length : Int)) : Nat) : Int))
 (an.gd ((0 : Int) ≤ v1_5)
 (an.gd (v1_5 < ((a0.length : Nat) : Int))
 (an.cn (!decide ((((a0.getD (Int.toNat v1_5) default).Levels).length : Int) = 0))
 (rec (w64 (Int.tdiv v1_1 (((a0.getD (Int.toNat v1_5) default).Levels).length : Int))) (w64 (v1_5 - 1)) (v1_6.set (Int.toNat v1_5) (Int.tmod v1_1 (((a0.getD (Int.toNat v1_5) default).Levels).length : Int))))
 an.fl)))))
 an.fl)))
 (an.lf out (0, (v1_1, v1_5, v1_6))))
def lp_R51_Point_1  (L : Nat) (a0 : (List api_Factor)) : Nat → Int → Int → List Int → Option (Nat × (Int × Int × List Int))
  | 0, _, _, _ => none
  | n + 1, v1_1, v1_5, v1_6 => lb_R51_Point_1 (anO _)  L a0 (lp_R51_Point_1  L a0 n) some v1_1 v1_5 v1_6
theorem ln17_1  (L : Nat) (a0 : (List api_Factor)) (g : Int → Int → List Int → Option (Nat × (Int × Int × List Int))) (Q : Nat × (Int × Int × List Int) → Prop) (v1_1 : Int) (v1_5 : Int) (v1_6 : List Int) : lb_R51_Point_1 anP  L a0 (fun v1_1 v1_5 v1_6 => ob (g v1_1 v1_5 v1_6) Q) Q v1_1 v1_5 v1_6 = ob (lb_R51_Point_1 (anO _)  L a0 g some v1_1 v1_5 v1_6) Q := by
  unfold lb_R51_Point_1
  dsimp only [anP, anO]
  try simp only [y1, y2, y3, y4, y5 Q, y6, y7, y8 Q, y9, z1, z2, z3, z4]
theorem le17_1  (L : Nat) (a0 : (List api_Factor)) (n : Nat) (v1_1 : Int) (v1_5 : Int) (v1_6 : List Int) (K : Ex → St → Prop) : loopN (EV (O17 L) L 9 c17.r.r.r.r.r.r.r.r.r.r.l.r.r.l.l) [0, 1, 4, 5, 6, 7, 8] [24] n (sh17_1 a0 v1_1 v1_5 v1_6) K = ob (lp_R51_Point_1  L a0 n v1_1 v1_5 v1_6) (fun o => KK17_1 a0 K o) := by
  induction n generalizing v1_1 v1_5 v1_6 with
  | zero => rfl
  | succ n ih =>
    refine Eq.trans (b := lb_R51_Point_1 anP  L a0 (fun v1_1 v1_5 v1_6 => loopN (EV (O17 L) L 9 c17.r.r.r.r.r.r.r.r.r.r.l.r.r.l.l) [0, 1, 4, 5, 6, 7, 8] [24] n (sh17_1 a0 v1_1 v1_5 v1_6) K) (KK17_1 a0 K) v1_1 v1_5 v1_6) (by kernel_rfl) ?_
    simp only [ih]
    exact ln17_1  L a0 (lp_R51_Point_1  L a0 n) (KK17_1 a0 K) v1_1 v1_5 v1_6
def kc17_1  (L : Nat)  (kk : PV → Prop) : Ex → St → Prop := (kBlock 0 (kSeq (EV (O17 L) L 9 c17.r.r.r.r.r.r.r.r.r.r.r) (kEnd Tryz.prog (RS Tryz.f17) kk)))
theorem q17_1  (L : Nat) (a0 : (List api_Factor)) (kk : PV → Prop) (o4 : Nat × (Int × Int × List Int)) : KK17_1 a0 (kc17_1 L kk) o4 =
 (seln o4.1 [(ob (some (o4.2.2.2, 0)) (fun (x : ((List Int) × Int)) => kk (.tup [.lst false (.t3 x.1), I x.2])))]) := by kernel_rfl
def T_R51_Point {A : Type} (an : An A)  (L : Nat) (a0 : (List api_Factor)) (a1 : Int) (out : ((List Int) × Int) → A) : A :=
 (an.bd (F_R51_Usable L a0) fun r1 =>
 (an.cn (r1 != 0)
 (an.lf out ([], r1))
 (an.jb (bif (decide (a1 < 0)) then (some true)
 else (Option.bind (F_R51_Size L a0) fun r3 =>
 (some (decide (a1 ≥ r3))))) (fun j => (an.cn (decide (a1 < 0))
 (an.lf j true)
 (an.bd (F_R51_Size L a0) fun r4 =>
 (an.lf j (decide (a1 ≥ r4)))))) (fun b2 =>
 (an.cn b2
 (an.lf out ([], 2))
 (an.gd ((0 : Int) ≤ (a0.length : Int))
 (an.gd ((a0.length : Int) * ((8 : Nat) : Int) ≤ 140737488355328)
 (an.gd ((a0.length : Int) ≤ 9223372036854775807)
 (an.bd (lp_R51_Point_1 L a0 L a1 (w64 ((a0.length : Int) - 1)) (List.replicate (Int.toNat (a0.length : Int)) 0)) fun o5 =>
 (an.sl o5.1 [(an.lf out (o5.2.2.2, 0))]))))))))))
def F_R51_Point  (L : Nat) (a0 : (List api_Factor)) (a1 : Int) : Option ((List Int) × Int) := T_R51_Point (anO _) L a0 a1 some
theorem e17  (L : Nat) (a0 : (List api_Factor)) (a1 : Int) (kk : PV → Prop) : EW (O17 L) L 9 (RS Tryz.f17) c17 [.lst false (.t59 a0), I a1] kk = ob (F_R51_Point L a0 a1) (fun (x : ((List Int) × Int)) => kk (.tup [.lst false (.t3 x.1), I x.2])) := by
  refine Eq.trans (b := T_R51_Point anP L a0 a1 (fun (x : ((List Int) × Int)) => kk (.tup [.lst false (.t3 x.1), I x.2]))) ?_ ?_
  · refine Eq.trans (b := (ob (F_R51_Usable L a0) fun r1 =>
 (br (r1 != 0)
 (ob (some ([], r1)) (fun (x : ((List Int) × Int)) => kk (.tup [.lst false (.t3 x.1), I x.2])))
 (jn (fun j => (br (decide (a1 < 0))
 (ob (some true) j)
 (ob (F_R51_Size L a0) fun r3 =>
 (ob (some (decide (a1 ≥ r3))) j)))) (fun b2 =>
 (br b2
 (ob (some ([], 2)) (fun (x : ((List Int) × Int)) => kk (.tup [.lst false (.t3 x.1), I x.2])))
 (gd ((0 : Int) ≤ (a0.length : Int))
 (gd ((a0.length : Int) * ((8 : Nat) : Int) ≤ 140737488355328)
 (gd ((a0.length : Int) ≤ 9223372036854775807)
 (loopN (EV (O17 L) L 9 c17.r.r.r.r.r.r.r.r.r.r.l.r.r.l.l) [0, 1, 4, 5, 6, 7, 8] [24] L (sh17_1 a0 a1 (w64 ((a0.length : Int) - 1)) (List.replicate (Int.toNat (a0.length : Int)) 0)) (kc17_1 L kk))))))))))) (by kernel_rfl) ?_
    unfold T_R51_Point
    dsimp only [anP]
    simp only [le17_1, q17_1]
  generalize (fun (x : ((List Int) × Int)) => kk (.tup [.lst false (.t3 x.1), I x.2])) = Q
  unfold F_R51_Point T_R51_Point
  dsimp only [anP, anO]
  try simp only [y1, y2, y3, y4, y5 Q, y6, y7, y8 Q, y9, z1, z2, z3, z4]
  try simp only [z5, z6, y1, y2, y3, y4, y5 Q, y6, y7, y8 Q, y9, z1, z2, z3, z4]
theorem h17   (L : Nat) (a0 : (List api_Factor)) (a1 : Int) (r : ((List Int) × Int)) (h : F_R51_Point L a0 a1 = some r) : Holds Tryz.prog 17 [.lst false (.t59 a0), I a1] (.tup [.lst false (.t3 r.1), I r.2]) :=
  hE grwOK (s17  L) mixed Tryz.func17 (by kernel_rfl : cFn Tryz.prog inl Tryz.f17 = some c17) (er := fun (x : ((List Int) × Int)) => .tup [.lst false (.t3 x.1), I x.2]) (by kernel_rfl) (e17 L a0 a1) h
/-! ### simulator/design.point -/
noncomputable def c48 : EC := (cFn Tryz.prog inl Tryz.f48).getD .stop
def O48  (L : Nat) : Oracle := (orc 46 (A1 (fun (x : Int) => I x) cl59 (F_design_usable L)) noC)
theorem s48   (L : Nat) : SoundC Tryz.prog (O48 L) := (orc_sound (a1 _ (h46 L)) (noC_sound Tryz.prog))
def sh48_1 (a0 : (List api_Factor)) (a1 : (List Int)) (v1_1 : Int) (v1_4 : Int) : St := ({ fr := [(0, .lst false (.t59 a0)), (1, .any), (4, I v1_1), (5, .any), (18, .lst false (.t3 a1)), (19, I (a1.length : Int)), (20, I v1_4)], ob := [], base := 0 } : St)
def KK48_1 (a0 : (List api_Factor)) (a1 : (List Int)) (K : Ex → St → Prop) : Nat × (Int × Int) → Prop := fun o => seln o.1 [K .ret (sh48_1 a0 a1 o.2.1 o.2.2), K (.exit 0) (sh48_1 a0 a1 o.2.1 o.2.2)]
def lb_design_point_1 {A : Type} (an : An A)  (L : Nat) (a0 : (List api_Factor)) (a1 : (List Int)) (rec : Int → Int → A) (out : Nat × (Int × Int) → A) (v1_1 : Int) (v1_4 : Int) : A :=
 (an.cn (decide (v1_4 < (a1.length : Int)))
 (an.gd ((0 : Int) ≤ v1_4)
 (an.gd (v1_4 < ((a1.length : Nat) : Int))
 (an.jb (bif (decide ((a1.getD (Int.toNat v1_4) default) < 0)) then (some true)
 else (if (0 : Int) ≤ v1_4 then
 (if v1_4 < ((a0.length : Nat) : Int) then
 (some (decide ((a1.getD (Int.toNat v1_4) default) ≥ (((a0.getD (Int.toNat v1_4) default).Levels).length : Int)))) else none) else none)) (fun j => (an.cn (decide ((a1.getD (Int.toNat v1_4) default) < 0))
 (an.lf j true)
 (an.gd ((0 : Int) ≤ v1_4)
 (an.gd (v1_4 < ((a0.length : Nat) : Int))
 (an.lf j (decide ((a1.getD (Int.toNat v1_4) default) ≥ (((a0.getD (Int.toNat v1_4) default).Levels).length : Int)))))))) (fun b2 =>
 (an.cn b2
 (an.lf out (0, (2, v1_4)))
 (rec v1_1 (w64 (v1_4 + 1))))))))
 (an.lf out (1, (v1_1, v1_4))))
def lp_design_point_1  (L : Nat) (a0 : (List api_Factor)) (a1 : (List Int)) : Nat → Int → Int → Option (Nat × (Int × Int))
  | 0, _, _ => none
  | n + 1, v1_1, v1_4 => lb_design_point_1 (anO _)  L a0 a1 (lp_design_point_1  L a0 a1 n) some v1_1 v1_4
theorem ln48_1  (L : Nat) (a0 : (List api_Factor)) (a1 : (List Int)) (g : Int → Int → Option (Nat × (Int × Int))) (Q : Nat × (Int × Int) → Prop) (v1_1 : Int) (v1_4 : Int) : lb_design_point_1 anP  L a0 a1 (fun v1_1 v1_4 => ob (g v1_1 v1_4) Q) Q v1_1 v1_4 = ob (lb_design_point_1 (anO _)  L a0 a1 g some v1_1 v1_4) Q := by
  unfold lb_design_point_1
  dsimp only [anP, anO]
  try simp only [y1, y2, y3, y4, y5 Q, y6, y7, y8 Q, y9, z1, z2, z3, z4]
  try simp only [z5, z6, y1, y2, y3, y4, y5 Q, y6, y7, y8 Q, y9, z1, z2, z3, z4]
theorem le48_1  (L : Nat) (a0 : (List api_Factor)) (a1 : (List Int)) (n : Nat) (v1_1 : Int) (v1_4 : Int) (K : Ex → St → Prop) : loopN (EV (O48 L) L 9 c48.r.r.r.r.r.r.l.r.r.l.l) [0, 1, 4, 5, 18, 19, 20] [] n (sh48_1 a0 a1 v1_1 v1_4) K = ob (lp_design_point_1  L a0 a1 n v1_1 v1_4) (fun o => KK48_1 a0 a1 K o) := by
  induction n generalizing v1_1 v1_4 with
  | zero => rfl
  | succ n ih =>
    refine Eq.trans (b := lb_design_point_1 anP  L a0 a1 (fun v1_1 v1_4 => loopN (EV (O48 L) L 9 c48.r.r.r.r.r.r.l.r.r.l.l) [0, 1, 4, 5, 18, 19, 20] [] n (sh48_1 a0 a1 v1_1 v1_4) K) (KK48_1 a0 a1 K) v1_1 v1_4) (by kernel_rfl) ?_
    simp only [ih]
    exact ln48_1  L a0 a1 (lp_design_point_1  L a0 a1 n) (KK48_1 a0 a1 K) v1_1 v1_4
def kc48_1  (L : Nat)  (kk : PV → Prop) : Ex → St → Prop := (kBlock 0 (kSeq (EV (O48 L) L 9 c48.r.r.r.r.r.r.r) (kEnd Tryz.prog (RS Tryz.f48) kk)))
theorem q48_1  (L : Nat) (a0 : (List api_Factor)) (a1 : (List Int)) (kk : PV → Prop) (o2 : Nat × (Int × Int)) : KK48_1 a0 a1 (kc48_1 L kk) o2 =
 (seln o2.1 [(ob (some o2.2.1) (fun (x : Int) => kk (I x))),
 (ob (some 0) (fun (x : Int) => kk (I x)))]) := by kernel_rfl
def T_design_point {A : Type} (an : An A)  (L : Nat) (a0 : (List api_Factor)) (a1 : (List Int)) (out : Int → A) : A :=
 (an.bd (F_design_usable L a0) fun r1 =>
 (an.cn (r1 != 0)
 (an.lf out r1)
 (an.cn ((a1.length : Int) != (a0.length : Int))
 (an.lf out 8)
 (an.bd (lp_design_point_1 L a0 a1 L 0 0) fun o2 =>
 (an.sl o2.1 [(an.lf out o2.2.1),
 (an.lf out 0)])))))
def F_design_point  (L : Nat) (a0 : (List api_Factor)) (a1 : (List Int)) : Option Int := T_design_point (anO _) L a0 a1 some
theorem e48  (L : Nat) (a0 : (List api_Factor)) (a1 : (List Int)) (kk : PV → Prop) : EW (O48 L) L 9 (RS Tryz.f48) c48 [.lst false (.t59 a0), .lst false (.t3 a1)] kk = ob (F_design_point L a0 a1) (fun (x : Int) => kk (I x)) := by
  refine Eq.trans (b := T_design_point anP L a0 a1 (fun (x : Int) => kk (I x))) ?_ ?_
  · refine Eq.trans (b := (ob (F_design_usable L a0) fun r1 =>
 (br (r1 != 0)
 (ob (some r1) (fun (x : Int) => kk (I x)))
 (br ((a1.length : Int) != (a0.length : Int))
 (ob (some 8) (fun (x : Int) => kk (I x)))
 (loopN (EV (O48 L) L 9 c48.r.r.r.r.r.r.l.r.r.l.l) [0, 1, 4, 5, 18, 19, 20] [] L (sh48_1 a0 a1 0 0) (kc48_1 L kk)))))) (by kernel_rfl) ?_
    unfold T_design_point
    dsimp only [anP]
    simp only [le48_1, q48_1]
  generalize (fun (x : Int) => kk (I x)) = Q
  unfold F_design_point T_design_point
  dsimp only [anP, anO]
  try simp only [y1, y2, y3, y4, y5 Q, y6, y7, y8 Q, y9, z1, z2, z3, z4]
theorem h48   (L : Nat) (a0 : (List api_Factor)) (a1 : (List Int)) (r : Int) (h : F_design_point L a0 a1 = some r) : Holds Tryz.prog 48 [.lst false (.t59 a0), .lst false (.t3 a1)] (I r) :=
  hE grwOK (s48  L) mixed Tryz.func48 (by kernel_rfl : cFn Tryz.prog inl Tryz.f48 = some c48) (er := fun (x : Int) => I x) (by kernel_rfl) (e48 L a0 a1) h
/-! ### simulator/design.Index -/
noncomputable def c18 : EC := (cFn Tryz.prog inl Tryz.f18).getD .stop
def O18  (L : Nat) : Oracle := (orc 48 (A2 (fun (x : Int) => I x) cl59 cl3 (F_design_point L)) noC)
theorem s18   (L : Nat) : SoundC Tryz.prog (O18 L) := (orc_sound (a2 _ (h48 L)) (noC_sound Tryz.prog))
def sh18_1 (a0 : (List api_Factor)) (a1 : (List Int)) (v1_3 : Int) (v1_6 : Int) : St := ({ fr := [(0, .lst false (.t59 a0)), (1, .any), (4, I 0), (5, I 0), (6, .any), (7, I v1_3), (16, .lst false (.t3 a1)), (17, I (a1.length : Int)), (18, I v1_6)], ob := [], base := 0 } : St)
def KK18_1 (a0 : (List api_Factor)) (a1 : (List Int)) (K : Ex → St → Prop) : Nat × (Int × Int) → Prop := fun o => seln o.1 [K (.exit 0) (sh18_1 a0 a1 o.2.1 o.2.2)]
def lb_design_Index_1 {A : Type} (an : An A)  (L : Nat) (a0 : (List api_Factor)) (a1 : (List Int)) (rec : Int → Int → A) (out : Nat × (Int × Int) → A) (v1_3 : Int) (v1_6 : Int) : A :=
 (an.cn (decide (v1_6 < (a1.length : Int)))
 (an.gd ((0 : Int) ≤ v1_6)
 (an.gd (v1_6 < ((a1.length : Nat) : Int))
 (an.gd ((0 : Int) ≤ v1_6)
 (an.gd (v1_6 < ((a0.length : Nat) : Int))
 (rec (w64 ((w64 (v1_3 * (((a0.getD (Int.toNat v1_6) default).Levels).length : Int))) + (a1.getD (Int.toNat v1_6) default))) (w64 (v1_6 + 1)))))))
 (an.lf out (0, (v1_3, v1_6))))
def lp_design_Index_1  (L : Nat) (a0 : (List api_Factor)) (a1 : (List Int)) : Nat → Int → Int → Option (Nat × (Int × Int))
  | 0, _, _ => none
  | n + 1, v1_3, v1_6 => lb_design_Index_1 (anO _)  L a0 a1 (lp_design_Index_1  L a0 a1 n) some v1_3 v1_6
theorem ln18_1  (L : Nat) (a0 : (List api_Factor)) (a1 : (List Int)) (g : Int → Int → Option (Nat × (Int × Int))) (Q : Nat × (Int × Int) → Prop) (v1_3 : Int) (v1_6 : Int) : lb_design_Index_1 anP  L a0 a1 (fun v1_3 v1_6 => ob (g v1_3 v1_6) Q) Q v1_3 v1_6 = ob (lb_design_Index_1 (anO _)  L a0 a1 g some v1_3 v1_6) Q := by
  unfold lb_design_Index_1
  dsimp only [anP, anO]
  try simp only [y1, y2, y3, y4, y5 Q, y6, y7, y8 Q, y9, z1, z2, z3, z4]
theorem le18_1  (L : Nat) (a0 : (List api_Factor)) (a1 : (List Int)) (n : Nat) (v1_3 : Int) (v1_6 : Int) (K : Ex → St → Prop) : loopN (EV (O18 L) L 9 c18.r.r.r.r.r.r.l.r.r.l.l) [0, 1, 4, 5, 6, 7, 16, 17, 18] [] n (sh18_1 a0 a1 v1_3 v1_6) K = ob (lp_design_Index_1  L a0 a1 n v1_3 v1_6) (fun o => KK18_1 a0 a1 K o) := by
  induction n generalizing v1_3 v1_6 with
  | zero => rfl
  | succ n ih =>
    refine Eq.trans (b := lb_design_Index_1 anP  L a0 a1 (fun v1_3 v1_6 => loopN (EV (O18 L) L 9 c18.r.r.r.r.r.r.l.r.r.l.l) [0, 1, 4, 5, 6, 7, 16, 17, 18] [] n (sh18_1 a0 a1 v1_3 v1_6) K) (KK18_1 a0 a1 K) v1_3 v1_6) (by kernel_rfl) ?_
    simp only [ih]
    exact ln18_1  L a0 a1 (lp_design_Index_1  L a0 a1 n) (KK18_1 a0 a1 K) v1_3 v1_6
def kc18_1  (L : Nat)  (kk : PV → Prop) : Ex → St → Prop := (kBlock 0 (kSeq (EV (O18 L) L 9 c18.r.r.r.r.r.r.r) (kEnd Tryz.prog (RS Tryz.f18) kk)))
theorem q18_1  (L : Nat) (a0 : (List api_Factor)) (a1 : (List Int)) (kk : PV → Prop) (o2 : Nat × (Int × Int)) : KK18_1 a0 a1 (kc18_1 L kk) o2 =
 (seln o2.1 [(ob (some (o2.2.1, 0)) (fun (x : (Int × Int)) => kk (.tup [I x.1, I x.2])))]) := by kernel_rfl
def T_design_Index {A : Type} (an : An A)  (L : Nat) (a0 : (List api_Factor)) (a1 : (List Int)) (out : (Int × Int) → A) : A :=
 (an.bd (F_design_point L a0 a1) fun r1 =>
 (an.cn (r1 != 0)
 (an.lf out (0, r1))
 (an.bd (lp_design_Index_1 L a0 a1 L 0 0) fun o2 =>
 (an.sl o2.1 [(an.lf out (o2.2.1, 0))]))))
def F_design_Index  (L : Nat) (a0 : (List api_Factor)) (a1 : (List Int)) : Option (Int × Int) := T_design_Index (anO _) L a0 a1 some
theorem e18  (L : Nat) (a0 : (List api_Factor)) (a1 : (List Int)) (kk : PV → Prop) : EW (O18 L) L 9 (RS Tryz.f18) c18 [.lst false (.t59 a0), .lst false (.t3 a1)] kk = ob (F_design_Index L a0 a1) (fun (x : (Int × Int)) => kk (.tup [I x.1, I x.2])) := by
  refine Eq.trans (b := T_design_Index anP L a0 a1 (fun (x : (Int × Int)) => kk (.tup [I x.1, I x.2]))) ?_ ?_
  · refine Eq.trans (b := (ob (F_design_point L a0 a1) fun r1 =>
 (br (r1 != 0)
 (ob (some (0, r1)) (fun (x : (Int × Int)) => kk (.tup [I x.1, I x.2])))
 (loopN (EV (O18 L) L 9 c18.r.r.r.r.r.r.l.r.r.l.l) [0, 1, 4, 5, 6, 7, 16, 17, 18] [] L (sh18_1 a0 a1 0 0) (kc18_1 L kk))))) (by kernel_rfl) ?_
    unfold T_design_Index
    dsimp only [anP]
    simp only [le18_1, q18_1]
  generalize (fun (x : (Int × Int)) => kk (.tup [I x.1, I x.2])) = Q
  unfold F_design_Index T_design_Index
  dsimp only [anP, anO]
  try simp only [y1, y2, y3, y4, y5 Q, y6, y7, y8 Q, y9, z1, z2, z3, z4]
theorem h18   (L : Nat) (a0 : (List api_Factor)) (a1 : (List Int)) (r : (Int × Int)) (h : F_design_Index L a0 a1 = some r) : Holds Tryz.prog 18 [.lst false (.t59 a0), .lst false (.t3 a1)] (.tup [I r.1, I r.2]) :=
  hE grwOK (s18  L) mixed Tryz.func18 (by kernel_rfl : cFn Tryz.prog inl Tryz.f18 = some c18) (er := fun (x : (Int × Int)) => .tup [I x.1, I x.2]) (by kernel_rfl) (e18 L a0 a1) h
/-! ### simulator/simulatorref51.Index -/
noncomputable def c19 : EC := (cFn Tryz.prog inl Tryz.f19).getD .stop
def O19  (L : Nat) : Oracle := (orc 47 (A1 (fun (x : Int) => I x) cl59 (F_R51_Usable L)) noC)
theorem s19   (L : Nat) : SoundC Tryz.prog (O19 L) := (orc_sound (a1 _ (h47 L)) (noC_sound Tryz.prog))
def sh19_1 (a0 : (List api_Factor)) (a1 : (List Int)) (v1_2 : Int) (v1_3 : Int) (v1_4 : Int) (v1_5 : Int) : St := ({ fr := [(0, .lst false (.t59 a0)), (1, .lst false (.t3 a1)), (4, I v1_2), (5, I v1_3), (6, .any), (7, I v1_4), (8, I v1_5)], ob := [], base := 0 } : St)
def KK19_1 (a0 : (List api_Factor)) (a1 : (List Int)) (K : Ex → St → Prop) : Nat × (Int × Int × Int × Int) → Prop := fun o => seln o.1 [K .ret (sh19_1 a0 a1 o.2.1 o.2.2.1 o.2.2.2.1 o.2.2.2.2), K (.exit 0) (sh19_1 a0 a1 o.2.1 o.2.2.1 o.2.2.2.1 o.2.2.2.2)]
def lb_R51_Index_1 {A : Type} (an : An A)  (L : Nat) (a0 : (List api_Factor)) (a1 : (List Int)) (rec : Int → Int → Int → Int → A) (out : Nat × (Int × Int × Int × Int) → A) (v1_2 : Int) (v1_3 : Int) (v1_4 : Int) (v1_5 : Int) : A :=
 (an.cn (decide (v1_5 < (a0.length : Int)))
 (an.gd ((0 : Int) ≤ v1_5)
 (an.gd (v1_5 < ((a1.length : Nat) : Int))
 (an.cn (decide ((a1.getD (Int.toNat v1_5) default) < 0))
 (an.lf out (0, (0, 2, v1_4, v1_5)))
 (an.gd ((0 : Int) ≤ v1_5)
 (an.gd (v1_5 < ((a1.length : Nat) : Int))
 (an.gd ((0 : Int) ≤ v1_5)
 (an.gd (v1_5 < ((a0.length : Nat) : Int))
 (an.cn (decide ((a1.getD (Int.toNat v1_5) default) ≥ (((a0.getD (Int.toNat v1_5) default).Levels).length : Int)))
 (an.lf out (0, (0, 2, v1_4, v1_5)))
 (an.gd ((0 : Int) ≤ v1_5)
 (an.gd (v1_5 < ((a0.length : Nat) : Int))
 (an.gd ((0 : Int) ≤ v1_5)
 (an.gd (v1_5 < ((a1.length : Nat) : Int))
 (rec v1_2 v1_3 (w64 ((w64 (v1_4 * (((a0.getD (Int.toNat v1_5) default).Levels).length : Int))) + (a1.getD (Int.toNat v1_5) default))) (w64 (v1_5 + 1)))))))))))))))
 (an.lf out (1, (v1_2, v1_3, v1_4, v1_5))))
def lp_R51_Index_1  (L : Nat) (a0 : (List api_Factor)) (a1 : (List Int)) : Nat → Int → Int → Int → Int → Option (Nat × (Int × Int × Int × Int))
  | 0, _, _, _, _ => none
  | n + 1, v1_2, v1_3, v1_4, v1_5 => lb_R51_Index_1 (anO _)  L a0 a1 (lp_R51_Index_1  L a0 a1 n) some v1_2 v1_3 v1_4 v1_5
theorem ln19_1  (L : Nat) (a0 : (List api_Factor)) (a1 : (List Int)) (g : Int → Int → Int → Int → Option (Nat × (Int × Int × Int × Int))) (Q : Nat × (Int × Int × Int × Int) → Prop) (v1_2 : Int) (v1_3 : Int) (v1_4 : Int) (v1_5 : Int) : lb_R51_Index_1 anP  L a0 a1 (fun v1_2 v1_3 v1_4 v1_5 => ob (g v1_2 v1_3 v1_4 v1_5) Q) Q v1_2 v1_3 v1_4 v1_5 = ob (lb_R51_Index_1 (anO _)  L a0 a1 g some v1_2 v1_3 v1_4 v1_5) Q := by
  unfold lb_R51_Index_1
  dsimp only [anP, anO]
  try simp only [y1, y2, y3, y4, y5 Q, y6, y7, y8 Q, y9, z1, z2, z3, z4]
theorem le19_1  (L : Nat) (a0 : (List api_Factor)) (a1 : (List Int)) (n : Nat) (v1_2 : Int) (v1_3 : Int) (v1_4 : Int) (v1_5 : Int) (K : Ex → St → Prop) : loopN (EV (O19 L) L 9 c19.r.r.r.r.r.r.r.r.r.r.l.r.r.l.l) [0, 1, 4, 5, 6, 7, 8] [] n (sh19_1 a0 a1 v1_2 v1_3 v1_4 v1_5) K = ob (lp_R51_Index_1  L a0 a1 n v1_2 v1_3 v1_4 v1_5) (fun o => KK19_1 a0 a1 K o) := by
  induction n generalizing v1_2 v1_3 v1_4 v1_5 with
  | zero => rfl
  | succ n ih =>
    refine Eq.trans (b := lb_R51_Index_1 anP  L a0 a1 (fun v1_2 v1_3 v1_4 v1_5 => loopN (EV (O19 L) L 9 c19.r.r.r.r.r.r.r.r.r.r.l.r.r.l.l) [0, 1, 4, 5, 6, 7, 8] [] n (sh19_1 a0 a1 v1_2 v1_3 v1_4 v1_5) K) (KK19_1 a0 a1 K) v1_2 v1_3 v1_4 v1_5) (by kernel_rfl) ?_
    simp only [ih]
    exact ln19_1  L a0 a1 (lp_R51_Index_1  L a0 a1 n) (KK19_1 a0 a1 K) v1_2 v1_3 v1_4 v1_5
def kc19_1  (L : Nat)  (kk : PV → Prop) : Ex → St → Prop := (kBlock 0 (kSeq (EV (O19 L) L 9 c19.r.r.r.r.r.r.r.r.r.r.r) (kEnd Tryz.prog (RS Tryz.f19) kk)))
theorem q19_1  (L : Nat) (a0 : (List api_Factor)) (a1 : (List Int)) (kk : PV → Prop) (o2 : Nat × (Int × Int × Int × Int)) : KK19_1 a0 a1 (kc19_1 L kk) o2 =
 (seln o2.1 [(ob (some (o2.2.1, o2.2.2.1)) (fun (x : (Int × Int)) => kk (.tup [I x.1, I x.2]))),
 (ob (some (o2.2.2.2.1, 0)) (fun (x : (Int × Int)) => kk (.tup [I x.1, I x.2])))]) := by kernel_rfl
def T_R51_Index {A : Type} (an : An A)  (L : Nat) (a0 : (List api_Factor)) (a1 : (List Int)) (out : (Int × Int) → A) : A :=
 (an.bd (F_R51_Usable L a0) fun r1 =>
 (an.cn (r1 != 0)
 (an.lf out (0, r1))
 (an.cn ((a1.length : Int) != (a0.length : Int))
 (an.lf out (0, 8))
 (an.bd (lp_R51_Index_1 L a0 a1 L 0 0 0 0) fun o2 =>
 (an.sl o2.1 [(an.lf out (o2.2.1, o2.2.2.1)),
 (an.lf out (o2.2.2.2.1, 0))])))))
def F_R51_Index  (L : Nat) (a0 : (List api_Factor)) (a1 : (List Int)) : Option (Int × Int) := T_R51_Index (anO _) L a0 a1 some
theorem e19  (L : Nat) (a0 : (List api_Factor)) (a1 : (List Int)) (kk : PV → Prop) : EW (O19 L) L 9 (RS Tryz.f19) c19 [.lst false (.t59 a0), .lst false (.t3 a1)] kk = ob (F_R51_Index L a0 a1) (fun (x : (Int × Int)) => kk (.tup [I x.1, I x.2])) := by
  refine Eq.trans (b := T_R51_Index anP L a0 a1 (fun (x : (Int × Int)) => kk (.tup [I x.1, I x.2]))) ?_ ?_
  · refine Eq.trans (b := (ob (F_R51_Usable L a0) fun r1 =>
 (br (r1 != 0)
 (ob (some (0, r1)) (fun (x : (Int × Int)) => kk (.tup [I x.1, I x.2])))
 (br ((a1.length : Int) != (a0.length : Int))
 (ob (some (0, 8)) (fun (x : (Int × Int)) => kk (.tup [I x.1, I x.2])))
 (loopN (EV (O19 L) L 9 c19.r.r.r.r.r.r.r.r.r.r.l.r.r.l.l) [0, 1, 4, 5, 6, 7, 8] [] L (sh19_1 a0 a1 0 0 0 0) (kc19_1 L kk)))))) (by kernel_rfl) ?_
    unfold T_R51_Index
    dsimp only [anP]
    simp only [le19_1, q19_1]
  generalize (fun (x : (Int × Int)) => kk (.tup [I x.1, I x.2])) = Q
  unfold F_R51_Index T_R51_Index
  dsimp only [anP, anO]
  try simp only [y1, y2, y3, y4, y5 Q, y6, y7, y8 Q, y9, z1, z2, z3, z4]
theorem h19   (L : Nat) (a0 : (List api_Factor)) (a1 : (List Int)) (r : (Int × Int)) (h : F_R51_Index L a0 a1 = some r) : Holds Tryz.prog 19 [.lst false (.t59 a0), .lst false (.t3 a1)] (.tup [I r.1, I r.2]) :=
  hE grwOK (s19  L) mixed Tryz.func19 (by kernel_rfl : cFn Tryz.prog inl Tryz.f19 = some c19) (er := fun (x : (Int × Int)) => .tup [I x.1, I x.2]) (by kernel_rfl) (e19 L a0 a1) h
/-! ### simulator/design.Settings -/
noncomputable def c20 : EC := (cFn Tryz.prog inl Tryz.f20).getD .stop
def O20  (L : Nat) : Oracle := (orc 48 (A2 (fun (x : Int) => I x) cl59 cl3 (F_design_point L)) noC)
theorem s20   (L : Nat) : SoundC Tryz.prog (O20 L) := (orc_sound (a2 _ (h48 L)) (noC_sound Tryz.prog))
def sh20_1 (a0 : (List api_Factor)) (a1 : (List Int)) (v1_3 : List api_Setting) (v1_6 : Int) : St := ({ fr := [(0, .lst false (.t59 a0)), (1, .any), (4, .lst true (.t76 [])), (5, I 0), (6, .any), (7, .lst true (.t76 v1_3)), (16, .lst false (.t3 a1)), (17, I (a1.length : Int)), (18, I v1_6)], ob := [], base := 0 } : St)
def KK20_1 (a0 : (List api_Factor)) (a1 : (List Int)) (K : Ex → St → Prop) : Nat × (List api_Setting × Int) → Prop := fun o => seln o.1 [K (.exit 0) (sh20_1 a0 a1 o.2.1 o.2.2)]
def lb_design_Settings_1 {A : Type} (an : An A)  (L : Nat) (a0 : (List api_Factor)) (a1 : (List Int)) (rec : List api_Setting → Int → A) (out : Nat × (List api_Setting × Int) → A) (v1_3 : List api_Setting) (v1_6 : Int) : A :=
 (an.cn (decide (v1_6 < (a1.length : Int)))
 (an.gd ((0 : Int) ≤ v1_6)
 (an.gd (v1_6 < ((a1.length : Nat) : Int))
 (an.gd ((0 : Int) ≤ v1_6)
 (an.gd (v1_6 < ((a0.length : Nat) : Int))
 (an.gd ((0 : Int) ≤ v1_6)
 (an.gd (v1_6 < ((a0.length : Nat) : Int))
 (an.gd ((0 : Int) ≤ (a1.getD (Int.toNat v1_6) default))
 (an.gd ((a1.getD (Int.toNat v1_6) default) < ((((a0.getD (Int.toNat v1_6) default).Levels).length : Nat) : Int))
 (an.gd ((v1_3.length + [(⟨(a0.getD (Int.toNat v1_6) default).Name, (((a0.getD (Int.toNat v1_6) default).Levels).getD (Int.toNat (a1.getD (Int.toNat v1_6) default)) default)⟩ : api_Setting)].length) * 24 ≤ 140737488355328)
 (an.gd (v1_3.length + [(⟨(a0.getD (Int.toNat v1_6) default).Name, (((a0.getD (Int.toNat v1_6) default).Levels).getD (Int.toNat (a1.getD (Int.toNat v1_6) default)) default)⟩ : api_Setting)].length ≤ maxLen)
 (rec (v1_3 ++ [(⟨(a0.getD (Int.toNat v1_6) default).Name, (((a0.getD (Int.toNat v1_6) default).Levels).getD (Int.toNat (a1.getD (Int.toNat v1_6) default)) default)⟩ : api_Setting)]) (w64 (v1_6 + 1)))))))))))))
 (an.lf out (0, (v1_3, v1_6))))
def lp_design_Settings_1  (L : Nat) (a0 : (List api_Factor)) (a1 : (List Int)) : Nat → List api_Setting → Int → Option (Nat × (List api_Setting × Int))
  | 0, _, _ => none
  | n + 1, v1_3, v1_6 => lb_design_Settings_1 (anO _)  L a0 a1 (lp_design_Settings_1  L a0 a1 n) some v1_3 v1_6
theorem ln20_1  (L : Nat) (a0 : (List api_Factor)) (a1 : (List Int)) (g : List api_Setting → Int → Option (Nat × (List api_Setting × Int))) (Q : Nat × (List api_Setting × Int) → Prop) (v1_3 : List api_Setting) (v1_6 : Int) : lb_design_Settings_1 anP  L a0 a1 (fun v1_3 v1_6 => ob (g v1_3 v1_6) Q) Q v1_3 v1_6 = ob (lb_design_Settings_1 (anO _)  L a0 a1 g some v1_3 v1_6) Q := by
  unfold lb_design_Settings_1
  dsimp only [anP, anO]
  try simp only [y1, y2, y3, y4, y5 Q, y6, y7, y8 Q, y9, z1, z2, z3, z4]
theorem le20_1  (L : Nat) (a0 : (List api_Factor)) (a1 : (List Int)) (n : Nat) (v1_3 : List api_Setting) (v1_6 : Int) (K : Ex → St → Prop) : loopN (EV (O20 L) L 9 c20.r.r.r.r.r.r.l.r.r.l.l) [0, 1, 4, 5, 6, 7, 16, 17, 18] [] n (sh20_1 a0 a1 v1_3 v1_6) K = ob (lp_design_Settings_1  L a0 a1 n v1_3 v1_6) (fun o => KK20_1 a0 a1 K o) := by
  induction n generalizing v1_3 v1_6 with
  | zero => rfl
  | succ n ih =>
    refine Eq.trans (b := lb_design_Settings_1 anP  L a0 a1 (fun v1_3 v1_6 => loopN (EV (O20 L) L 9 c20.r.r.r.r.r.r.l.r.r.l.l) [0, 1, 4, 5, 6, 7, 16, 17, 18] [] n (sh20_1 a0 a1 v1_3 v1_6) K) (KK20_1 a0 a1 K) v1_3 v1_6) (by kernel_rfl) ?_
    simp only [ih]
    exact ln20_1  L a0 a1 (lp_design_Settings_1  L a0 a1 n) (KK20_1 a0 a1 K) v1_3 v1_6
def kc20_1  (L : Nat)  (kk : PV → Prop) : Ex → St → Prop := (kBlock 0 (kSeq (EV (O20 L) L 9 c20.r.r.r.r.r.r.r) (kEnd Tryz.prog (RS Tryz.f20) kk)))
theorem q20_1  (L : Nat) (a0 : (List api_Factor)) (a1 : (List Int)) (kk : PV → Prop) (o2 : Nat × (List api_Setting × Int)) : KK20_1 a0 a1 (kc20_1 L kk) o2 =
 (seln o2.1 [(ob (some (o2.2.1, 0)) (fun (x : ((List api_Setting) × Int)) => kk (.tup [.lst false (.t76 x.1), I x.2])))]) := by kernel_rfl
def T_design_Settings {A : Type} (an : An A)  (L : Nat) (a0 : (List api_Factor)) (a1 : (List Int)) (out : ((List api_Setting) × Int) → A) : A :=
 (an.bd (F_design_point L a0 a1) fun r1 =>
 (an.cn (r1 != 0)
 (an.lf out ([], r1))
 (an.bd (lp_design_Settings_1 L a0 a1 L [] 0) fun o2 =>
 (an.sl o2.1 [(an.lf out (o2.2.1, 0))]))))
def F_design_Settings  (L : Nat) (a0 : (List api_Factor)) (a1 : (List Int)) : Option ((List api_Setting) × Int) := T_design_Settings (anO _) L a0 a1 some
theorem e20  (L : Nat) (a0 : (List api_Factor)) (a1 : (List Int)) (kk : PV → Prop) : EW (O20 L) L 9 (RS Tryz.f20) c20 [.lst false (.t59 a0), .lst false (.t3 a1)] kk = ob (F_design_Settings L a0 a1) (fun (x : ((List api_Setting) × Int)) => kk (.tup [.lst false (.t76 x.1), I x.2])) := by
  refine Eq.trans (b := T_design_Settings anP L a0 a1 (fun (x : ((List api_Setting) × Int)) => kk (.tup [.lst false (.t76 x.1), I x.2]))) ?_ ?_
  · refine Eq.trans (b := (ob (F_design_point L a0 a1) fun r1 =>
 (br (r1 != 0)
 (ob (some ([], r1)) (fun (x : ((List api_Setting) × Int)) => kk (.tup [.lst false (.t76 x.1), I x.2])))
 (loopN (EV (O20 L) L 9 c20.r.r.r.r.r.r.l.r.r.l.l) [0, 1, 4, 5, 6, 7, 16, 17, 18] [] L (sh20_1 a0 a1 [] 0) (kc20_1 L kk))))) (by kernel_rfl) ?_
    unfold T_design_Settings
    dsimp only [anP]
    simp only [le20_1, q20_1]
  generalize (fun (x : ((List api_Setting) × Int)) => kk (.tup [.lst false (.t76 x.1), I x.2])) = Q
  unfold F_design_Settings T_design_Settings
  dsimp only [anP, anO]
  try simp only [y1, y2, y3, y4, y5 Q, y6, y7, y8 Q, y9, z1, z2, z3, z4]
theorem h20   (L : Nat) (a0 : (List api_Factor)) (a1 : (List Int)) (r : ((List api_Setting) × Int)) (h : F_design_Settings L a0 a1 = some r) : Holds Tryz.prog 20 [.lst false (.t59 a0), .lst false (.t3 a1)] (.tup [.lst false (.t76 r.1), I r.2]) :=
  hE grwOK (s20  L) mixed Tryz.func20 (by kernel_rfl : cFn Tryz.prog inl Tryz.f20 = some c20) (er := fun (x : ((List api_Setting) × Int)) => .tup [.lst false (.t76 x.1), I x.2]) (by kernel_rfl) (e20 L a0 a1) h
/-! ### simulator/simulatorref51.Settings -/
noncomputable def c21 : EC := (cFn Tryz.prog inl Tryz.f21).getD .stop
def O21  (L : Nat) : Oracle := (orc 19 (A2 (fun (x : (Int × Int)) => .tup [I x.1, I x.2]) cl59 cl3 (F_R51_Index L)) noC)
theorem s21   (L : Nat) : SoundC Tryz.prog (O21 L) := (orc_sound (a2 _ (h19 L)) (noC_sound Tryz.prog))
def sh21_1 (a0 : (List api_Factor)) (a1 : (List Int)) (v1_4 : List api_Setting) (v1_5 : Int) : St := ({ fr := [(0, .lst false (.t59 a0)), (1, .lst false (.t3 a1)), (4, .lst true (.t76 [])), (5, I 0), (6, .any), (7, .any), (8, .lst true (.t76 v1_4)), (9, I v1_5)], ob := [], base := 0 } : St)
def KK21_1 (a0 : (List api_Factor)) (a1 : (List Int)) (K : Ex → St → Prop) : Nat × (List api_Setting × Int) → Prop := fun o => seln o.1 [K (.exit 0) (sh21_1 a0 a1 o.2.1 o.2.2)]
def lb_R51_Settings_1 {A : Type} (an : An A)  (L : Nat) (a0 : (List api_Factor)) (a1 : (List Int)) (rec : List api_Setting → Int → A) (out : Nat × (List api_Setting × Int) → A) (v1_4 : List api_Setting) (v1_5 : Int) : A :=
 (an.cn (decide (v1_5 < (a0.length : Int)))
 (an.gd ((0 : Int) ≤ v1_5)
 (an.gd (v1_5 < ((a0.length : Nat) : Int))
 (an.gd ((0 : Int) ≤ v1_5)
 (an.gd (v1_5 < ((a0.length : Nat) : Int))
 (an.gd ((0 : Int) ≤ v1_5)
 (an.gd (v1_5 < ((a1.length : Nat) : Int))
 (an.gd ((0 : Int) ≤ (a1.getD (Int.toNat v1_5) default))
 (an.gd ((a1.getD (Int.toNat v1_5) default) < ((((a0.getD (Int.toNat v1_5) default).Levels).length : Nat) : Int))
 (an.gd ((v1_4.length + [(⟨(a0.getD (Int.toNat v1_5) default).Name, (((a0.getD (Int.toNat v1_5) default).Levels).getD (Int.toNat (a1.getD (Int.toNat v1_5) default)) default)⟩ : api_Setting)].length) * 24 ≤ 140737488355328)
 (an.gd (v1_4.length + [(⟨(a0.getD (Int.toNat v1_5) default).Name, (((a0.getD (Int.toNat v1_5) default).Levels).getD (Int.toNat (a1.getD (Int.toNat v1_5) default)) default)⟩ : api_Setting)].length ≤ maxLen)
 (rec (v1_4 ++ [(⟨(a0.getD (Int.toNat v1_5) default).Name, (((a0.getD (Int.toNat v1_5) default).Levels).getD (Int.toNat (a1.getD (Int.toNat v1_5) default)) default)⟩ : api_Setting)]) (w64 (v1_5 + 1)))))))))))))
 (an.lf out (0, (v1_4, v1_5))))
def lp_R51_Settings_1  (L : Nat) (a0 : (List api_Factor)) (a1 : (List Int)) : Nat → List api_Setting → Int → Option (Nat × (List api_Setting × Int))
  | 0, _, _ => none
  | n + 1, v1_4, v1_5 => lb_R51_Settings_1 (anO _)  L a0 a1 (lp_R51_Settings_1  L a0 a1 n) some v1_4 v1_5
theorem ln21_1  (L : Nat) (a0 : (List api_Factor)) (a1 : (List Int)) (g : List api_Setting → Int → Option (Nat × (List api_Setting × Int))) (Q : Nat × (List api_Setting × Int) → Prop) (v1_4 : List api_Setting) (v1_5 : Int) : lb_R51_Settings_1 anP  L a0 a1 (fun v1_4 v1_5 => ob (g v1_4 v1_5) Q) Q v1_4 v1_5 = ob (lb_R51_Settings_1 (anO _)  L a0 a1 g some v1_4 v1_5) Q := by
  unfold lb_R51_Settings_1
  dsimp only [anP, anO]
  try simp only [y1, y2, y3, y4, y5 Q, y6, y7, y8 Q, y9, z1, z2, z3, z4]
theorem le21_1  (L : Nat) (a0 : (List api_Factor)) (a1 : (List Int)) (n : Nat) (v1_4 : List api_Setting) (v1_5 : Int) (K : Ex → St → Prop) : loopN (EV (O21 L) L 9 c21.r.r.r.r.r.r.r.r.l.r.r.l.l) [0, 1, 4, 5, 6, 7, 8, 9] [] n (sh21_1 a0 a1 v1_4 v1_5) K = ob (lp_R51_Settings_1  L a0 a1 n v1_4 v1_5) (fun o => KK21_1 a0 a1 K o) := by
  induction n generalizing v1_4 v1_5 with
  | zero => rfl
  | succ n ih =>
    refine Eq.trans (b := lb_R51_Settings_1 anP  L a0 a1 (fun v1_4 v1_5 => loopN (EV (O21 L) L 9 c21.r.r.r.r.r.r.r.r.l.r.r.l.l) [0, 1, 4, 5, 6, 7, 8, 9] [] n (sh21_1 a0 a1 v1_4 v1_5) K) (KK21_1 a0 a1 K) v1_4 v1_5) (by kernel_rfl) ?_
    simp only [ih]
    exact ln21_1  L a0 a1 (lp_R51_Settings_1  L a0 a1 n) (KK21_1 a0 a1 K) v1_4 v1_5
def kc21_1  (L : Nat)  (kk : PV → Prop) : Ex → St → Prop := (kBlock 0 (kSeq (EV (O21 L) L 9 c21.r.r.r.r.r.r.r.r.r) (kEnd Tryz.prog (RS Tryz.f21) kk)))
theorem q21_1  (L : Nat) (a0 : (List api_Factor)) (a1 : (List Int)) (kk : PV → Prop) (o2 : Nat × (List api_Setting × Int)) : KK21_1 a0 a1 (kc21_1 L kk) o2 =
 (seln o2.1 [(ob (some (o2.2.1, 0)) (fun (x : ((List api_Setting) × Int)) => kk (.tup [.lst false (.t76 x.1), I x.2])))]) := by kernel_rfl
def T_R51_Settings {A : Type} (an : An A)  (L : Nat) (a0 : (List api_Factor)) (a1 : (List Int)) (out : ((List api_Setting) × Int) → A) : A :=
 (an.bd (F_R51_Index L a0 a1) fun r1 =>
 (an.cn (r1.2 != 0)
 (an.lf out ([], r1.2))
 (an.bd (lp_R51_Settings_1 L a0 a1 L [] 0) fun o2 =>
 (an.sl o2.1 [(an.lf out (o2.2.1, 0))]))))
def F_R51_Settings  (L : Nat) (a0 : (List api_Factor)) (a1 : (List Int)) : Option ((List api_Setting) × Int) := T_R51_Settings (anO _) L a0 a1 some
theorem e21  (L : Nat) (a0 : (List api_Factor)) (a1 : (List Int)) (kk : PV → Prop) : EW (O21 L) L 9 (RS Tryz.f21) c21 [.lst false (.t59 a0), .lst false (.t3 a1)] kk = ob (F_R51_Settings L a0 a1) (fun (x : ((List api_Setting) × Int)) => kk (.tup [.lst false (.t76 x.1), I x.2])) := by
  refine Eq.trans (b := T_R51_Settings anP L a0 a1 (fun (x : ((List api_Setting) × Int)) => kk (.tup [.lst false (.t76 x.1), I x.2]))) ?_ ?_
  · refine Eq.trans (b := (ob (F_R51_Index L a0 a1) fun r1 =>
 (br (r1.2 != 0)
 (ob (some ([], r1.2)) (fun (x : ((List api_Setting) × Int)) => kk (.tup [.lst false (.t76 x.1), I x.2])))
 (loopN (EV (O21 L) L 9 c21.r.r.r.r.r.r.r.r.l.r.r.l.l) [0, 1, 4, 5, 6, 7, 8, 9] [] L (sh21_1 a0 a1 [] 0) (kc21_1 L kk))))) (by kernel_rfl) ?_
    unfold T_R51_Settings
    dsimp only [anP]
    simp only [le21_1, q21_1]
  generalize (fun (x : ((List api_Setting) × Int)) => kk (.tup [.lst false (.t76 x.1), I x.2])) = Q
  unfold F_R51_Settings T_R51_Settings
  dsimp only [anP, anO]
  try simp only [y1, y2, y3, y4, y5 Q, y6, y7, y8 Q, y9, z1, z2, z3, z4]
theorem h21   (L : Nat) (a0 : (List api_Factor)) (a1 : (List Int)) (r : ((List api_Setting) × Int)) (h : F_R51_Settings L a0 a1 = some r) : Holds Tryz.prog 21 [.lst false (.t59 a0), .lst false (.t3 a1)] (.tup [.lst false (.t76 r.1), I r.2]) :=
  hE grwOK (s21  L) mixed Tryz.func21 (by kernel_rfl : cFn Tryz.prog inl Tryz.f21 = some c21) (er := fun (x : ((List api_Setting) × Int)) => .tup [.lst false (.t76 x.1), I x.2]) (by kernel_rfl) (e21 L a0 a1) h
/-! ### simulator/simulatorref51.Same -/
noncomputable def c22 : EC := (cFn Tryz.prog inl Tryz.f22).getD .stop
def O22  (L : Nat) : Oracle := noC
theorem s22   (L : Nat) : SoundC Tryz.prog (O22 L) := (noC_sound Tryz.prog)
def sh22_1 (a0 : (List Int)) (a1 : (List Int)) (v1_2 : Bool) (v1_3 : Int) : St := ({ fr := [(0, .lst false (.t3 a0)), (1, .lst false (.t3 a1)), (4, B v1_2), (5, I v1_3)], ob := [], base := 0 } : St)
def KK22_1 (a0 : (List Int)) (a1 : (List Int)) (K : Ex → St → Prop) : Nat × (Bool × Int) → Prop := fun o => seln o.1 [K .ret (sh22_1 a0 a1 o.2.1 o.2.2), K (.exit 0) (sh22_1 a0 a1 o.2.1 o.2.2)]
def lb_R51_Same_1 {A : Type} (an : An A)  (L : Nat) (a0 : (List Int)) (a1 : (List Int)) (rec : Bool → Int → A) (out : Nat × (Bool × Int) → A) (v1_2 : Bool) (v1_3 : Int) : A :=
 (an.cn (decide (v1_3 < (a0.length : Int)))
 (an.gd ((0 : Int) ≤ v1_3)
 (an.gd (v1_3 < ((a0.length : Nat) : Int))
 (an.gd ((0 : Int) ≤ v1_3)
 (an.gd (v1_3 < ((a1.length : Nat) : Int))
 (an.cn ((a0.getD (Int.toNat v1_3) default) != (a1.getD (Int.toNat v1_3) default))
 (an.lf out (0, (false, v1_3)))
 (rec v1_2 (w64 (v1_3 + 1))))))))
 (an.lf out (1, (v1_2, v1_3))))
def lp_R51_Same_1  (L : Nat) (a0 : (List Int)) (a1 : (List Int)) : Nat → Bool → Int → Option (Nat × (Bool × Int))
  | 0, _, _ => none
  | n + 1, v1_2, v1_3 => lb_R51_Same_1 (anO _)  L a0 a1 (lp_R51_Same_1  L a0 a1 n) some v1_2 v1_3
theorem ln22_1  (L : Nat) (a0 : (List Int)) (a1 : (List Int)) (g : Bool → Int → Option (Nat × (Bool × Int))) (Q : Nat × (Bool × Int) → Prop) (v1_2 : Bool) (v1_3 : Int) : lb_R51_Same_1 anP  L a0 a1 (fun v1_2 v1_3 => ob (g v1_2 v1_3) Q) Q v1_2 v1_3 = ob (lb_R51_Same_1 (anO _)  L a0 a1 g some v1_2 v1_3) Q := by
  unfold lb_R51_Same_1
  dsimp only [anP, anO]
  try simp only [y1, y2, y3, y4, y5 Q, y6, y7, y8 Q, y9, z1, z2, z3, z4]
theorem le22_1  (L : Nat) (a0 : (List Int)) (a1 : (List Int)) (n : Nat) (v1_2 : Bool) (v1_3 : Int) (K : Ex → St → Prop) : loopN (EV (O22 L) L 9 c22.r.r.r.r.l.r.r.l.l) [0, 1, 4, 5] [] n (sh22_1 a0 a1 v1_2 v1_3) K = ob (lp_R51_Same_1  L a0 a1 n v1_2 v1_3) (fun o => KK22_1 a0 a1 K o) := by
  induction n generalizing v1_2 v1_3 with
  | zero => rfl
  | succ n ih =>
    refine Eq.trans (b := lb_R51_Same_1 anP  L a0 a1 (fun v1_2 v1_3 => loopN (EV (O22 L) L 9 c22.r.r.r.r.l.r.r.l.l) [0, 1, 4, 5] [] n (sh22_1 a0 a1 v1_2 v1_3) K) (KK22_1 a0 a1 K) v1_2 v1_3) (by kernel_rfl) ?_
    simp only [ih]
    exact ln22_1  L a0 a1 (lp_R51_Same_1  L a0 a1 n) (KK22_1 a0 a1 K) v1_2 v1_3
def kc22_1  (L : Nat)  (kk : PV → Prop) : Ex → St → Prop := (kBlock 0 (kSeq (EV (O22 L) L 9 c22.r.r.r.r.r) (kEnd Tryz.prog (RS Tryz.f22) kk)))
theorem q22_1  (L : Nat) (a0 : (List Int)) (a1 : (List Int)) (kk : PV → Prop) (o1 : Nat × (Bool × Int)) : KK22_1 a0 a1 (kc22_1 L kk) o1 =
 (seln o1.1 [(ob (some o1.2.1) (fun (x : Bool) => kk (B x))),
 (ob (some true) (fun (x : Bool) => kk (B x)))]) := by kernel_rfl
def T_R51_Same {A : Type} (an : An A)  (L : Nat) (a0 : (List Int)) (a1 : (List Int)) (out : Bool → A) : A :=
 (an.cn ((a0.length : Int) != (a1.length : Int))
 (an.lf out false)
 (an.bd (lp_R51_Same_1 L a0 a1 L false 0) fun o1 =>
 (an.sl o1.1 [(an.lf out o1.2.1),
 (an.lf out true)])))
def F_R51_Same  (L : Nat) (a0 : (List Int)) (a1 : (List Int)) : Option Bool := T_R51_Same (anO _) L a0 a1 some
theorem e22  (L : Nat) (a0 : (List Int)) (a1 : (List Int)) (kk : PV → Prop) : EW (O22 L) L 9 (RS Tryz.f22) c22 [.lst false (.t3 a0), .lst false (.t3 a1)] kk = ob (F_R51_Same L a0 a1) (fun (x : Bool) => kk (B x)) := by
  refine Eq.trans (b := T_R51_Same anP L a0 a1 (fun (x : Bool) => kk (B x))) ?_ ?_
  · refine Eq.trans (b := (br ((a0.length : Int) != (a1.length : Int))
 (ob (some false) (fun (x : Bool) => kk (B x)))
 (loopN (EV (O22 L) L 9 c22.r.r.r.r.l.r.r.l.l) [0, 1, 4, 5] [] L (sh22_1 a0 a1 false 0) (kc22_1 L kk)))) (by kernel_rfl) ?_
    unfold T_R51_Same
    dsimp only [anP]
    simp only [le22_1, q22_1]
  generalize (fun (x : Bool) => kk (B x)) = Q
  unfold F_R51_Same T_R51_Same
  dsimp only [anP, anO]
  try simp only [y1, y2, y3, y4, y5 Q, y6, y7, y8 Q, y9, z1, z2, z3, z4]
theorem h22   (L : Nat) (a0 : (List Int)) (a1 : (List Int)) (r : Bool) (h : F_R51_Same L a0 a1 = some r) : Holds Tryz.prog 22 [.lst false (.t3 a0), .lst false (.t3 a1)] (B r) :=
  hE grwOK (s22  L) mixed Tryz.func22 (by kernel_rfl : cFn Tryz.prog inl Tryz.f22 = some c22) (er := fun (x : Bool) => B x) (by kernel_rfl) (e22 L a0 a1) h
/-! ### simulator/simulatorref16.SameSettings -/
noncomputable def c23 : EC := (cFn Tryz.prog inl Tryz.f23).getD .stop
def O23  (L : Nat) : Oracle := noC
theorem s23   (L : Nat) : SoundC Tryz.prog (O23 L) := (noC_sound Tryz.prog)
def sh23_1 (a0 : (List api_Setting)) (a1 : (List api_Setting)) (v1_2 : Bool) (v1_3 : Int) : St := ({ fr := [(0, .lst false (.t76 a0)), (1, .lst false (.t76 a1)), (4, B v1_2), (5, I v1_3)], ob := [], base := 0 } : St)
def KK23_1 (a0 : (List api_Setting)) (a1 : (List api_Setting)) (K : Ex → St → Prop) : Nat × (Bool × Int) → Prop := fun o => seln o.1 [K .ret (sh23_1 a0 a1 o.2.1 o.2.2), K (.exit 0) (sh23_1 a0 a1 o.2.1 o.2.2)]
def lb_R16_SameSettings_1 {A : Type} (an : An A)  (L : Nat) (a0 : (List api_Setting)) (a1 : (List api_Setting)) (rec : Bool → Int → A) (out : Nat × (Bool × Int) → A) (v1_2 : Bool) (v1_3 : Int) : A :=
 (an.cn (decide (v1_3 < (a0.length : Int)))
 (an.gd ((0 : Int) ≤ v1_3)
 (an.gd (v1_3 < ((a0.length : Nat) : Int))
 (an.gd ((0 : Int) ≤ v1_3)
 (an.gd (v1_3 < ((a1.length : Nat) : Int))
 (an.cn (!(((a0.getD (Int.toNat v1_3) default).Name == (a1.getD (Int.toNat v1_3) default).Name) && (((a0.getD (Int.toNat v1_3) default).N == (a1.getD (Int.toNat v1_3) default).N) && true)))
 (an.lf out (0, (false, v1_3)))
 (rec v1_2 (w64 (v1_3 + 1))))))))
 (an.lf out (1, (v1_2, v1_3))))
def lp_R16_SameSettings_1  (L : Nat) (a0 : (List api_Setting)) (a1 : (List api_Setting)) : Nat → Bool → Int → Option (Nat × (Bool × Int))
  | 0, _, _ => none
  | n + 1, v1_2, v1_3 => lb_R16_SameSettings_1 (anO _)  L a0 a1 (lp_R16_SameSettings_1  L a0 a1 n) some v1_2 v1_3
theorem ln23_1  (L : Nat) (a0 : (List api_Setting)) (a1 : (List api_Setting)) (g : Bool → Int → Option (Nat × (Bool × Int))) (Q : Nat × (Bool × Int) → Prop) (v1_2 : Bool) (v1_3 : Int) : lb_R16_SameSettings_1 anP  L a0 a1 (fun v1_2 v1_3 => ob (g v1_2 v1_3) Q) Q v1_2 v1_3 = ob (lb_R16_SameSettings_1 (anO _)  L a0 a1 g some v1_2 v1_3) Q := by
  unfold lb_R16_SameSettings_1
  dsimp only [anP, anO]
  try simp only [y1, y2, y3, y4, y5 Q, y6, y7, y8 Q, y9, z1, z2, z3, z4]
theorem le23_1  (L : Nat) (a0 : (List api_Setting)) (a1 : (List api_Setting)) (n : Nat) (v1_2 : Bool) (v1_3 : Int) (K : Ex → St → Prop) : loopN (EV (O23 L) L 9 c23.r.r.r.r.l.r.r.l.l) [0, 1, 4, 5] [] n (sh23_1 a0 a1 v1_2 v1_3) K = ob (lp_R16_SameSettings_1  L a0 a1 n v1_2 v1_3) (fun o => KK23_1 a0 a1 K o) := by
  induction n generalizing v1_2 v1_3 with
  | zero => rfl
  | succ n ih =>
    refine Eq.trans (b := lb_R16_SameSettings_1 anP  L a0 a1 (fun v1_2 v1_3 => loopN (EV (O23 L) L 9 c23.r.r.r.r.l.r.r.l.l) [0, 1, 4, 5] [] n (sh23_1 a0 a1 v1_2 v1_3) K) (KK23_1 a0 a1 K) v1_2 v1_3) (by kernel_rfl) ?_
    simp only [ih]
    exact ln23_1  L a0 a1 (lp_R16_SameSettings_1  L a0 a1 n) (KK23_1 a0 a1 K) v1_2 v1_3
def kc23_1  (L : Nat)  (kk : PV → Prop) : Ex → St → Prop := (kBlock 0 (kSeq (EV (O23 L) L 9 c23.r.r.r.r.r) (kEnd Tryz.prog (RS Tryz.f23) kk)))
theorem q23_1  (L : Nat) (a0 : (List api_Setting)) (a1 : (List api_Setting)) (kk : PV → Prop) (o1 : Nat × (Bool × Int)) : KK23_1 a0 a1 (kc23_1 L kk) o1 =
 (seln o1.1 [(ob (some o1.2.1) (fun (x : Bool) => kk (B x))),
 (ob (some true) (fun (x : Bool) => kk (B x)))]) := by kernel_rfl
def T_R16_SameSettings {A : Type} (an : An A)  (L : Nat) (a0 : (List api_Setting)) (a1 : (List api_Setting)) (out : Bool → A) : A :=
 (an.cn ((a0.length : Int) != (a1.length : Int))
 (an.lf out false)
 (an.bd (lp_R16_SameSettings_1 L a0 a1 L false 0) fun o1 =>
 (an.sl o1.1 [(an.lf out o1.2.1),
 (an.lf out true)])))
def F_R16_SameSettings  (L : Nat) (a0 : (List api_Setting)) (a1 : (List api_Setting)) : Option Bool := T_R16_SameSettings (anO _) L a0 a1 some
theorem e23  (L : Nat) (a0 : (List api_Setting)) (a1 : (List api_Setting)) (kk : PV → Prop) : EW (O23 L) L 9 (RS Tryz.f23) c23 [.lst false (.t76 a0), .lst false (.t76 a1)] kk = ob (F_R16_SameSettings L a0 a1) (fun (x : Bool) => kk (B x)) := by
  refine Eq.trans (b := T_R16_SameSettings anP L a0 a1 (fun (x : Bool) => kk (B x))) ?_ ?_
  · refine Eq.trans (b := (br ((a0.length : Int) != (a1.length : Int))
 (ob (some false) (fun (x : Bool) => kk (B x)))
 (loopN (EV (O23 L) L 9 c23.r.r.r.r.l.r.r.l.l) [0, 1, 4, 5] [] L (sh23_1 a0 a1 false 0) (kc23_1 L kk)))) (by kernel_rfl) ?_
    unfold T_R16_SameSettings
    dsimp only [anP]
    simp only [le23_1, q23_1]
  generalize (fun (x : Bool) => kk (B x)) = Q
  unfold F_R16_SameSettings T_R16_SameSettings
  dsimp only [anP, anO]
  try simp only [y1, y2, y3, y4, y5 Q, y6, y7, y8 Q, y9, z1, z2, z3, z4]
theorem h23   (L : Nat) (a0 : (List api_Setting)) (a1 : (List api_Setting)) (r : Bool) (h : F_R16_SameSettings L a0 a1 = some r) : Holds Tryz.prog 23 [.lst false (.t76 a0), .lst false (.t76 a1)] (B r) :=
  hE grwOK (s23  L) mixed Tryz.func23 (by kernel_rfl : cFn Tryz.prog inl Tryz.f23 = some c23) (er := fun (x : Bool) => B x) (by kernel_rfl) (e23 L a0 a1) h
/-! ### L51_awake -/
def F_L51_awake (L : Nat) : Option Bool := some true
def oA11 : Oracle := (orc 9 (A1 (fun (x : Bool) => B x) cl59 (F_L51_small 100)) (orc 66 (A1 (fun (x : Int) => I x) (cI .i64) (F_num_Clip 100)) (orc 68 (A1 (fun (x : Int) => I x) (cI .i64) (F_num_size 100)) (orc 67 (A2 (fun (x : (Int × Int)) => .tup [V .u64 x.1, V .u64 x.2]) (cI .u64) (cI .u64) (F_bits_Mul64 100)) (orc 44 (A2 (fun (x : Int) => I x) (cI .i64) (cI .i64) (F_num_Mul 100)) (orc 14 (A1 (fun (x : Int) => I x) cl59 (F_design_Size 100)) (orc 46 (A1 (fun (x : Int) => I x) cl59 (F_design_usable 100)) (orc 16 (A2 (fun (x : ((List Int) × Int)) => .tup [.lst false (.t3 x.1), I x.2]) cl59 (cI .i64) (F_design_Point 100)) (orc 69 (A1 (fun (x : Int) => I x) (cI .i64) (F_R01_Clip 100)) (orc 70 (A1 (fun (x : Int) => I x) (cI .i64) (F_R01_Abs 100)) (orc 45 (A2 (fun (x : Int) => I x) (cI .i64) (cI .i64) (F_R01_Mul 100)) (orc 15 (A1 (fun (x : Int) => I x) cl59 (F_R51_Size 100)) (orc 47 (A1 (fun (x : Int) => I x) cl59 (F_R51_Usable 100)) (orc 17 (A2 (fun (x : ((List Int) × Int)) => .tup [.lst false (.t3 x.1), I x.2]) cl59 (cI .i64) (F_R51_Point 100)) (orc 48 (A2 (fun (x : Int) => I x) cl59 cl3 (F_design_point 100)) (orc 18 (A2 (fun (x : (Int × Int)) => .tup [I x.1, I x.2]) cl59 cl3 (F_design_Index 100)) (orc 19 (A2 (fun (x : (Int × Int)) => .tup [I x.1, I x.2]) cl59 cl3 (F_R51_Index 100)) (orc 20 (A2 (fun (x : ((List api_Setting) × Int)) => .tup [.lst false (.t76 x.1), I x.2]) cl59 cl3 (F_design_Settings 100)) (orc 21 (A2 (fun (x : ((List api_Setting) × Int)) => .tup [.lst false (.t76 x.1), I x.2]) cl59 cl3 (F_R51_Settings 100)) (orc 22 (A2 (fun (x : Bool) => B x) cl3 cl3 (F_R51_Same 100)) (orc 23 (A2 (fun (x : Bool) => B x) cl76 cl76 (F_R16_SameSettings 100)) noC)))))))))))))))))))))
def nA11 : Nat → Bool := fun f => inL f [9, 66, 68, 67, 44, 14, 46, 16, 69, 70, 45, 15, 47, 17, 48, 18, 19, 20, 21, 22, 23]
theorem h11 (L : Nat) (r : Bool) (h : F_L51_awake L = some r) : Holds Tryz.prog 11 [] (B r) := by
  injection h with h
  subst h
  exact holds_run (inl := inl) (nb := nA11) (base := oA11) grwOK mixed (orc_sound (a1 _ (h9 100)) (orc_sound (a1 _ (h66 100)) (orc_sound (a1 _ (h68 100)) (orc_sound (a2 _ (h67 100)) (orc_sound (a2 _ (h44 100)) (orc_sound (a1 _ (h14 100)) (orc_sound (a1 _ (h46 100)) (orc_sound (a2 _ (h16 100)) (orc_sound (a1 _ (h69 100)) (orc_sound (a1 _ (h70 100)) (orc_sound (a2 _ (h45 100)) (orc_sound (a1 _ (h15 100)) (orc_sound (a1 _ (h47 100)) (orc_sound (a2 _ (h17 100)) (orc_sound (a2 _ (h48 100)) (orc_sound (a2 _ (h18 100)) (orc_sound (a2 _ (h19 100)) (orc_sound (a2 _ (h20 100)) (orc_sound (a2 _ (h21 100)) (orc_sound (a2 _ (h22 100)) (orc_sound (a2 _ (h23 100)) (noC_sound Tryz.prog)))))))))))))))))))))) 100 9 40 (fun kk => by kernel_rfl)
/-! ### simulator/simulatorlaw51.DesignPoints -/
noncomputable def c4 : EC := (cFn Tryz.prog inl Tryz.f4).getD .stop
def O4  (L : Nat) : Oracle := (orc 9 (A1 (fun (x : Bool) => B x) cl59 (F_L51_small L)) (orc 11 (A0 (fun (x : Bool) => B x)  (F_L51_awake L)) (orc 16 (A2 (fun (x : ((List Int) × Int)) => .tup [.lst false (.t3 x.1), I x.2]) cl59 (cI .i64) (F_design_Point L)) (orc 17 (A2 (fun (x : ((List Int) × Int)) => .tup [.lst false (.t3 x.1), I x.2]) cl59 (cI .i64) (F_R51_Point L)) (orc 18 (A2 (fun (x : (Int × Int)) => .tup [I x.1, I x.2]) cl59 cl3 (F_design_Index L)) (orc 19 (A2 (fun (x : (Int × Int)) => .tup [I x.1, I x.2]) cl59 cl3 (F_R51_Index L)) (orc 20 (A2 (fun (x : ((List api_Setting) × Int)) => .tup [.lst false (.t76 x.1), I x.2]) cl59 cl3 (F_design_Settings L)) (orc 21 (A2 (fun (x : ((List api_Setting) × Int)) => .tup [.lst false (.t76 x.1), I x.2]) cl59 cl3 (F_R51_Settings L)) (orc 22 (A2 (fun (x : Bool) => B x) cl3 cl3 (F_R51_Same L)) (orc 23 (A2 (fun (x : Bool) => B x) cl76 cl76 (F_R16_SameSettings L)) noC))))))))))
theorem s4   (L : Nat) : SoundC Tryz.prog (O4 L) := (orc_sound (a1 _ (h9 L)) (orc_sound (a0 _ (h11 L)) (orc_sound (a2 _ (h16 L)) (orc_sound (a2 _ (h17 L)) (orc_sound (a2 _ (h18 L)) (orc_sound (a2 _ (h19 L)) (orc_sound (a2 _ (h20 L)) (orc_sound (a2 _ (h21 L)) (orc_sound (a2 _ (h22 L)) (orc_sound (a2 _ (h23 L)) (noC_sound Tryz.prog)))))))))))
def T_L51_DesignPoints {A : Type} (an : An A)  (L : Nat) (a0 : (List api_Factor)) (a1 : Int) (a2 : (List Int)) (out : Bool → A) : A :=
 (an.bd (F_L51_small L a0) fun r1 =>
 (an.jp (bif (!r1) then true
 else (decide ((a2.length : Int) > 100))) (fun j => (an.cn (!r1)
 (an.ap j true)
 (an.ap j (decide ((a2.length : Int) > 100))))) (fun b2 =>
 (an.cn b2
 (an.bd (F_L51_awake L) fun r3 =>
 (an.lf out r3))
 (an.bd (F_design_Point L a0 a1) fun r4 =>
 (an.bd (F_R51_Point L a0 a1) fun r5 =>
 (an.bd (F_design_Index L a0 a2) fun r6 =>
 (an.bd (F_R51_Index L a0 a2) fun r7 =>
 (an.bd (F_design_Settings L a0 a2) fun r8 =>
 (an.bd (F_R51_Settings L a0 a2) fun r9 =>
 (an.jb (bif (r4.2 == r5.2) then (Option.bind (F_R51_Same L r4.1 r5.1) fun r11 =>
 (some r11))
 else (some false)) (fun j => (an.cn (r4.2 == r5.2)
 (an.bd (F_R51_Same L r4.1 r5.1) fun r12 =>
 (an.lf j r12))
 (an.lf j false))) (fun b10 =>
 (an.jp (bif b10 then (r6.1 == r7.1)
 else false) (fun j => (an.cn b10
 (an.ap j (r6.1 == r7.1))
 (an.ap j false))) (fun b13 =>
 (an.jp (bif b13 then (r6.2 == r7.2)
 else false) (fun j => (an.cn b13
 (an.ap j (r6.2 == r7.2))
 (an.ap j false))) (fun b14 =>
 (an.jp (bif b14 then (r8.2 == r9.2)
 else false) (fun j => (an.cn b14
 (an.ap j (r8.2 == r9.2))
 (an.ap j false))) (fun b15 =>
 (an.jb (bif b15 then (Option.bind (F_R16_SameSettings L r8.1 r9.1) fun r17 =>
 (some r17))
 else (some false)) (fun j => (an.cn b15
 (an.bd (F_R16_SameSettings L r8.1 r9.1) fun r18 =>
 (an.lf j r18))
 (an.lf j false))) (fun b16 =>
 (an.jb (bif b16 then (Option.bind (F_L51_awake L) fun r20 =>
 (some r20))
 else (some false)) (fun j => (an.cn b16
 (an.bd (F_L51_awake L) fun r21 =>
 (an.lf j r21))
 (an.lf j false))) (fun b19 =>
 (an.lf out b19)))))))))))))))))))))))
def F_L51_DesignPoints  (L : Nat) (a0 : (List api_Factor)) (a1 : Int) (a2 : (List Int)) : Option Bool := T_L51_DesignPoints (anO _) L a0 a1 a2 some
theorem e4  (L : Nat) (a0 : (List api_Factor)) (a1 : Int) (a2 : (List Int)) (kk : PV → Prop) : EW (O4 L) L 9 (RS Tryz.f4) c4 [.lst false (.t59 a0), I a1, .lst false (.t3 a2)] kk = ob (F_L51_DesignPoints L a0 a1 a2) (fun (x : Bool) => kk (B x)) := by
  refine Eq.trans (b := T_L51_DesignPoints anP L a0 a1 a2 (fun (x : Bool) => kk (B x))) (by kernel_rfl) ?_
  generalize (fun (x : Bool) => kk (B x)) = Q
  unfold F_L51_DesignPoints T_L51_DesignPoints
  dsimp only [anP, anO]
  try simp only [y1, y2, y3, y4, y5 Q, y6, y7, y8 Q, y9, z1, z2, z3, z4]
theorem h4   (L : Nat) (a0 : (List api_Factor)) (a1 : Int) (a2 : (List Int)) (r : Bool) (h : F_L51_DesignPoints L a0 a1 a2 = some r) : Holds Tryz.prog 4 [.lst false (.t59 a0), I a1, .lst false (.t3 a2)] (B r) :=
  hE grwOK (s4  L) mixed Tryz.func4 (by kernel_rfl : cFn Tryz.prog inl Tryz.f4 = some c4) (er := fun (x : Bool) => B x) (by kernel_rfl) (e4 L a0 a1 a2) h
/-! ### simulator/design.Near -/
noncomputable def c24 : EC := (cFn Tryz.prog inl Tryz.f24).getD .stop
def O24  (L : Nat) : Oracle := (orc 48 (A2 (fun (x : Int) => I x) cl59 cl3 (F_design_point L)) noC)
theorem s24   (L : Nat) : SoundC Tryz.prog (O24 L) := (orc_sound (a2 _ (h48 L)) (noC_sound Tryz.prog))
def sh24_2 (a0 : (List api_Factor)) (a1 : (List Int)) (v1_7 : Int) (v2_4 : List (List Int)) (v2_12 : Int) : St := ({ fr := [(0, .lst false (.t59 a0)), (1, .lst false (.t3 a1)), (4, .lst true (.t35 [])), (5, I 0), (6, .any), (7, .lst true (.t35 v2_4)), (8, I v1_7), (9, I (a1.getD (Int.toNat v1_7) default)), (19, .lst false (.t3 a1)), (20, I (a1.length : Int)), (21, I v1_7), (30, .lst true (.t3 [(w64 ((a1.getD (Int.toNat v1_7) default) - 1)), (w64 ((a1.getD (Int.toNat v1_7) default) + 1))])), (31, I ([(w64 ((a1.getD (Int.toNat v1_7) default) - 1)), (w64 ((a1.getD (Int.toNat v1_7) default) + 1))].length : Int)), (32, I v2_12)], ob := [], base := 0 } : St)
def KK24_2 (a0 : (List api_Factor)) (a1 : (List Int)) (v1_7 : Int) (K : Ex → St → Prop) : Nat × (List (List Int) × Int) → Prop := fun o => seln o.1 [K (.exit 2) (sh24_2 a0 a1 v1_7 o.2.1 o.2.2)]
def lb_design_Near_2 {A : Type} (an : An A)  (L : Nat) (a0 : (List api_Factor)) (a1 : (List Int)) (v1_7 : Int) (rec : List (List Int) → Int → A) (out : Nat × (List (List Int) × Int) → A) (v2_4 : List (List Int)) (v2_12 : Int) : A :=
 (an.cn (decide (v2_12 < ([(w64 ((a1.getD (Int.toNat v1_7) default) - 1)), (w64 ((a1.getD (Int.toNat v1_7) default) + 1))].length : Int)))
 (an.gd ((0 : Int) ≤ v2_12)
 (an.gd (v2_12 < (([(w64 ((a1.getD (Int.toNat v1_7) default) - 1)), (w64 ((a1.getD (Int.toNat v1_7) default) + 1))].length : Nat) : Int))
 (an.jb (bif (decide (([(w64 ((a1.getD (Int.toNat v1_7) default) - 1)), (w64 ((a1.getD (Int.toNat v1_7) default) + 1))].getD (Int.toNat v2_12) default) ≥ 0)) then (if (0 : Int) ≤ v1_7 then
 (if v1_7 < ((a0.length : Nat) : Int) then
 (some (decide (([(w64 ((a1.getD (Int.toNat v1_7) default) - 1)), (w64 ((a1.getD (Int.toNat v1_7) default) + 1))].getD (Int.toNat v2_12) default) < (((a0.getD (Int.toNat v1_7) default).Levels).length : Int)))) else none) else none)
 else (some false)) (fun j => (an.cn (decide (([(w64 ((a1.getD (Int.toNat v1_7) default) - 1)), (w64 ((a1.getD (Int.toNat v1_7) default) + 1))].getD (Int.toNat v2_12) default) ≥ 0))
 (an.gd ((0 : Int) ≤ v1_7)
 (an.gd (v1_7 < ((a0.length : Nat) : Int))
 (an.lf j (decide (([(w64 ((a1.getD (Int.toNat v1_7) default) - 1)), (w64 ((a1.getD (Int.toNat v1_7) default) + 1))].getD (Int.toNat v2_12) default) < (((a0.getD (Int.toNat v1_7) default).Levels).length : Int))))))
 (an.lf j false))) (fun b2 =>
 (an.cn b2
 (an.gd (0 < a1.length)
 (an.cn (Nat.beq a1.length 0)
 (an.gd ((0 : Int) ≤ v1_7)
 (an.gd (v1_7 < ((0 : Nat) : Int))
 an.fl))
 (an.gd (a1.length * 8 ≤ 140737488355328)
 (an.gd (a1.length ≤ maxLen)
 (an.gd ((0 : Int) ≤ v1_7)
 (an.gd (v1_7 < ((a1.length : Nat) : Int))
 (an.gd ((v2_4.length + [(a1.set (Int.toNat v1_7) ([(w64 ((a1.getD (Int.toNat v1_7) default) - 1)), (w64 ((a1.getD (Int.toNat v1_7) default) + 1))].getD (Int.toNat v2_12) default))].length) * 24 ≤ 140737488355328)
 (an.gd (v2_4.length + [(a1.set (Int.toNat v1_7) ([(w64 ((a1.getD (Int.toNat v1_7) default) - 1)), (w64 ((a1.getD (Int.toNat v1_7) default) + 1))].getD (Int.toNat v2_12) default))].length ≤ maxLen)
 (rec (v2_4 ++ [(a1.set (Int.toNat v1_7) ([(w64 ((a1.getD (Int.toNat v1_7) default) - 1)), (w64 ((a1.getD (Int.toNat v1_7) default) + 1))].getD (Int.toNat v2_12) default))]) (w64 (v2_12 + 1)))))))))))
 (rec v2_4 (w64 (v2_12 + 1))))))))
 (an.lf out (0, (v2_4, v2_12))))
def lp_design_Near_2  (L : Nat) (a0 : (List api_Factor)) (a1 : (List Int)) (v1_7 : Int) : Nat → List (List Int) → Int → Option (Nat × (List (List Int) × Int))
  | 0, _, _ => none
  | n + 1, v2_4, v2_12 => lb_design_Near_2 (anO _)  L a0 a1 v1_7 (lp_design_Near_2  L a0 a1 v1_7 n) some v2_4 v2_12
theorem ln24_2  (L : Nat) (a0 : (List api_Factor)) (a1 : (List Int)) (v1_7 : Int) (g : List (List Int) → Int → Option (Nat × (List (List Int) × Int))) (Q : Nat × (List (List Int) × Int) → Prop) (v2_4 : List (List Int)) (v2_12 : Int) : lb_design_Near_2 anP  L a0 a1 v1_7 (fun v2_4 v2_12 => ob (g v2_4 v2_12) Q) Q v2_4 v2_12 = ob (lb_design_Near_2 (anO _)  L a0 a1 v1_7 g some v2_4 v2_12) Q := by
  unfold lb_design_Near_2
  dsimp only [anP, anO]
  try simp only [y1, y2, y3, y4, y5 Q, y6, y7, y8 Q, y9, z1, z2, z3, z4]
  try simp only [z5, z6, y1, y2, y3, y4, y5 Q, y6, y7, y8 Q, y9, z1, z2, z3, z4]
theorem le24_2  (L : Nat) (a0 : (List api_Factor)) (a1 : (List Int)) (v1_7 : Int) (n : Nat) (v2_4 : List (List Int)) (v2_12 : Int) (K : Ex → St → Prop) : loopN (EV (O24 L) L 9 c24.r.r.r.r.r.r.l.r.r.l.l.r.r.r.r.l.l.r.r.r.r.l.l) [0, 1, 4, 5, 6, 7, 8, 9, 19, 20, 21, 30, 31, 32] [] n (sh24_2 a0 a1 v1_7 v2_4 v2_12) K = ob (lp_design_Near_2  L a0 a1 v1_7 n v2_4 v2_12) (fun o => KK24_2 a0 a1 v1_7 K o) := by
  induction n generalizing v2_4 v2_12 with
  | zero => rfl
  | succ n ih =>
    refine Eq.trans (b := lb_design_Near_2 anP  L a0 a1 v1_7 (fun v2_4 v2_12 => loopN (EV (O24 L) L 9 c24.r.r.r.r.r.r.l.r.r.l.l.r.r.r.r.l.l.r.r.r.r.l.l) [0, 1, 4, 5, 6, 7, 8, 9, 19, 20, 21, 30, 31, 32] [] n (sh24_2 a0 a1 v1_7 v2_4 v2_12) K) (KK24_2 a0 a1 v1_7 K) v2_4 v2_12) (by kernel_rfl) ?_
    simp only [ih]
    exact ln24_2  L a0 a1 v1_7 (lp_design_Near_2  L a0 a1 v1_7 n) (KK24_2 a0 a1 v1_7 K) v2_4 v2_12
def sh24_1 (a0 : (List api_Factor)) (a1 : (List Int)) (v1_4 : List (List Int)) (v1_7 : Int) : St := ({ fr := [(0, .lst false (.t59 a0)), (1, .lst false (.t3 a1)), (4, .lst true (.t35 [])), (5, I 0), (6, .any), (7, .lst true (.t35 v1_4)), (19, .lst false (.t3 a1)), (20, I (a1.length : Int)), (21, I v1_7)], ob := [], base := 0 } : St)
def KK24_1 (a0 : (List api_Factor)) (a1 : (List Int)) (K : Ex → St → Prop) : Nat × (List (List Int) × Int) → Prop := fun o => seln o.1 [K (.exit 0) (sh24_1 a0 a1 o.2.1 o.2.2)]
def lb_design_Near_1 {A : Type} (an : An A)  (L : Nat) (a0 : (List api_Factor)) (a1 : (List Int)) (rec : List (List Int) → Int → A) (out : Nat × (List (List Int) × Int) → A) (v1_4 : List (List Int)) (v1_7 : Int) : A :=
 (an.cn (decide (v1_7 < (a1.length : Int)))
 (an.gd ((0 : Int) ≤ v1_7)
 (an.gd (v1_7 < ((a1.length : Nat) : Int))
 (an.bd (lp_design_Near_2 L a0 a1 v1_7 L v1_4 0) fun o2 =>
 (an.sl o2.1 [(rec o2.2.1 (w64 (v1_7 + 1)))]))))
 (an.lf out (0, (v1_4, v1_7))))
def lp_design_Near_1  (L : Nat) (a0 : (List api_Factor)) (a1 : (List Int)) : Nat → List (List Int) → Int → Option (Nat × (List (List Int) × Int))
  | 0, _, _ => none
  | n + 1, v1_4, v1_7 => lb_design_Near_1 (anO _)  L a0 a1 (lp_design_Near_1  L a0 a1 n) some v1_4 v1_7
theorem ln24_1  (L : Nat) (a0 : (List api_Factor)) (a1 : (List Int)) (g : List (List Int) → Int → Option (Nat × (List (List Int) × Int))) (Q : Nat × (List (List Int) × Int) → Prop) (v1_4 : List (List Int)) (v1_7 : Int) : lb_design_Near_1 anP  L a0 a1 (fun v1_4 v1_7 => ob (g v1_4 v1_7) Q) Q v1_4 v1_7 = ob (lb_design_Near_1 (anO _)  L a0 a1 g some v1_4 v1_7) Q := by
  unfold lb_design_Near_1
  dsimp only [anP, anO]
  try simp only [y1, y2, y3, y4, y5 Q, y6, y7, y8 Q, y9, z1, z2, z3, z4]
def kc24_1  (L : Nat)  (a0 : (List api_Factor)) (a1 : (List Int)) (n : Nat) (K : Ex → St → Prop) : Ex → St → Prop := (kBlock 2 (kBlock 1 (kSeq (EV (O24 L) L 9 c24.r.r.r.r.r.r.l.r.r.l.l.r.r.r.r.r) (kRound (loopN (EV (O24 L) L 9 c24.r.r.r.r.r.r.l.r.r.l.l) [0, 1, 4, 5, 6, 7, 19, 20, 21] [] n) [0, 1, 4, 5, 6, 7, 19, 20, 21] [] K))))
theorem q24_1  (L : Nat) (v1_7 : Int) (a0 : (List api_Factor)) (a1 : (List Int)) (n : Nat) (K : Ex → St → Prop) (o2 : Nat × (List (List Int) × Int)) : KK24_2 a0 a1 v1_7 (kc24_1 L a0 a1 n K) o2 =
 (seln o2.1 [(loopN (EV (O24 L) L 9 c24.r.r.r.r.r.r.l.r.r.l.l) [0, 1, 4, 5, 6, 7, 19, 20, 21] [] n (sh24_1 a0 a1 o2.2.1 (w64 (v1_7 + 1))) K)]) := by kernel_rfl
theorem le24_1  (L : Nat) (a0 : (List api_Factor)) (a1 : (List Int)) (n : Nat) (v1_4 : List (List Int)) (v1_7 : Int) (K : Ex → St → Prop) : loopN (EV (O24 L) L 9 c24.r.r.r.r.r.r.l.r.r.l.l) [0, 1, 4, 5, 6, 7, 19, 20, 21] [] n (sh24_1 a0 a1 v1_4 v1_7) K = ob (lp_design_Near_1  L a0 a1 n v1_4 v1_7) (fun o => KK24_1 a0 a1 K o) := by
  induction n generalizing v1_4 v1_7 with
  | zero => rfl
  | succ n ih =>
    refine Eq.trans (b := lb_design_Near_1 anP  L a0 a1 (fun v1_4 v1_7 => loopN (EV (O24 L) L 9 c24.r.r.r.r.r.r.l.r.r.l.l) [0, 1, 4, 5, 6, 7, 19, 20, 21] [] n (sh24_1 a0 a1 v1_4 v1_7) K) (KK24_1 a0 a1 K) v1_4 v1_7) ?_ ?_
    · refine Eq.trans (b := (br (decide (v1_7 < (a1.length : Int)))
 (gd ((0 : Int) ≤ v1_7)
 (gd (v1_7 < ((a1.length : Nat) : Int))
 (loopN (EV (O24 L) L 9 c24.r.r.r.r.r.r.l.r.r.l.l.r.r.r.r.l.l.r.r.r.r.l.l) [0, 1, 4, 5, 6, 7, 8, 9, 19, 20, 21, 30, 31, 32] [] L (sh24_2 a0 a1 v1_7 v1_4 0) (kc24_1 L a0 a1 n K))))
 (ob (some (0, (v1_4, v1_7))) (KK24_1 a0 a1 K)))) (by kernel_rfl) ?_
      unfold lb_design_Near_1
      dsimp only [anP]
      simp only [le24_2, q24_1]
    simp only [ih]
    exact ln24_1  L a0 a1 (lp_design_Near_1  L a0 a1 n) (KK24_1 a0 a1 K) v1_4 v1_7
def kc24_2  (L : Nat)  (kk : PV → Prop) : Ex → St → Prop := (kBlock 0 (kSeq (EV (O24 L) L 9 c24.r.r.r.r.r.r.r) (kEnd Tryz.prog (RS Tryz.f24) kk)))
theorem q24_2  (L : Nat) (a0 : (List api_Factor)) (a1 : (List Int)) (kk : PV → Prop) (o2 : Nat × (List (List Int) × Int)) : KK24_1 a0 a1 (kc24_2 L kk) o2 =
 (seln o2.1 [(ob (some (o2.2.1, 0)) (fun (x : ((List (List Int)) × Int)) => kk (.tup [.lst false (.t35 x.1), I x.2])))]) := by kernel_rfl
def T_design_Near {A : Type} (an : An A)  (L : Nat) (a0 : (List api_Factor)) (a1 : (List Int)) (out : ((List (List Int)) × Int) → A) : A :=
 (an.bd (F_design_point L a0 a1) fun r1 =>
 (an.cn (r1 != 0)
 (an.lf out ([], r1))
 (an.bd (lp_design_Near_1 L a0 a1 L [] 0) fun o2 =>
 (an.sl o2.1 [(an.lf out (o2.2.1, 0))]))))
def F_design_Near  (L : Nat) (a0 : (List api_Factor)) (a1 : (List Int)) : Option ((List (List Int)) × Int) := T_design_Near (anO _) L a0 a1 some
theorem e24  (L : Nat) (a0 : (List api_Factor)) (a1 : (List Int)) (kk : PV → Prop) : EW (O24 L) L 9 (RS Tryz.f24) c24 [.lst false (.t59 a0), .lst false (.t3 a1)] kk = ob (F_design_Near L a0 a1) (fun (x : ((List (List Int)) × Int)) => kk (.tup [.lst false (.t35 x.1), I x.2])) := by
  refine Eq.trans (b := T_design_Near anP L a0 a1 (fun (x : ((List (List Int)) × Int)) => kk (.tup [.lst false (.t35 x.1), I x.2]))) ?_ ?_
  · refine Eq.trans (b := (ob (F_design_point L a0 a1) fun r1 =>
 (br (r1 != 0)
 (ob (some ([], r1)) (fun (x : ((List (List Int)) × Int)) => kk (.tup [.lst false (.t35 x.1), I x.2])))
 (loopN (EV (O24 L) L 9 c24.r.r.r.r.r.r.l.r.r.l.l) [0, 1, 4, 5, 6, 7, 19, 20, 21] [] L (sh24_1 a0 a1 [] 0) (kc24_2 L kk))))) (by kernel_rfl) ?_
    unfold T_design_Near
    dsimp only [anP]
    simp only [le24_1, q24_2]
  generalize (fun (x : ((List (List Int)) × Int)) => kk (.tup [.lst false (.t35 x.1), I x.2])) = Q
  unfold F_design_Near T_design_Near
  dsimp only [anP, anO]
  try simp only [y1, y2, y3, y4, y5 Q, y6, y7, y8 Q, y9, z1, z2, z3, z4]
theorem h24   (L : Nat) (a0 : (List api_Factor)) (a1 : (List Int)) (r : ((List (List Int)) × Int)) (h : F_design_Near L a0 a1 = some r) : Holds Tryz.prog 24 [.lst false (.t59 a0), .lst false (.t3 a1)] (.tup [.lst false (.t35 r.1), I r.2]) :=
  hE grwOK (s24  L) mixed Tryz.func24 (by kernel_rfl : cFn Tryz.prog inl Tryz.f24 = some c24) (er := fun (x : ((List (List Int)) × Int)) => .tup [.lst false (.t35 x.1), I x.2]) (by kernel_rfl) (e24 L a0 a1) h
/-! ### simulator/simulatorref51.with -/
noncomputable def c50 : EC := (cFn Tryz.prog inl Tryz.f50).getD .stop
def O50  (L : Nat) : Oracle := noC
theorem s50   (L : Nat) : SoundC Tryz.prog (O50 L) := (noC_sound Tryz.prog)
def T_R51_with {A : Type} (an : An A)  (L : Nat) (a0 : (List Int)) (a1 : Int) (a2 : Int) (out : (List Int) → A) : A :=
 (an.cn (Nat.beq a0.length 0)
 (an.gd ((0 : Int) ≤ a1)
 (an.gd (a1 < ((0 : Nat) : Int))
 an.fl))
 (an.gd (a0.length * 8 ≤ 140737488355328)
 (an.gd (a0.length ≤ maxLen)
 (an.gd ((0 : Int) ≤ a1)
 (an.gd (a1 < ((a0.length : Nat) : Int))
 (an.lf out (a0.set (Int.toNat a1) a2)))))))
def F_R51_with  (L : Nat) (a0 : (List Int)) (a1 : Int) (a2 : Int) : Option (List Int) := T_R51_with (anO _) L a0 a1 a2 some
theorem e50  (L : Nat) (a0 : (List Int)) (a1 : Int) (a2 : Int) (kk : PV → Prop) : EW (O50 L) L 9 (RS Tryz.f50) c50 [.lst false (.t3 a0), I a1, I a2] kk = ob (F_R51_with L a0 a1 a2) (fun (x : (List Int)) => kk (.lst false (.t3 x))) := by
  refine Eq.trans (b := T_R51_with anP L a0 a1 a2 (fun (x : (List Int)) => kk (.lst false (.t3 x)))) (by kernel_rfl) ?_
  generalize (fun (x : (List Int)) => kk (.lst false (.t3 x))) = Q
  unfold F_R51_with T_R51_with
  dsimp only [anP, anO]
  try simp only [y1, y2, y3, y4, y5 Q, y6, y7, y8 Q, y9, z1, z2, z3, z4]
theorem h50   (L : Nat) (a0 : (List Int)) (a1 : Int) (a2 : Int) (r : (List Int)) (h : F_R51_with L a0 a1 a2 = some r) : Holds Tryz.prog 50 [.lst false (.t3 a0), I a1, I a2] (.lst false (.t3 r)) :=
  hE grwOK (s50  L) mixed Tryz.func50 (by kernel_rfl : cFn Tryz.prog inl Tryz.f50 = some c50) (er := fun (x : (List Int)) => .lst false (.t3 x)) (by kernel_rfl) (e50 L a0 a1 a2) h
/-! ### simulator/simulatorref51.Near -/
noncomputable def c25 : EC := (cFn Tryz.prog inl Tryz.f25).getD .stop
def O25  (L : Nat) : Oracle := (orc 19 (A2 (fun (x : (Int × Int)) => .tup [I x.1, I x.2]) cl59 cl3 (F_R51_Index L)) (orc 50 (A3 (fun (x : (List Int)) => .lst false (.t3 x)) cl3 (cI .i64) (cI .i64) (F_R51_with L)) noC))
theorem s25   (L : Nat) : SoundC Tryz.prog (O25 L) := (orc_sound (a2 _ (h19 L)) (orc_sound (a3 _ (h50 L)) (noC_sound Tryz.prog)))
def sh25_1 (a0 : (List api_Factor)) (a1 : (List Int)) (v1_4 : List (List Int)) (v1_5 : Int) : St := ({ fr := [(0, .lst false (.t59 a0)), (1, .lst false (.t3 a1)), (4, .lst true (.t35 [])), (5, I 0), (6, .any), (7, .any), (8, .lst true (.t35 v1_4)), (9, I v1_5)], ob := [], base := 0 } : St)
def KK25_1 (a0 : (List api_Factor)) (a1 : (List Int)) (K : Ex → St → Prop) : Nat × (List (List Int) × Int) → Prop := fun o => seln o.1 [K (.exit 0) (sh25_1 a0 a1 o.2.1 o.2.2)]
def lb_R51_Near_1 {A : Type} (an : An A)  (L : Nat) (a0 : (List api_Factor)) (a1 : (List Int)) (rec : List (List Int) → Int → A) (out : Nat × (List (List Int) × Int) → A) (v1_4 : List (List Int)) (v1_5 : Int) : A :=
 (an.cn (decide (v1_5 < (a0.length : Int)))
 (an.gd ((0 : Int) ≤ v1_5)
 (an.gd (v1_5 < ((a1.length : Nat) : Int))
 (an.cn (decide ((a1.getD (Int.toNat v1_5) default) > 0))
 (an.gd ((0 : Int) ≤ v1_5)
 (an.gd (v1_5 < ((a1.length : Nat) : Int))
 (an.bd (F_R51_with L a1 v1_5 (w64 ((a1.getD (Int.toNat v1_5) default) - 1))) fun r2 =>
 (an.gd ((v1_4.length + [r2].length) * 24 ≤ 140737488355328)
 (an.gd (v1_4.length + [r2].length ≤ maxLen)
 (an.gd ((0 : Int) ≤ v1_5)
 (an.gd (v1_5 < ((a1.length : Nat) : Int))
 (an.gd ((0 : Int) ≤ v1_5)
 (an.gd (v1_5 < ((a0.length : Nat) : Int))
 (an.cn (decide ((a1.getD (Int.toNat v1_5) default) < (w64 ((((a0.getD (Int.toNat v1_5) default).Levels).length : Int) - 1))))
 (an.gd ((0 : Int) ≤ v1_5)
 (an.gd (v1_5 < ((a1.length : Nat) : Int))
 (an.bd (F_R51_with L a1 v1_5 (w64 ((a1.getD (Int.toNat v1_5) default) + 1))) fun r3 =>
 (an.gd (((v1_4 ++ [r2]).length + [r3].length) * 24 ≤ 140737488355328)
 (an.gd ((v1_4 ++ [r2]).length + [r3].length ≤ maxLen)
 (rec ((v1_4 ++ [r2]) ++ [r3]) (w64 (v1_5 + 1))))))))
 (rec (v1_4 ++ [r2]) (w64 (v1_5 + 1)))))))))))))
 (an.gd ((0 : Int) ≤ v1_5)
 (an.gd (v1_5 < ((a1.length : Nat) : Int))
 (an.gd ((0 : Int) ≤ v1_5)
 (an.gd (v1_5 < ((a0.length : Nat) : Int))
 (an.cn (decide ((a1.getD (Int.toNat v1_5) default) < (w64 ((((a0.getD (Int.toNat v1_5) default).Levels).length : Int) - 1))))
 (an.gd ((0 : Int) ≤ v1_5)
 (an.gd (v1_5 < ((a1.length : Nat) : Int))
 (an.bd (F_R51_with L a1 v1_5 (w64 ((a1.getD (Int.toNat v1_5) default) + 1))) fun r4 =>
 (an.gd ((v1_4.length + [r4].length) * 24 ≤ 140737488355328)
 (an.gd (v1_4.length + [r4].length ≤ maxLen)
 (rec (v1_4 ++ [r4]) (w64 (v1_5 + 1))))))))
 (rec v1_4 (w64 (v1_5 + 1)))))))))))
 (an.lf out (0, (v1_4, v1_5))))
def lp_R51_Near_1  (L : Nat) (a0 : (List api_Factor)) (a1 : (List Int)) : Nat → List (List Int) → Int → Option (Nat × (List (List Int) × Int))
  | 0, _, _ => none
  | n + 1, v1_4, v1_5 => lb_R51_Near_1 (anO _)  L a0 a1 (lp_R51_Near_1  L a0 a1 n) some v1_4 v1_5
theorem ln25_1  (L : Nat) (a0 : (List api_Factor)) (a1 : (List Int)) (g : List (List Int) → Int → Option (Nat × (List (List Int) × Int))) (Q : Nat × (List (List Int) × Int) → Prop) (v1_4 : List (List Int)) (v1_5 : Int) : lb_R51_Near_1 anP  L a0 a1 (fun v1_4 v1_5 => ob (g v1_4 v1_5) Q) Q v1_4 v1_5 = ob (lb_R51_Near_1 (anO _)  L a0 a1 g some v1_4 v1_5) Q := by
  unfold lb_R51_Near_1
  dsimp only [anP, anO]
  try simp only [y1, y2, y3, y4, y5 Q, y6, y7, y8 Q, y9, z1, z2, z3, z4]
theorem le25_1  (L : Nat) (a0 : (List api_Factor)) (a1 : (List Int)) (n : Nat) (v1_4 : List (List Int)) (v1_5 : Int) (K : Ex → St → Prop) : loopN (EV (O25 L) L 9 c25.r.r.r.r.r.r.r.r.l.r.r.l.l) [0, 1, 4, 5, 6, 7, 8, 9] [] n (sh25_1 a0 a1 v1_4 v1_5) K = ob (lp_R51_Near_1  L a0 a1 n v1_4 v1_5) (fun o => KK25_1 a0 a1 K o) := by
  induction n generalizing v1_4 v1_5 with
  | zero => rfl
  | succ n ih =>
    refine Eq.trans (b := lb_R51_Near_1 anP  L a0 a1 (fun v1_4 v1_5 => loopN (EV (O25 L) L 9 c25.r.r.r.r.r.r.r.r.l.r.r.l.l) [0, 1, 4, 5, 6, 7, 8, 9] [] n (sh25_1 a0 a1 v1_4 v1_5) K) (KK25_1 a0 a1 K) v1_4 v1_5) (by kernel_rfl) ?_
    simp only [ih]
    exact ln25_1  L a0 a1 (lp_R51_Near_1  L a0 a1 n) (KK25_1 a0 a1 K) v1_4 v1_5
def kc25_1  (L : Nat)  (kk : PV → Prop) : Ex → St → Prop := (kBlock 0 (kSeq (EV (O25 L) L 9 c25.r.r.r.r.r.r.r.r.r) (kEnd Tryz.prog (RS Tryz.f25) kk)))
theorem q25_1  (L : Nat) (a0 : (List api_Factor)) (a1 : (List Int)) (kk : PV → Prop) (o2 : Nat × (List (List Int) × Int)) : KK25_1 a0 a1 (kc25_1 L kk) o2 =
 (seln o2.1 [(ob (some (o2.2.1, 0)) (fun (x : ((List (List Int)) × Int)) => kk (.tup [.lst false (.t35 x.1), I x.2])))]) := by kernel_rfl
def T_R51_Near {A : Type} (an : An A)  (L : Nat) (a0 : (List api_Factor)) (a1 : (List Int)) (out : ((List (List Int)) × Int) → A) : A :=
 (an.bd (F_R51_Index L a0 a1) fun r1 =>
 (an.cn (r1.2 != 0)
 (an.lf out ([], r1.2))
 (an.bd (lp_R51_Near_1 L a0 a1 L [] 0) fun o2 =>
 (an.sl o2.1 [(an.lf out (o2.2.1, 0))]))))
def F_R51_Near  (L : Nat) (a0 : (List api_Factor)) (a1 : (List Int)) : Option ((List (List Int)) × Int) := T_R51_Near (anO _) L a0 a1 some
theorem e25  (L : Nat) (a0 : (List api_Factor)) (a1 : (List Int)) (kk : PV → Prop) : EW (O25 L) L 9 (RS Tryz.f25) c25 [.lst false (.t59 a0), .lst false (.t3 a1)] kk = ob (F_R51_Near L a0 a1) (fun (x : ((List (List Int)) × Int)) => kk (.tup [.lst false (.t35 x.1), I x.2])) := by
  refine Eq.trans (b := T_R51_Near anP L a0 a1 (fun (x : ((List (List Int)) × Int)) => kk (.tup [.lst false (.t35 x.1), I x.2]))) ?_ ?_
  · refine Eq.trans (b := (ob (F_R51_Index L a0 a1) fun r1 =>
 (br (r1.2 != 0)
 (ob (some ([], r1.2)) (fun (x : ((List (List Int)) × Int)) => kk (.tup [.lst false (.t35 x.1), I x.2])))
 (loopN (EV (O25 L) L 9 c25.r.r.r.r.r.r.r.r.l.r.r.l.l) [0, 1, 4, 5, 6, 7, 8, 9] [] L (sh25_1 a0 a1 [] 0) (kc25_1 L kk))))) (by kernel_rfl) ?_
    unfold T_R51_Near
    dsimp only [anP]
    simp only [le25_1, q25_1]
  generalize (fun (x : ((List (List Int)) × Int)) => kk (.tup [.lst false (.t35 x.1), I x.2])) = Q
  unfold F_R51_Near T_R51_Near
  dsimp only [anP, anO]
  try simp only [y1, y2, y3, y4, y5 Q, y6, y7, y8 Q, y9, z1, z2, z3, z4]
theorem h25   (L : Nat) (a0 : (List api_Factor)) (a1 : (List Int)) (r : ((List (List Int)) × Int)) (h : F_R51_Near L a0 a1 = some r) : Holds Tryz.prog 25 [.lst false (.t59 a0), .lst false (.t3 a1)] (.tup [.lst false (.t35 r.1), I r.2]) :=
  hE grwOK (s25  L) mixed Tryz.func25 (by kernel_rfl : cFn Tryz.prog inl Tryz.f25 = some c25) (er := fun (x : ((List (List Int)) × Int)) => .tup [.lst false (.t35 x.1), I x.2]) (by kernel_rfl) (e25 L a0 a1) h
/-! ### simulator/simulatorref51.SamePoints -/
noncomputable def c26 : EC := (cFn Tryz.prog inl Tryz.f26).getD .stop
def O26  (L : Nat) : Oracle := (orc 22 (A2 (fun (x : Bool) => B x) cl3 cl3 (F_R51_Same L)) noC)
theorem s26   (L : Nat) : SoundC Tryz.prog (O26 L) := (orc_sound (a2 _ (h22 L)) (noC_sound Tryz.prog))
def sh26_1 (a0 : (List (List Int))) (a1 : (List (List Int))) (v1_2 : Bool) (v1_3 : Int) : St := ({ fr := [(0, .lst false (.t35 a0)), (1, .lst false (.t35 a1)), (4, B v1_2), (5, I v1_3)], ob := [], base := 0 } : St)
def KK26_1 (a0 : (List (List Int))) (a1 : (List (List Int))) (K : Ex → St → Prop) : Nat × (Bool × Int) → Prop := fun o => seln o.1 [K .ret (sh26_1 a0 a1 o.2.1 o.2.2), K (.exit 0) (sh26_1 a0 a1 o.2.1 o.2.2)]
def lb_R51_SamePoints_1 {A : Type} (an : An A)  (L : Nat) (a0 : (List (List Int))) (a1 : (List (List Int))) (rec : Bool → Int → A) (out : Nat × (Bool × Int) → A) (v1_2 : Bool) (v1_3 : Int) : A :=
 (an.cn (decide (v1_3 < (a0.length : Int)))
 (an.gd ((0 : Int) ≤ v1_3)
 (an.gd (v1_3 < ((a0.length : Nat) : Int))
 (an.gd ((0 : Int) ≤ v1_3)
 (an.gd (v1_3 < ((a1.length : Nat) : Int))
 (an.bd (F_R51_Same L (a0.getD (Int.toNat v1_3) default) (a1.getD (Int.toNat v1_3) default)) fun r1 =>
 (an.cn (!r1)
 (an.lf out (0, (false, v1_3)))
 (rec v1_2 (w64 (v1_3 + 1)))))))))
 (an.lf out (1, (v1_2, v1_3))))
def lp_R51_SamePoints_1  (L : Nat) (a0 : (List (List Int))) (a1 : (List (List Int))) : Nat → Bool → Int → Option (Nat × (Bool × Int))
  | 0, _, _ => none
  | n + 1, v1_2, v1_3 => lb_R51_SamePoints_1 (anO _)  L a0 a1 (lp_R51_SamePoints_1  L a0 a1 n) some v1_2 v1_3
theorem ln26_1  (L : Nat) (a0 : (List (List Int))) (a1 : (List (List Int))) (g : Bool → Int → Option (Nat × (Bool × Int))) (Q : Nat × (Bool × Int) → Prop) (v1_2 : Bool) (v1_3 : Int) : lb_R51_SamePoints_1 anP  L a0 a1 (fun v1_2 v1_3 => ob (g v1_2 v1_3) Q) Q v1_2 v1_3 = ob (lb_R51_SamePoints_1 (anO _)  L a0 a1 g some v1_2 v1_3) Q := by
  unfold lb_R51_SamePoints_1
  dsimp only [anP, anO]
  try simp only [y1, y2, y3, y4, y5 Q, y6, y7, y8 Q, y9, z1, z2, z3, z4]
theorem le26_1  (L : Nat) (a0 : (List (List Int))) (a1 : (List (List Int))) (n : Nat) (v1_2 : Bool) (v1_3 : Int) (K : Ex → St → Prop) : loopN (EV (O26 L) L 9 c26.r.r.r.r.l.r.r.l.l) [0, 1, 4, 5] [] n (sh26_1 a0 a1 v1_2 v1_3) K = ob (lp_R51_SamePoints_1  L a0 a1 n v1_2 v1_3) (fun o => KK26_1 a0 a1 K o) := by
  induction n generalizing v1_2 v1_3 with
  | zero => rfl
  | succ n ih =>
    refine Eq.trans (b := lb_R51_SamePoints_1 anP  L a0 a1 (fun v1_2 v1_3 => loopN (EV (O26 L) L 9 c26.r.r.r.r.l.r.r.l.l) [0, 1, 4, 5] [] n (sh26_1 a0 a1 v1_2 v1_3) K) (KK26_1 a0 a1 K) v1_2 v1_3) (by kernel_rfl) ?_
    simp only [ih]
    exact ln26_1  L a0 a1 (lp_R51_SamePoints_1  L a0 a1 n) (KK26_1 a0 a1 K) v1_2 v1_3
def kc26_1  (L : Nat)  (kk : PV → Prop) : Ex → St → Prop := (kBlock 0 (kSeq (EV (O26 L) L 9 c26.r.r.r.r.r) (kEnd Tryz.prog (RS Tryz.f26) kk)))
theorem q26_1  (L : Nat) (a0 : (List (List Int))) (a1 : (List (List Int))) (kk : PV → Prop) (o1 : Nat × (Bool × Int)) : KK26_1 a0 a1 (kc26_1 L kk) o1 =
 (seln o1.1 [(ob (some o1.2.1) (fun (x : Bool) => kk (B x))),
 (ob (some true) (fun (x : Bool) => kk (B x)))]) := by kernel_rfl
def T_R51_SamePoints {A : Type} (an : An A)  (L : Nat) (a0 : (List (List Int))) (a1 : (List (List Int))) (out : Bool → A) : A :=
 (an.cn ((a0.length : Int) != (a1.length : Int))
 (an.lf out false)
 (an.bd (lp_R51_SamePoints_1 L a0 a1 L false 0) fun o1 =>
 (an.sl o1.1 [(an.lf out o1.2.1),
 (an.lf out true)])))
def F_R51_SamePoints  (L : Nat) (a0 : (List (List Int))) (a1 : (List (List Int))) : Option Bool := T_R51_SamePoints (anO _) L a0 a1 some
theorem e26  (L : Nat) (a0 : (List (List Int))) (a1 : (List (List Int))) (kk : PV → Prop) : EW (O26 L) L 9 (RS Tryz.f26) c26 [.lst false (.t35 a0), .lst false (.t35 a1)] kk = ob (F_R51_SamePoints L a0 a1) (fun (x : Bool) => kk (B x)) := by
  refine Eq.trans (b := T_R51_SamePoints anP L a0 a1 (fun (x : Bool) => kk (B x))) ?_ ?_
  · refine Eq.trans (b := (br ((a0.length : Int) != (a1.length : Int))
 (ob (some false) (fun (x : Bool) => kk (B x)))
 (loopN (EV (O26 L) L 9 c26.r.r.r.r.l.r.r.l.l) [0, 1, 4, 5] [] L (sh26_1 a0 a1 false 0) (kc26_1 L kk)))) (by kernel_rfl) ?_
    unfold T_R51_SamePoints
    dsimp only [anP]
    simp only [le26_1, q26_1]
  generalize (fun (x : Bool) => kk (B x)) = Q
  unfold F_R51_SamePoints T_R51_SamePoints
  dsimp only [anP, anO]
  try simp only [y1, y2, y3, y4, y5 Q, y6, y7, y8 Q, y9, z1, z2, z3, z4]
theorem h26   (L : Nat) (a0 : (List (List Int))) (a1 : (List (List Int))) (r : Bool) (h : F_R51_SamePoints L a0 a1 = some r) : Holds Tryz.prog 26 [.lst false (.t35 a0), .lst false (.t35 a1)] (B r) :=
  hE grwOK (s26  L) mixed Tryz.func26 (by kernel_rfl : cFn Tryz.prog inl Tryz.f26 = some c26) (er := fun (x : Bool) => B x) (by kernel_rfl) (e26 L a0 a1) h
end Go.Proofs.YtaaiehkfndibkaaGreat.Ev
