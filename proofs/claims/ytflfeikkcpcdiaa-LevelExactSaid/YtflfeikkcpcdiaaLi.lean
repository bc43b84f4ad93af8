import Derived.Test.YtflfeikkcpcdiaaLe
namespace Go.Proofs.Ytflfeikkcpcdiaa.Ev
open Go
set_option maxRecDepth 100000
set_option linter.unusedVariables false
set_option linter.unusedSimpArgs false
set_option linter.unnecessarySimpa false
structure T56 where
  Hi : Int
  Lo : Int
  deriving Inhabited
def encT56 (x : T56) : List PV := [V .u64 x.Hi, V .u64 x.Lo]
structure T58 where
  Minus : Bool
  Abs : T56
  deriving Inhabited
def encT58 (x : T58) : List PV := [B x.Minus, V .u64 x.Abs.Hi, V .u64 x.Abs.Lo]
/-! ### simulator/simulatorref02.Size -/
noncomputable def c33 : EC := (cFn Try.prog Try.f33).getD .skip
def O33 : Oracle := noC
theorem s33 : SoundC Try.prog O33 := (noC_sound Try.prog)
def T33t (a0 : Int) (k : Int → Prop) : Prop :=
 (br (decide (a0 < 0))
 (k ((IntKind.wrap .u64 ((IntKind.wrap .u64 ((w64 (0 - (w64 (a0 + 1)))))) + 1))))
 (k ((IntKind.wrap .u64 (a0)))))
theorem tree33 (L : Nat) (a0 : Int) (kk : PV → Prop) : evFn Try.prog O33 L Try.f33.results.toList c33 [I a0] kk = T33t a0 (fun x => kk (V .u64 x)) := by
  kernel_rfl
def F33 (a0 : Int) : Int :=
 (bif decide (a0 < 0) then (IntKind.wrap .u64 ((IntKind.wrap .u64 ((w64 (0 - (w64 (a0 + 1)))))) + 1))
 else (IntKind.wrap .u64 (a0)))
theorem T33e (a0 : Int) (k : Int → Prop) : T33t a0 k = k (F33 a0) := by
  unfold T33t F33
  simp only [br_k k]
theorem h33 (a0 : Int) : Holds Try.prog 33 [I a0] (V .u64 (F33 a0)) := by
  refine holds_of_ev s33 mixed 0 Try.func33 (by kernel_rfl : cFn Try.prog Try.f33 = some c33) _ _ (by kernel_rfl) ?_
  rw [tree33, T33e]

/-! ### simulator/simulatorref02.Plus -/
noncomputable def c36 : EC := (cFn Try.prog Try.f36).getD .skip
def O36 : Oracle := noC
theorem s36 : SoundC Try.prog O36 := (noC_sound Try.prog)
def T36t (a0 : T56) (a1 : T56) (k : T56 → Prop) : Prop :=
 (br (decide ((IntKind.wrap .u64 (a0.Lo + a1.Lo)) < a0.Lo))
 (k ((⟨(IntKind.wrap .u64 ((IntKind.wrap .u64 (a0.Hi + a1.Hi)) + 1)), (IntKind.wrap .u64 (a0.Lo + a1.Lo))⟩ : T56)))
 (k ((⟨(IntKind.wrap .u64 (a0.Hi + a1.Hi)), (IntKind.wrap .u64 (a0.Lo + a1.Lo))⟩ : T56))))
theorem tree36 (L : Nat) (a0 : T56) (a1 : T56) (kk : PV → Prop) : evFn Try.prog O36 L Try.f36.results.toList c36 [.agg [V .u64 a0.Hi, V .u64 a0.Lo], .agg [V .u64 a1.Hi, V .u64 a1.Lo]] kk = T36t a0 a1 (fun x => kk (.agg [V .u64 x.Hi, V .u64 x.Lo])) := by
  kernel_rfl
def F36 (a0 : T56) (a1 : T56) : T56 :=
 (bif decide ((IntKind.wrap .u64 (a0.Lo + a1.Lo)) < a0.Lo) then (⟨(IntKind.wrap .u64 ((IntKind.wrap .u64 (a0.Hi + a1.Hi)) + 1)), (IntKind.wrap .u64 (a0.Lo + a1.Lo))⟩ : T56)
 else (⟨(IntKind.wrap .u64 (a0.Hi + a1.Hi)), (IntKind.wrap .u64 (a0.Lo + a1.Lo))⟩ : T56))
theorem T36e (a0 : T56) (a1 : T56) (k : T56 → Prop) : T36t a0 a1 k = k (F36 a0 a1) := by
  unfold T36t F36
  simp only [br_k k]
theorem h36 (a0 : T56) (a1 : T56) : Holds Try.prog 36 [.agg [V .u64 a0.Hi, V .u64 a0.Lo], .agg [V .u64 a1.Hi, V .u64 a1.Lo]] (.agg [V .u64 (F36 a0 a1).Hi, V .u64 (F36 a0 a1).Lo]) := by
  refine holds_of_ev s36 mixed 0 Try.func36 (by kernel_rfl : cFn Try.prog Try.f36 = some c36) _ _ (by kernel_rfl) ?_
  rw [tree36, T36e]

/-! ### simulator/simulatorref02.Less -/
noncomputable def c38 : EC := (cFn Try.prog Try.f38).getD .skip
def O38 : Oracle := noC
theorem s38 : SoundC Try.prog O38 := (noC_sound Try.prog)
def T38t (a0 : T56) (a1 : T56) (k : Bool → Prop) : Prop :=
 (br (decide (a0.Hi < a1.Hi))
 (k (true))
 (br ((a0.Hi == a1.Hi))
 (k (decide (a0.Lo < a1.Lo)))
 (k (false))))
theorem tree38 (L : Nat) (a0 : T56) (a1 : T56) (kk : PV → Prop) : evFn Try.prog O38 L Try.f38.results.toList c38 [.agg [V .u64 a0.Hi, V .u64 a0.Lo], .agg [V .u64 a1.Hi, V .u64 a1.Lo]] kk = T38t a0 a1 (fun x => kk (B x)) := by
  kernel_rfl
def F38 (a0 : T56) (a1 : T56) : Bool :=
 (bif decide (a0.Hi < a1.Hi) then true
 else (bif (a0.Hi == a1.Hi) then decide (a0.Lo < a1.Lo)
 else false))
theorem T38e (a0 : T56) (a1 : T56) (k : Bool → Prop) : T38t a0 a1 k = k (F38 a0 a1) := by
  unfold T38t F38
  simp only [br_k k]
theorem h38 (a0 : T56) (a1 : T56) : Holds Try.prog 38 [.agg [V .u64 a0.Hi, V .u64 a0.Lo], .agg [V .u64 a1.Hi, V .u64 a1.Lo]] (B (F38 a0 a1)) := by
  refine holds_of_ev s38 mixed 0 Try.func38 (by kernel_rfl : cFn Try.prog Try.f38 = some c38) _ _ (by kernel_rfl) ?_
  rw [tree38, T38e]

/-! ### simulator/simulatorref02.Minus -/
noncomputable def c39 : EC := (cFn Try.prog Try.f39).getD .skip
def O39 : Oracle := noC
theorem s39 : SoundC Try.prog O39 := (noC_sound Try.prog)
def T39t (a0 : T56) (a1 : T56) (k : T56 → Prop) : Prop :=
 (br (decide (a0.Lo < a1.Lo))
 (k ((⟨(IntKind.wrap .u64 ((IntKind.wrap .u64 (a0.Hi - a1.Hi)) - 1)), (IntKind.wrap .u64 (a0.Lo - a1.Lo))⟩ : T56)))
 (k ((⟨(IntKind.wrap .u64 (a0.Hi - a1.Hi)), (IntKind.wrap .u64 (a0.Lo - a1.Lo))⟩ : T56))))
theorem tree39 (L : Nat) (a0 : T56) (a1 : T56) (kk : PV → Prop) : evFn Try.prog O39 L Try.f39.results.toList c39 [.agg [V .u64 a0.Hi, V .u64 a0.Lo], .agg [V .u64 a1.Hi, V .u64 a1.Lo]] kk = T39t a0 a1 (fun x => kk (.agg [V .u64 x.Hi, V .u64 x.Lo])) := by
  kernel_rfl
def F39 (a0 : T56) (a1 : T56) : T56 :=
 (bif decide (a0.Lo < a1.Lo) then (⟨(IntKind.wrap .u64 ((IntKind.wrap .u64 (a0.Hi - a1.Hi)) - 1)), (IntKind.wrap .u64 (a0.Lo - a1.Lo))⟩ : T56)
 else (⟨(IntKind.wrap .u64 (a0.Hi - a1.Hi)), (IntKind.wrap .u64 (a0.Lo - a1.Lo))⟩ : T56))
theorem T39e (a0 : T56) (a1 : T56) (k : T56 → Prop) : T39t a0 a1 k = k (F39 a0 a1) := by
  unfold T39t F39
  simp only [br_k k]
theorem h39 (a0 : T56) (a1 : T56) : Holds Try.prog 39 [.agg [V .u64 a0.Hi, V .u64 a0.Lo], .agg [V .u64 a1.Hi, V .u64 a1.Lo]] (.agg [V .u64 (F39 a0 a1).Hi, V .u64 (F39 a0 a1).Lo]) := by
  refine holds_of_ev s39 mixed 0 Try.func39 (by kernel_rfl : cFn Try.prog Try.f39 = some c39) _ _ (by kernel_rfl) ?_
  rw [tree39, T39e]

/-! ### simulator/simulatorref02.bit -/
noncomputable def c37 : EC := (cFn Try.prog Try.f37).getD .skip
def O37 : Oracle := noC
theorem s37 : SoundC Try.prog O37 := (noC_sound Try.prog)
def T37t (a0 : T56) (a1 : Int) (k : Int → Prop) : Prop :=
 (br (decide (a1 ≥ 64))
 (br (!decide ((IntKind.wrap .u64 ((w64 (a1 - 64)))) < 0))
 (k ((Int.tmod (Int.fdiv a0.Hi (2 ^ (min (Int.toNat (IntKind.wrap .u64 ((w64 (a1 - 64))))) 64))) 2)))
 False)
 (br (!decide ((IntKind.wrap .u64 (a1)) < 0))
 (k ((Int.tmod (Int.fdiv a0.Lo (2 ^ (min (Int.toNat (IntKind.wrap .u64 (a1))) 64))) 2)))
 False))
theorem tree37 (L : Nat) (a0 : T56) (a1 : Int) (kk : PV → Prop) : evFn Try.prog O37 L Try.f37.results.toList c37 [.agg [V .u64 a0.Hi, V .u64 a0.Lo], I a1] kk = T37t a0 a1 (fun x => kk (V .u64 x)) := by
  kernel_rfl
def F37 (a0 : T56) (a1 : Int) : Option Int :=
 (bif decide (a1 ≥ 64) then (bif !decide ((IntKind.wrap .u64 ((w64 (a1 - 64)))) < 0) then some ((Int.tmod (Int.fdiv a0.Hi (2 ^ (min (Int.toNat (IntKind.wrap .u64 ((w64 (a1 - 64))))) 64))) 2))
 else none)
 else (bif !decide ((IntKind.wrap .u64 (a1)) < 0) then some ((Int.tmod (Int.fdiv a0.Lo (2 ^ (min (Int.toNat (IntKind.wrap .u64 (a1))) 64))) 2))
 else none))
theorem T37e (a0 : T56) (a1 : Int) (k : Int → Prop) : T37t a0 a1 k = ob (F37 a0 a1) k := by
  unfold T37t F37
  simp only [leaf_ob k, false_ob k, br_ob k, ob_ob k, and_ob k]
theorem h37 (a0 : T56) (a1 : Int) (r : Int) (h : F37 a0 a1 = some r) : Holds Try.prog 37 [.agg [V .u64 a0.Hi, V .u64 a0.Lo], I a1] (V .u64 r) := by
  refine holds_of_ev s37 mixed 0 Try.func37 (by kernel_rfl : cFn Try.prog Try.f37 = some c37) _ _ (by kernel_rfl) ?_
  rw [tree37, T37e]
  exact ob_some h rfl

/-! ### simulator/simulatorref02.Divide -/
noncomputable def c35 : EC := (cFn Try.prog Try.f35).getD .skip
def A36 : List PV → (PV → Prop) → Prop := fun args k => match args with
  | [.agg [.val (.int .u64 x1), .val (.int .u64 x2)], .agg [.val (.int .u64 x3), .val (.int .u64 x4)]] => k (.agg [V .u64 (F36 (⟨x1, x2⟩ : T56) (⟨x3, x4⟩ : T56)).Hi, V .u64 (F36 (⟨x1, x2⟩ : T56) (⟨x3, x4⟩ : T56)).Lo])
  | _ => False
theorem a36 (args : List PV) (k : PV → Prop) (h : A36 args k) : ∃ r, Holds Try.prog 36 args r ∧ k r := by
  unfold A36 at h
  split at h
  · exact ⟨_, h36 (T56.mk _ _) (T56.mk _ _), h⟩
  · exact h.elim
def A37 : List PV → (PV → Prop) → Prop := fun args k => match args with
  | [.agg [.val (.int .u64 x1), .val (.int .u64 x2)], .val (.int .i64 x3)] => ob (F37 (⟨x1, x2⟩ : T56) x3) fun r => k (V .u64 r)
  | _ => False
theorem a37 (args : List PV) (k : PV → Prop) (h : A37 args k) : ∃ r, Holds Try.prog 37 args r ∧ k r := by
  unfold A37 at h
  split at h
  · obtain ⟨r, h1, h2⟩ := ob_elim h
    exact ⟨_, h37 (T56.mk _ _) _ _ h1, h2⟩
  · exact h.elim
def A38 : List PV → (PV → Prop) → Prop := fun args k => match args with
  | [.agg [.val (.int .u64 x1), .val (.int .u64 x2)], .agg [.val (.int .u64 x3), .val (.int .u64 x4)]] => k (B (F38 (⟨x1, x2⟩ : T56) (⟨x3, x4⟩ : T56)))
  | _ => False
theorem a38 (args : List PV) (k : PV → Prop) (h : A38 args k) : ∃ r, Holds Try.prog 38 args r ∧ k r := by
  unfold A38 at h
  split at h
  · exact ⟨_, h38 (T56.mk _ _) (T56.mk _ _), h⟩
  · exact h.elim
def A39 : List PV → (PV → Prop) → Prop := fun args k => match args with
  | [.agg [.val (.int .u64 x1), .val (.int .u64 x2)], .agg [.val (.int .u64 x3), .val (.int .u64 x4)]] => k (.agg [V .u64 (F39 (⟨x1, x2⟩ : T56) (⟨x3, x4⟩ : T56)).Hi, V .u64 (F39 (⟨x1, x2⟩ : T56) (⟨x3, x4⟩ : T56)).Lo])
  | _ => False
theorem a39 (args : List PV) (k : PV → Prop) (h : A39 args k) : ∃ r, Holds Try.prog 39 args r ∧ k r := by
  unfold A39 at h
  split at h
  · exact ⟨_, h39 (T56.mk _ _) (T56.mk _ _), h⟩
  · exact h.elim
def O35 : Oracle := (orc 36 A36 (orc 37 A37 (orc 38 A38 (orc 39 A39 noC))))
theorem s35 : SoundC Try.prog O35 := (orc_sound a36 (orc_sound a37 (orc_sound a38 (orc_sound a39 (noC_sound Try.prog)))))
def sh35_1 (v1_0 : Int) (v1_1 : Int) (v1_2 : Int) (v1_3 : Int) (v1_5 : Int) (v1_6 : Int) (v1_7 : Int) (v1_8 : Int) (v1_9 : Int) (v1_10 : Int) (v1_11 : Int) (v1_12 : Int) (v1_4 : Int) (v1_13 : Int) (v1_14 : Int) (v1_15 : Int) (v1_16 : Int) : St := ({ fr := [(0, .agg [V .u64 v1_0, V .u64 v1_1]), (1, .agg [V .u64 v1_2, V .u64 v1_3]), (2, .loc 2 0), (3, .loc 3 0), (4, .loc 4 0), (5, .loc 5 0), (6, .loc 6 0), (7, .loc 7 0), (8, I v1_4)], ob := [(2, [V .u64 v1_5, V .u64 v1_6]), (3, [V .u64 v1_7, V .u64 v1_8]), (4, [V .u64 v1_9, V .u64 v1_10]), (5, [V .u64 v1_11, V .u64 v1_12]), (6, [V .u64 v1_13, V .u64 v1_14]), (7, [V .u64 v1_15, V .u64 v1_16])] } : St)
def bd35_1 (v1_0 : Int) (v1_1 : Int) (v1_2 : Int) (v1_3 : Int) (v1_5 : Int) (v1_6 : Int) (v1_7 : Int) (v1_8 : Int) (v1_9 : Int) (v1_10 : Int) (v1_11 : Int) (v1_12 : Int) (kn : Int → Int → Int → Int → Int → Prop) (kx0 : Int → Int → Int → Int → Int → Prop) (v1_4 : Int) (v1_13 : Int) (v1_14 : Int) (v1_15 : Int) (v1_16 : Int) : Prop :=
 (br (decide (v1_4 ≥ 0))
 (ob (F37 (⟨v1_5, v1_6⟩ : T56) v1_4) fun r2 =>
 (br ((!(F38 (F36 (F36 (⟨v1_15, v1_16⟩ : T56) (⟨v1_15, v1_16⟩ : T56)) (⟨0, r2⟩ : T56)) (⟨v1_7, v1_8⟩ : T56))))
 (kn (w64 (v1_4 - 1)) ((F36 (⟨v1_13, v1_14⟩ : T56) (⟨v1_13, v1_14⟩ : T56)).Hi) (IntKind.wrap .u64 ((F36 (⟨v1_13, v1_14⟩ : T56) (⟨v1_13, v1_14⟩ : T56)).Lo + 1)) ((F39 (F36 (F36 (⟨v1_15, v1_16⟩ : T56) (⟨v1_15, v1_16⟩ : T56)) (⟨0, r2⟩ : T56)) (⟨v1_7, v1_8⟩ : T56)).Hi) ((F39 (F36 (F36 (⟨v1_15, v1_16⟩ : T56) (⟨v1_15, v1_16⟩ : T56)) (⟨0, r2⟩ : T56)) (⟨v1_7, v1_8⟩ : T56)).Lo))
 (kn (w64 (v1_4 - 1)) ((F36 (⟨v1_13, v1_14⟩ : T56) (⟨v1_13, v1_14⟩ : T56)).Hi) ((F36 (⟨v1_13, v1_14⟩ : T56) (⟨v1_13, v1_14⟩ : T56)).Lo) ((F36 (F36 (⟨v1_15, v1_16⟩ : T56) (⟨v1_15, v1_16⟩ : T56)) (⟨0, r2⟩ : T56)).Hi) ((F36 (F36 (⟨v1_15, v1_16⟩ : T56) (⟨v1_15, v1_16⟩ : T56)) (⟨0, r2⟩ : T56)).Lo))))
 (kx0 v1_4 v1_13 v1_14 v1_15 v1_16))
def lp35_1 (v1_0 : Int) (v1_1 : Int) (v1_2 : Int) (v1_3 : Int) (v1_5 : Int) (v1_6 : Int) (v1_7 : Int) (v1_8 : Int) (v1_9 : Int) (v1_10 : Int) (v1_11 : Int) (v1_12 : Int) (kx0 : Int → Int → Int → Int → Int → Prop) : Nat → Int → Int → Int → Int → Int → Prop
  | 0, _, _, _, _, _ => False
  | n + 1, v1_4, v1_13, v1_14, v1_15, v1_16 => bd35_1 v1_0 v1_1 v1_2 v1_3 v1_5 v1_6 v1_7 v1_8 v1_9 v1_10 v1_11 v1_12 (lp35_1 v1_0 v1_1 v1_2 v1_3 v1_5 v1_6 v1_7 v1_8 v1_9 v1_10 v1_11 v1_12 kx0 n) kx0 v1_4 v1_13 v1_14 v1_15 v1_16
theorem be35_1 (L : Nat) (v1_0 : Int) (v1_1 : Int) (v1_2 : Int) (v1_3 : Int) (v1_5 : Int) (v1_6 : Int) (v1_7 : Int) (v1_8 : Int) (v1_9 : Int) (v1_10 : Int) (v1_11 : Int) (v1_12 : Int) (v1_4 : Int) (v1_13 : Int) (v1_14 : Int) (v1_15 : Int) (v1_16 : Int) (n : Nat) (K : Ex → St → Prop) : loopN (evC Try.prog O35 L c35.r.r.l.r.l.l) [0, 1, 2, 3, 4, 5, 6, 7, 8] [] (n + 1) (sh35_1 v1_0 v1_1 v1_2 v1_3 v1_5 v1_6 v1_7 v1_8 v1_9 v1_10 v1_11 v1_12 v1_4 v1_13 v1_14 v1_15 v1_16) K = bd35_1 v1_0 v1_1 v1_2 v1_3 v1_5 v1_6 v1_7 v1_8 v1_9 v1_10 v1_11 v1_12 (fun v1_4 v1_13 v1_14 v1_15 v1_16 => loopN (evC Try.prog O35 L c35.r.r.l.r.l.l) [0, 1, 2, 3, 4, 5, 6, 7, 8] [] n (sh35_1 v1_0 v1_1 v1_2 v1_3 v1_5 v1_6 v1_7 v1_8 v1_9 v1_10 v1_11 v1_12 v1_4 v1_13 v1_14 v1_15 v1_16) K) (fun v1_4 v1_13 v1_14 v1_15 v1_16 => K (.exit 0) (sh35_1 v1_0 v1_1 v1_2 v1_3 v1_5 v1_6 v1_7 v1_8 v1_9 v1_10 v1_11 v1_12 v1_4 v1_13 v1_14 v1_15 v1_16)) v1_4 v1_13 v1_14 v1_15 v1_16 := by
  kernel_rfl
theorem le35_1 (L : Nat) (v1_0 : Int) (v1_1 : Int) (v1_2 : Int) (v1_3 : Int) (v1_5 : Int) (v1_6 : Int) (v1_7 : Int) (v1_8 : Int) (v1_9 : Int) (v1_10 : Int) (v1_11 : Int) (v1_12 : Int) (n : Nat) (v1_4 : Int) (v1_13 : Int) (v1_14 : Int) (v1_15 : Int) (v1_16 : Int) (K : Ex → St → Prop) : loopN (evC Try.prog O35 L c35.r.r.l.r.l.l) [0, 1, 2, 3, 4, 5, 6, 7, 8] [] n (sh35_1 v1_0 v1_1 v1_2 v1_3 v1_5 v1_6 v1_7 v1_8 v1_9 v1_10 v1_11 v1_12 v1_4 v1_13 v1_14 v1_15 v1_16) K = lp35_1 v1_0 v1_1 v1_2 v1_3 v1_5 v1_6 v1_7 v1_8 v1_9 v1_10 v1_11 v1_12 (fun v1_4 v1_13 v1_14 v1_15 v1_16 => K (.exit 0) (sh35_1 v1_0 v1_1 v1_2 v1_3 v1_5 v1_6 v1_7 v1_8 v1_9 v1_10 v1_11 v1_12 v1_4 v1_13 v1_14 v1_15 v1_16)) n v1_4 v1_13 v1_14 v1_15 v1_16 := by
  induction n generalizing v1_4 v1_13 v1_14 v1_15 v1_16 with
  | zero => rfl
  | succ n ih =>
    rw [be35_1]
    simp only [ih]
    rfl
def T35t (L : Nat) (a0 : T56) (a1 : T56) (k : (T56 × T56) → Prop) : Prop :=
 (lp35_1 a0.Hi a0.Lo a1.Hi a1.Lo a0.Hi a0.Lo a1.Hi a1.Lo 0 0 0 0 (fun u1_4 u1_13 u1_14 u1_15 u1_16 =>
 (k (((⟨u1_13, u1_14⟩ : T56), (⟨u1_15, u1_16⟩ : T56))))) L 127 0 0 0 0)
theorem tree35 (L : Nat) (a0 : T56) (a1 : T56) (kk : PV → Prop) : evFn Try.prog O35 L Try.f35.results.toList c35 [.agg [V .u64 a0.Hi, V .u64 a0.Lo], .agg [V .u64 a1.Hi, V .u64 a1.Lo]] kk = T35t L a0 a1 (fun x => kk (.tup [.agg [V .u64 x.1.Hi, V .u64 x.1.Lo], .agg [V .u64 x.2.Hi, V .u64 x.2.Lo]])) := by
  have h : evFn Try.prog O35 L Try.f35.results.toList c35 [.agg [V .u64 a0.Hi, V .u64 a0.Lo], .agg [V .u64 a1.Hi, V .u64 a1.Lo]] kk = ((fun (k : (T56 × T56) → Prop) => (loopN (evC Try.prog O35 L c35.r.r.l.r.l.l) [0, 1, 2, 3, 4, 5, 6, 7, 8] [] L (sh35_1 a0.Hi a0.Lo a1.Hi a1.Lo a0.Hi a0.Lo a1.Hi a1.Lo 0 0 0 0 127 0 0 0 0) (kBlock 0 (kSeq (evC Try.prog O35 L c35.r.r.r) (kEnd Try.prog Try.f35.results.toList kk))))) (fun x => kk (.tup [.agg [V .u64 x.1.Hi, V .u64 x.1.Lo], .agg [V .u64 x.2.Hi, V .u64 x.2.Lo]]))) := by kernel_rfl
  rw [h]
  simp only [le35_1]
  show _ = _
  kernel_rfl
theorem g35 (L : Nat) (a0 : T56) (a1 : T56) (r : (T56 × T56)) (h : T35t L a0 a1 (fun x => x = r)) (hm : ∀ p q : (T56 × T56) → Prop, (∀ x, p x → q x) → T35t L a0 a1 p → T35t L a0 a1 q) : Holds Try.prog 35 [.agg [V .u64 a0.Hi, V .u64 a0.Lo], .agg [V .u64 a1.Hi, V .u64 a1.Lo]] (.tup [.agg [V .u64 r.1.Hi, V .u64 r.1.Lo], .agg [V .u64 r.2.Hi, V .u64 r.2.Lo]]) := by
  refine holds_of_ev s35 mixed L Try.func35 (by kernel_rfl : cFn Try.prog Try.f35 = some c35) _ _ (by kernel_rfl) ?_
  rw [tree35]
  exact hm _ _ (fun x e => by rw [e]) h
/-! ### the long division -/
def F35 (a b : T56) : Option (T56 × T56) :=
  if a.Hi = 0 ∧ b.Hi = 0 ∧ 0 ≤ a.Lo ∧ a.Lo < 4611686018427387904 ∧ 0 < b.Lo ∧ b.Lo < 4611686018427387904 then some (⟨0, a.Lo / b.Lo⟩, ⟨0, a.Lo % b.Lo⟩) else none

theorem wu64 {n : Int} (h1 : 0 ≤ n) (h2 : n < 18446744073709551616) : IntKind.wrap .u64 n = n := by
  unfold IntKind.wrap
  simp [IntKind.signed, IntKind.bits]
  omega
theorem plus_small {x y : Int} (h1 : 0 ≤ x) (h2 : 0 ≤ y) (h3 : x + y < 18446744073709551616) : F36 ⟨0, x⟩ ⟨0, y⟩ = ⟨0, x + y⟩ := by
  unfold F36
  show (bif decide (IntKind.wrap .u64 (x + y) < x) then _ else _) = _
  rw [wu64 (n := x + y) (by omega) h3, nope (decide_eq_false (by omega))]
  rfl
theorem minus_small {x y : Int} (h1 : 0 ≤ y) (h2 : y ≤ x) (h3 : x < 18446744073709551616) : F39 ⟨0, x⟩ ⟨0, y⟩ = ⟨0, x - y⟩ := by
  unfold F39
  show (bif decide (x < y) then _ else _) = _
  rw [nope (decide_eq_false (by omega)), wu64 (n := x - y) (by omega) (by omega)]
  rfl
theorem less_small (x y : Int) : F38 ⟨0, x⟩ ⟨0, y⟩ = decide (x < y) := rfl

theorem bit_small {a j : Nat} (ha : a < 4611686018427387904) (hj : j < 128) : F37 ⟨0, a⟩ (j : Int) = some ((a / 2 ^ j % 2 : Nat) : Int) := by
  unfold F37
  by_cases h : 64 ≤ j
  · rw [yep (decide_eq_true (by omega)), w64_id (by omega) (by omega), wu64 (by omega) (by omega), yep (by simp; omega)]
    have : a / 2 ^ j = 0 := by
      refine Nat.div_eq_of_lt (Nat.lt_of_lt_of_le ha ?_)
      calc 4611686018427387904 ≤ 2 ^ 64 := by decide
        _ ≤ 2 ^ j := Nat.pow_le_pow_right (by decide) h
    rw [this]
    show some (Int.tmod (Int.fdiv 0 _) 2) = _
    simp
  · rw [nope (decide_eq_false (by omega)), wu64 (by omega) (by omega), yep (by simp)]
    have hm : min (Int.toNat (j : Int)) 64 = j := by simp; omega
    rw [hm]
    have hf : Int.fdiv (a : Int) (2 ^ j) = ((a / 2 ^ j : Nat) : Int) := by
      have e : ((2 : Int) ^ j) = ((2 ^ j : Nat) : Int) := by simp
      rw [e, Int.fdiv_eq_ediv_of_nonneg _ (Int.natCast_nonneg _)]
      simp
    show some (Int.tmod (Int.fdiv (a : Int) (2 ^ j)) 2) = _
    rw [hf]
    simp [Int.tmod]

theorem lp35 {a b : Nat} (ha : a < 4611686018427387904) (hb : 0 < b) (hb2 : b < 4611686018427387904) {p0 p1 p2 p3 p9 p10 p11 p12 : Int} {kx : Int → Int → Int → Int → Int → Prop}
    (hk : kx (-1) 0 ((a / b : Nat) : Int) 0 ((a % b : Nat) : Int)) :
    ∀ (j n : Nat), j < n → j ≤ 128 → lp35_1 p0 p1 p2 p3 0 (a : Int) 0 (b : Int) p9 p10 p11 p12 kx n ((j : Int) - 1) 0 ((a / 2 ^ j / b : Nat) : Int) 0 ((a / 2 ^ j % b : Nat) : Int)
  | 0, n + 1, _, _ => by
    unfold lp35_1 bd35_1
    refine br_false (by decide) ?_
    simpa using hk
  | j + 1, n + 1, h1, h2 => by
    unfold lp35_1 bd35_1
    have e0 : ((j + 1 : Nat) : Int) - 1 = (j : Int) := by omega
    rw [e0]
    refine br_true (decide_eq_true (by omega)) ?_
    refine ob_some (bit_small ha (by omega)) ?_
    have hA : a / 2 ^ j = 2 * (a / 2 ^ (j + 1)) + a / 2 ^ j % 2 := by
      have : a / 2 ^ (j + 1) = a / 2 ^ j / 2 := by rw [Nat.pow_succ, Nat.div_div_eq_div_mul]
      rw [this]; omega
    have hlt : a / 2 ^ j < 4611686018427387904 := Nat.lt_of_le_of_lt (Nat.div_le_self _ _) ha
    have ih0 := lp35 ha hb hb2 (p0 := p0) (p1 := p1) (p2 := p2) (p3 := p3) (p9 := p9) (p10 := p10) (p11 := p11) (p12 := p12) hk j n (by omega) (by omega)
    generalize a / 2 ^ (j + 1) = A at hA ⊢
    generalize ht : a / 2 ^ j % 2 = t at hA ⊢
    have ht2 : t ≤ 1 := by omega
    have hAA : A < 4611686018427387904 := by omega
    have hq : A / b ≤ A := Nat.div_le_self _ _
    have hr : A % b < b := Nat.mod_lt _ hb
    have hdm := Nat.div_add_mod A b
    generalize A / b = q at hq hdm ⊢
    generalize A % b = r at hr hdm ⊢
    rw [hA] at ih0
    rw [plus_small (x := ((r : Nat) : Int)) (y := ((r : Nat) : Int)) (by omega) (by omega) (by omega), plus_small (x := ((r : Nat) : Int) + ((r : Nat) : Int)) (y := (t : Int)) (by omega) (by omega) (by omega),
      plus_small (x := ((q : Nat) : Int)) (y := ((q : Nat) : Int)) (by omega) (by omega) (by omega), less_small, w64_id (n := (j : Int) - 1) (by omega) (by omega)]
    by_cases hlt2 : 2 * r + t < b
    · refine br_false (by simp; omega) ?_
      have u := (Nat.div_mod_unique (a := 2 * A + t) (b := b) (d := 2 * q) (c := 2 * r + t) hb).2 ⟨by
        have : b * (2 * q) = 2 * (b * q) := by rw [← Nat.mul_assoc, Nat.mul_comm b 2, Nat.mul_assoc]
        omega, hlt2⟩
      rw [u.1, u.2] at ih0
      have e1 : ((2 * q : Nat) : Int) = ((q : Nat) : Int) + ((q : Nat) : Int) := by omega
      have e2 : ((2 * r + t : Nat) : Int) = ((r : Nat) : Int) + ((r : Nat) : Int) + (t : Int) := by omega
      rw [e1, e2] at ih0
      exact ih0
    · refine br_true (by simp; omega) ?_
      rw [minus_small (by omega) (by omega) (by omega)]
      have u := (Nat.div_mod_unique (a := 2 * A + t) (b := b) (d := 2 * q + 1) (c := 2 * r + t - b) hb).2 ⟨by
        have : b * (2 * q + 1) = 2 * (b * q) + b := by rw [Nat.mul_add, ← Nat.mul_assoc, Nat.mul_comm b 2, Nat.mul_assoc, Nat.mul_one]
        omega, by omega⟩
      rw [u.1, u.2] at ih0
      have e1 : ((2 * q + 1 : Nat) : Int) = IntKind.wrap .u64 (((q : Nat) : Int) + ((q : Nat) : Int) + 1) := by rw [wu64 (by omega) (by omega)]; omega
      have e2 : ((2 * r + t - b : Nat) : Int) = ((r : Nat) : Int) + ((r : Nat) : Int) + (t : Int) - (b : Int) := by omega
      rw [e1, e2] at ih0
      exact ih0

theorem h35 (a b : T56) (r : T56 × T56) (h : F35 a b = some r) : Holds Try.prog 35 [.agg [V .u64 a.Hi, V .u64 a.Lo], .agg [V .u64 b.Hi, V .u64 b.Lo]] (.tup [.agg [V .u64 r.1.Hi, V .u64 r.1.Lo], .agg [V .u64 r.2.Hi, V .u64 r.2.Lo]]) := by
  unfold F35 at h
  split at h
  · rename_i hh
    injection h with h
    subst h
    obtain ⟨aH, aL⟩ := a
    obtain ⟨bH, bL⟩ := b
    obtain ⟨h1, h2, h3, h4, h5, h6⟩ := hh
    simp only at h1 h2 h3 h4 h5 h6
    subst h1; subst h2
    obtain ⟨x, rfl⟩ := Int.eq_ofNat_of_zero_le h3
    obtain ⟨y, rfl⟩ := Int.eq_ofNat_of_zero_le (Int.le_of_lt h5)
    refine holds_of_ev s35 mixed 129 Try.func35 (by kernel_rfl : cFn Try.prog Try.f35 = some c35) _ _ (by kernel_rfl) ?_
    rw [tree35]
    unfold T35t
    have hx : x < 4611686018427387904 := by omega
    have z : x / 2 ^ 128 = 0 := Nat.div_eq_of_lt (Nat.lt_trans hx (by decide))
    have := lp35 (a := x) (b := y) hx (by omega) (by omega) (p0 := 0) (p1 := (x : Int)) (p2 := 0) (p3 := (y : Int)) (p9 := 0) (p10 := 0) (p11 := 0) (p12 := 0)
      (kx := fun u1_4 u1_13 u1_14 u1_15 u1_16 => (fun r : T56 × T56 => (PV.tup [.agg [V .u64 r.1.Hi, V .u64 r.1.Lo], .agg [V .u64 r.2.Hi, V .u64 r.2.Lo]]) = (PV.tup [.agg [V .u64 0, V .u64 ((x : Int) / (y : Int))], .agg [V .u64 0, V .u64 ((x : Int) % (y : Int))]])) (⟨u1_13, u1_14⟩, ⟨u1_15, u1_16⟩)) (by simp) 128 129 (by omega) (by omega)
    rw [z] at this
    simpa using this
  · cases h

end Go.Proofs.Ytflfeikkcpcdiaa.Ev
