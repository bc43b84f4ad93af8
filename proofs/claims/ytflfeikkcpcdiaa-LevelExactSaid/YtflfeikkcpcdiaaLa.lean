import Derived.Test.YtflfeikkcpcdiaaEvR
namespace Go.Proofs.Ytflfeikkcpcdiaa.Ev
open Go
set_option maxRecDepth 100000
set_option linter.unusedVariables false
set_option linter.unusedSimpArgs false
set_option linter.unnecessarySimpa false
theorem mixed : Try.prog.follows .mixedOrders = true := by kernel_rfl
structure T26 where
  Value : Int
  Since : Int
  Begin : Int
  Area : Int
  Min : Int
  Max : Int
  deriving Inhabited
def encT26 (x : T26) : List PV := [I x.Value, I x.Since, I x.Begin, I x.Area, I x.Min, I x.Max]
structure T37 where
  N : Int
  D : Int
  deriving Inhabited
def encT37 (x : T37) : List PV := [I x.N, I x.D]
/-! ### simulator/level.isValue -/
noncomputable def c21 : EC := (cFn Try.prog Try.f21).getD .skip
def O21 : Oracle := noC
theorem s21 : SoundC Try.prog O21 := (noC_sound Try.prog)
def T21t (a0 : Int) (k : Bool → Prop) : Prop :=
 (br (decide (a0 ≥ (-1000000)))
 (k (decide (a0 ≤ 1000000)))
 (k (false)))
theorem tree21 (L : Nat) (a0 : Int) (kk : PV → Prop) : evFn Try.prog O21 L Try.f21.results.toList c21 [I a0] kk = T21t a0 (fun x => kk (B x)) := by
  kernel_rfl
def F21 (a0 : Int) : Bool :=
 (bif decide (a0 ≥ (-1000000)) then decide (a0 ≤ 1000000)
 else false)
theorem T21e (a0 : Int) (k : Bool → Prop) : T21t a0 k = k (F21 a0) := by
  unfold T21t F21
  simp only [br_k k]
theorem h21 (a0 : Int) : Holds Try.prog 21 [I a0] (B (F21 a0)) := by
  refine holds_of_ev s21 mixed 0 Try.func21 (by kernel_rfl : cFn Try.prog Try.f21 = some c21) _ _ (by kernel_rfl) ?_
  rw [tree21, T21e]

/-! ### simulator/level.isTime -/
noncomputable def c22 : EC := (cFn Try.prog Try.f22).getD .skip
def O22 : Oracle := noC
theorem s22 : SoundC Try.prog O22 := (noC_sound Try.prog)
def T22t (a0 : Int) (k : Bool → Prop) : Prop :=
 (br (decide (a0 ≥ 0))
 (k (decide (a0 ≤ 1000000000)))
 (k (false)))
theorem tree22 (L : Nat) (a0 : Int) (kk : PV → Prop) : evFn Try.prog O22 L Try.f22.results.toList c22 [I a0] kk = T22t a0 (fun x => kk (B x)) := by
  kernel_rfl
def F22 (a0 : Int) : Bool :=
 (bif decide (a0 ≥ 0) then decide (a0 ≤ 1000000000)
 else false)
theorem T22e (a0 : Int) (k : Bool → Prop) : T22t a0 k = k (F22 a0) := by
  unfold T22t F22
  simp only [br_k k]
theorem h22 (a0 : Int) : Holds Try.prog 22 [I a0] (B (F22 a0)) := by
  refine holds_of_ev s22 mixed 0 Try.func22 (by kernel_rfl : cFn Try.prog Try.f22 = some c22) _ _ (by kernel_rfl) ?_
  rw [tree22, T22e]

/-! ### simulator/level.Check -/
noncomputable def c13 : EC := (cFn Try.prog Try.f13).getD .skip
def A21 : List PV → (PV → Prop) → Prop := fun args k => match args with
  | [.val (.int .i64 x1)] => k (B (F21 x1))
  | _ => False
theorem a21 (args : List PV) (k : PV → Prop) (h : A21 args k) : ∃ r, Holds Try.prog 21 args r ∧ k r := by
  unfold A21 at h
  split at h
  · exact ⟨_, h21 _, h⟩
  · exact h.elim
def A22 : List PV → (PV → Prop) → Prop := fun args k => match args with
  | [.val (.int .i64 x1)] => k (B (F22 x1))
  | _ => False
theorem a22 (args : List PV) (k : PV → Prop) (h : A22 args k) : ∃ r, Holds Try.prog 22 args r ∧ k r := by
  unfold A22 at h
  split at h
  · exact ⟨_, h22 _, h⟩
  · exact h.elim
def O13 : Oracle := (orc 21 A21 (orc 22 A22 noC))
theorem s13 : SoundC Try.prog O13 := (orc_sound a21 (orc_sound a22 (noC_sound Try.prog)))
def T13t (a0 : T26) (k : Int → Prop) : Prop :=
 (br ((!(F21 a0.Value)))
 (k (2))
 (br ((!(F21 a0.Min)))
 (k (2))
 (br ((!(F21 a0.Max)))
 (k (2))
 (br ((!(F22 a0.Since)))
 (k (2))
 (br ((!(F22 a0.Begin)))
 (k (2))
 (br (decide ((w64 (a0.Since - a0.Begin)) < 0))
 (k (12))
 (br (decide (a0.Value < a0.Min))
 (k (8))
 (br (decide (a0.Value > a0.Max))
 (k (8))
 (br (decide (a0.Area < (w64 (a0.Min * (w64 (a0.Since - a0.Begin))))))
 (k (8))
 (br (decide (a0.Area > (w64 (a0.Max * (w64 (a0.Since - a0.Begin))))))
 (k (8))
 (k (0))))))))))))
theorem tree13 (L : Nat) (a0 : T26) (kk : PV → Prop) : evFn Try.prog O13 L Try.f13.results.toList c13 [.agg [I a0.Value, I a0.Since, I a0.Begin, I a0.Area, I a0.Min, I a0.Max]] kk = T13t a0 (fun x => kk (I x)) := by
  kernel_rfl
def F13 (a0 : T26) : Int :=
 (bif (!(F21 a0.Value)) then 2
 else (bif (!(F21 a0.Min)) then 2
 else (bif (!(F21 a0.Max)) then 2
 else (bif (!(F22 a0.Since)) then 2
 else (bif (!(F22 a0.Begin)) then 2
 else (bif decide ((w64 (a0.Since - a0.Begin)) < 0) then 12
 else (bif decide (a0.Value < a0.Min) then 8
 else (bif decide (a0.Value > a0.Max) then 8
 else (bif decide (a0.Area < (w64 (a0.Min * (w64 (a0.Since - a0.Begin))))) then 8
 else (bif decide (a0.Area > (w64 (a0.Max * (w64 (a0.Since - a0.Begin))))) then 8
 else 0))))))))))
theorem T13e (a0 : T26) (k : Int → Prop) : T13t a0 k = k (F13 a0) := by
  unfold T13t F13
  simp only [br_k k]
theorem h13 (a0 : T26) : Holds Try.prog 13 [.agg [I a0.Value, I a0.Since, I a0.Begin, I a0.Area, I a0.Min, I a0.Max]] (I (F13 a0)) := by
  refine holds_of_ev s13 mixed 0 Try.func13 (by kernel_rfl : cFn Try.prog Try.f13 = some c13) _ _ (by kernel_rfl) ?_
  rw [tree13, T13e]

/-! ### simulator/level.New -/
noncomputable def c8 : EC := (cFn Try.prog Try.f8).getD .skip
def O8 : Oracle := (orc 21 A21 (orc 22 A22 noC))
theorem s8 : SoundC Try.prog O8 := (orc_sound a21 (orc_sound a22 (noC_sound Try.prog)))
def T8t (a0 : Int) (a1 : Int) (k : (T26 × Int) → Prop) : Prop :=
 (br ((!(F21 a0)))
 (k (((⟨0, 0, 0, 0, 0, 0⟩ : T26), 2)))
 (br ((!(F22 a1)))
 (k (((⟨0, 0, 0, 0, 0, 0⟩ : T26), 2)))
 (k (((⟨a0, a1, a1, 0, a0, a0⟩ : T26), 0)))))
theorem tree8 (L : Nat) (a0 : Int) (a1 : Int) (kk : PV → Prop) : evFn Try.prog O8 L Try.f8.results.toList c8 [I a0, I a1] kk = T8t a0 a1 (fun x => kk (.tup [.agg [I x.1.Value, I x.1.Since, I x.1.Begin, I x.1.Area, I x.1.Min, I x.1.Max], I x.2])) := by
  kernel_rfl
def F8 (a0 : Int) (a1 : Int) : (T26 × Int) :=
 (bif (!(F21 a0)) then ((⟨0, 0, 0, 0, 0, 0⟩ : T26), 2)
 else (bif (!(F22 a1)) then ((⟨0, 0, 0, 0, 0, 0⟩ : T26), 2)
 else ((⟨a0, a1, a1, 0, a0, a0⟩ : T26), 0)))
theorem T8e (a0 : Int) (a1 : Int) (k : (T26 × Int) → Prop) : T8t a0 a1 k = k (F8 a0 a1) := by
  unfold T8t F8
  simp only [br_k k]
theorem h8 (a0 : Int) (a1 : Int) : Holds Try.prog 8 [I a0, I a1] (.tup [.agg [I (F8 a0 a1).1.Value, I (F8 a0 a1).1.Since, I (F8 a0 a1).1.Begin, I (F8 a0 a1).1.Area, I (F8 a0 a1).1.Min, I (F8 a0 a1).1.Max], I (F8 a0 a1).2]) := by
  refine holds_of_ev s8 mixed 0 Try.func8 (by kernel_rfl : cFn Try.prog Try.f8 = some c8) _ _ (by kernel_rfl) ?_
  rw [tree8, T8e]

/-! ### simulator/level.integral -/
noncomputable def c24 : EC := (cFn Try.prog Try.f24).getD .skip
def O24 : Oracle := noC
theorem s24 : SoundC Try.prog O24 := (noC_sound Try.prog)
def T24t (a0 : T26) (a1 : Int) (k : Int → Prop) : Prop :=
 (k ((w64 (a0.Area + (w64 (a0.Value * (w64 (a1 - a0.Since))))))))
theorem tree24 (L : Nat) (a0 : T26) (a1 : Int) (kk : PV → Prop) : evFn Try.prog O24 L Try.f24.results.toList c24 [.agg [I a0.Value, I a0.Since, I a0.Begin, I a0.Area, I a0.Min, I a0.Max], I a1] kk = T24t a0 a1 (fun x => kk (I x)) := by
  kernel_rfl
def F24 (a0 : T26) (a1 : Int) : Int :=
 (w64 (a0.Area + (w64 (a0.Value * (w64 (a1 - a0.Since))))))
theorem T24e (a0 : T26) (a1 : Int) (k : Int → Prop) : T24t a0 a1 k = k (F24 a0 a1) := by
  unfold T24t F24
  simp only [br_k k]
theorem h24 (a0 : T26) (a1 : Int) : Holds Try.prog 24 [.agg [I a0.Value, I a0.Since, I a0.Begin, I a0.Area, I a0.Min, I a0.Max], I a1] (I (F24 a0 a1)) := by
  refine holds_of_ev s24 mixed 0 Try.func24 (by kernel_rfl : cFn Try.prog Try.f24 = some c24) _ _ (by kernel_rfl) ?_
  rw [tree24, T24e]

/-! ### simulator/level.ready -/
noncomputable def c23 : EC := (cFn Try.prog Try.f23).getD .skip
def A13 : List PV → (PV → Prop) → Prop := fun args k => match args with
  | [.agg [.val (.int .i64 x1), .val (.int .i64 x2), .val (.int .i64 x3), .val (.int .i64 x4), .val (.int .i64 x5), .val (.int .i64 x6)]] => k (I (F13 (⟨x1, x2, x3, x4, x5, x6⟩ : T26)))
  | _ => False
theorem a13 (args : List PV) (k : PV → Prop) (h : A13 args k) : ∃ r, Holds Try.prog 13 args r ∧ k r := by
  unfold A13 at h
  split at h
  · exact ⟨_, h13 (T26.mk _ _ _ _ _ _), h⟩
  · exact h.elim
def O23 : Oracle := (orc 13 A13 (orc 21 A21 (orc 22 A22 noC)))
theorem s23 : SoundC Try.prog O23 := (orc_sound a13 (orc_sound a21 (orc_sound a22 (noC_sound Try.prog))))
def T23t (a0 : T26) (a1 : Int) (a2 : Int) (k : Int → Prop) : Prop :=
 (br (((F13 a0) != 0))
 (k ((F13 a0)))
 (br ((!(F21 a1)))
 (k (2))
 (br ((!(F22 a2)))
 (k (2))
 (br (decide (a2 < a0.Since))
 (k (12))
 (k (0))))))
theorem tree23 (L : Nat) (a0 : T26) (a1 : Int) (a2 : Int) (kk : PV → Prop) : evFn Try.prog O23 L Try.f23.results.toList c23 [.agg [I a0.Value, I a0.Since, I a0.Begin, I a0.Area, I a0.Min, I a0.Max], I a1, I a2] kk = T23t a0 a1 a2 (fun x => kk (I x)) := by
  kernel_rfl
def F23 (a0 : T26) (a1 : Int) (a2 : Int) : Int :=
 (bif ((F13 a0) != 0) then (F13 a0)
 else (bif (!(F21 a1)) then 2
 else (bif (!(F22 a2)) then 2
 else (bif decide (a2 < a0.Since) then 12
 else 0))))
theorem T23e (a0 : T26) (a1 : Int) (a2 : Int) (k : Int → Prop) : T23t a0 a1 a2 k = k (F23 a0 a1 a2) := by
  unfold T23t F23
  simp only [br_k k]
theorem h23 (a0 : T26) (a1 : Int) (a2 : Int) : Holds Try.prog 23 [.agg [I a0.Value, I a0.Since, I a0.Begin, I a0.Area, I a0.Min, I a0.Max], I a1, I a2] (I (F23 a0 a1 a2)) := by
  refine holds_of_ev s23 mixed 0 Try.func23 (by kernel_rfl : cFn Try.prog Try.f23 = some c23) _ _ (by kernel_rfl) ?_
  rw [tree23, T23e]

/-! ### simulator/level.Area -/
noncomputable def c10 : EC := (cFn Try.prog Try.f10).getD .skip
def A23 : List PV → (PV → Prop) → Prop := fun args k => match args with
  | [.agg [.val (.int .i64 x1), .val (.int .i64 x2), .val (.int .i64 x3), .val (.int .i64 x4), .val (.int .i64 x5), .val (.int .i64 x6)], .val (.int .i64 x7), .val (.int .i64 x8)] => k (I (F23 (⟨x1, x2, x3, x4, x5, x6⟩ : T26) x7 x8))
  | _ => False
theorem a23 (args : List PV) (k : PV → Prop) (h : A23 args k) : ∃ r, Holds Try.prog 23 args r ∧ k r := by
  unfold A23 at h
  split at h
  · exact ⟨_, h23 (T26.mk _ _ _ _ _ _) _ _, h⟩
  · exact h.elim
def A24 : List PV → (PV → Prop) → Prop := fun args k => match args with
  | [.agg [.val (.int .i64 x1), .val (.int .i64 x2), .val (.int .i64 x3), .val (.int .i64 x4), .val (.int .i64 x5), .val (.int .i64 x6)], .val (.int .i64 x7)] => k (I (F24 (⟨x1, x2, x3, x4, x5, x6⟩ : T26) x7))
  | _ => False
theorem a24 (args : List PV) (k : PV → Prop) (h : A24 args k) : ∃ r, Holds Try.prog 24 args r ∧ k r := by
  unfold A24 at h
  split at h
  · exact ⟨_, h24 (T26.mk _ _ _ _ _ _) _, h⟩
  · exact h.elim
def O10 : Oracle := (orc 23 A23 (orc 24 A24 noC))
theorem s10 : SoundC Try.prog O10 := (orc_sound a23 (orc_sound a24 (noC_sound Try.prog)))
def T10t (a0 : T26) (a1 : Int) (k : (Int × Bool) → Prop) : Prop :=
 (br (((F23 a0 0 a1) != 0))
 (k ((0, false)))
 (k (((F24 a0 a1), true))))
theorem tree10 (L : Nat) (a0 : T26) (a1 : Int) (kk : PV → Prop) : evFn Try.prog O10 L Try.f10.results.toList c10 [.agg [I a0.Value, I a0.Since, I a0.Begin, I a0.Area, I a0.Min, I a0.Max], I a1] kk = T10t a0 a1 (fun x => kk (.tup [I x.1, B x.2])) := by
  kernel_rfl
def F10 (a0 : T26) (a1 : Int) : (Int × Bool) :=
 (bif ((F23 a0 0 a1) != 0) then (0, false)
 else ((F24 a0 a1), true))
theorem T10e (a0 : T26) (a1 : Int) (k : (Int × Bool) → Prop) : T10t a0 a1 k = k (F10 a0 a1) := by
  unfold T10t F10
  simp only [br_k k]
theorem h10 (a0 : T26) (a1 : Int) : Holds Try.prog 10 [.agg [I a0.Value, I a0.Since, I a0.Begin, I a0.Area, I a0.Min, I a0.Max], I a1] (.tup [I (F10 a0 a1).1, B (F10 a0 a1).2]) := by
  refine holds_of_ev s10 mixed 0 Try.func10 (by kernel_rfl : cFn Try.prog Try.f10 = some c10) _ _ (by kernel_rfl) ?_
  rw [tree10, T10e]

/-! ### simulator/level.Set -/
noncomputable def c11 : EC := (cFn Try.prog Try.f11).getD .skip
def O11 : Oracle := (orc 23 A23 (orc 24 A24 noC))
theorem s11 : SoundC Try.prog O11 := (orc_sound a23 (orc_sound a24 (noC_sound Try.prog)))
def T11t (a0 : T26) (a1 : Int) (a2 : Int) (k : (T26 × Int) → Prop) : Prop :=
 (br (((F23 a0 a1 a2) != 0))
 (k (((⟨0, 0, 0, 0, 0, 0⟩ : T26), (F23 a0 a1 a2))))
 (k (((⟨a1, a2, a0.Begin, (F24 a0 a2), (if a1 < a0.Min then a1 else a0.Min), (if a1 > a0.Max then a1 else a0.Max)⟩ : T26), 0))))
theorem tree11 (L : Nat) (a0 : T26) (a1 : Int) (a2 : Int) (kk : PV → Prop) : evFn Try.prog O11 L Try.f11.results.toList c11 [.agg [I a0.Value, I a0.Since, I a0.Begin, I a0.Area, I a0.Min, I a0.Max], I a1, I a2] kk = T11t a0 a1 a2 (fun x => kk (.tup [.agg [I x.1.Value, I x.1.Since, I x.1.Begin, I x.1.Area, I x.1.Min, I x.1.Max], I x.2])) := by
  kernel_rfl
def F11 (a0 : T26) (a1 : Int) (a2 : Int) : (T26 × Int) :=
 (bif ((F23 a0 a1 a2) != 0) then ((⟨0, 0, 0, 0, 0, 0⟩ : T26), (F23 a0 a1 a2))
 else ((⟨a1, a2, a0.Begin, (F24 a0 a2), (if a1 < a0.Min then a1 else a0.Min), (if a1 > a0.Max then a1 else a0.Max)⟩ : T26), 0))
theorem T11e (a0 : T26) (a1 : Int) (a2 : Int) (k : (T26 × Int) → Prop) : T11t a0 a1 a2 k = k (F11 a0 a1 a2) := by
  unfold T11t F11
  simp only [br_k k]
theorem h11 (a0 : T26) (a1 : Int) (a2 : Int) : Holds Try.prog 11 [.agg [I a0.Value, I a0.Since, I a0.Begin, I a0.Area, I a0.Min, I a0.Max], I a1, I a2] (.tup [.agg [I (F11 a0 a1 a2).1.Value, I (F11 a0 a1 a2).1.Since, I (F11 a0 a1 a2).1.Begin, I (F11 a0 a1 a2).1.Area, I (F11 a0 a1 a2).1.Min, I (F11 a0 a1 a2).1.Max], I (F11 a0 a1 a2).2]) := by
  refine holds_of_ev s11 mixed 0 Try.func11 (by kernel_rfl : cFn Try.prog Try.f11 = some c11) _ _ (by kernel_rfl) ?_
  rw [tree11, T11e]

/-! ### simulator/level.Again -/
noncomputable def c16 : EC := (cFn Try.prog Try.f16).getD .skip
def A8 : List PV → (PV → Prop) → Prop := fun args k => match args with
  | [.val (.int .i64 x1), .val (.int .i64 x2)] => k (.tup [.agg [I (F8 x1 x2).1.Value, I (F8 x1 x2).1.Since, I (F8 x1 x2).1.Begin, I (F8 x1 x2).1.Area, I (F8 x1 x2).1.Min, I (F8 x1 x2).1.Max], I (F8 x1 x2).2])
  | _ => False
theorem a8 (args : List PV) (k : PV → Prop) (h : A8 args k) : ∃ r, Holds Try.prog 8 args r ∧ k r := by
  unfold A8 at h
  split at h
  · exact ⟨_, h8 _ _, h⟩
  · exact h.elim
def O16 : Oracle := (orc 23 A23 (orc 8 A8 noC))
theorem s16 : SoundC Try.prog O16 := (orc_sound a23 (orc_sound a8 (noC_sound Try.prog)))
def T16t (a0 : T26) (a1 : Int) (k : (T26 × Int) → Prop) : Prop :=
 (br (((F23 a0 0 a1) != 0))
 (k (((⟨0, 0, 0, 0, 0, 0⟩ : T26), (F23 a0 0 a1))))
 (k (((F8 a0.Value a1).1, (F8 a0.Value a1).2))))
theorem tree16 (L : Nat) (a0 : T26) (a1 : Int) (kk : PV → Prop) : evFn Try.prog O16 L Try.f16.results.toList c16 [.agg [I a0.Value, I a0.Since, I a0.Begin, I a0.Area, I a0.Min, I a0.Max], I a1] kk = T16t a0 a1 (fun x => kk (.tup [.agg [I x.1.Value, I x.1.Since, I x.1.Begin, I x.1.Area, I x.1.Min, I x.1.Max], I x.2])) := by
  kernel_rfl
def F16 (a0 : T26) (a1 : Int) : (T26 × Int) :=
 (bif ((F23 a0 0 a1) != 0) then ((⟨0, 0, 0, 0, 0, 0⟩ : T26), (F23 a0 0 a1))
 else ((F8 a0.Value a1).1, (F8 a0.Value a1).2))
theorem T16e (a0 : T26) (a1 : Int) (k : (T26 × Int) → Prop) : T16t a0 a1 k = k (F16 a0 a1) := by
  unfold T16t F16
  simp only [br_k k]
theorem h16 (a0 : T26) (a1 : Int) : Holds Try.prog 16 [.agg [I a0.Value, I a0.Since, I a0.Begin, I a0.Area, I a0.Min, I a0.Max], I a1] (.tup [.agg [I (F16 a0 a1).1.Value, I (F16 a0 a1).1.Since, I (F16 a0 a1).1.Begin, I (F16 a0 a1).1.Area, I (F16 a0 a1).1.Min, I (F16 a0 a1).1.Max], I (F16 a0 a1).2]) := by
  refine holds_of_ev s16 mixed 0 Try.func16 (by kernel_rfl : cFn Try.prog Try.f16 = some c16) _ _ (by kernel_rfl) ?_
  rw [tree16, T16e]

/-! ### simulator/simulatorref28.value -/
noncomputable def c26 : EC := (cFn Try.prog Try.f26).getD .skip
def O26 : Oracle := noC
theorem s26 : SoundC Try.prog O26 := (noC_sound Try.prog)
def T26t (a0 : Int) (k : Bool → Prop) : Prop :=
 (br (decide (a0 ≥ (-1000000)))
 (k (decide (a0 ≤ 1000000)))
 (k (false)))
theorem tree26 (L : Nat) (a0 : Int) (kk : PV → Prop) : evFn Try.prog O26 L Try.f26.results.toList c26 [I a0] kk = T26t a0 (fun x => kk (B x)) := by
  kernel_rfl
def F26 (a0 : Int) : Bool :=
 (bif decide (a0 ≥ (-1000000)) then decide (a0 ≤ 1000000)
 else false)
theorem T26e (a0 : Int) (k : Bool → Prop) : T26t a0 k = k (F26 a0) := by
  unfold T26t F26
  simp only [br_k k]
theorem h26 (a0 : Int) : Holds Try.prog 26 [I a0] (B (F26 a0)) := by
  refine holds_of_ev s26 mixed 0 Try.func26 (by kernel_rfl : cFn Try.prog Try.f26 = some c26) _ _ (by kernel_rfl) ?_
  rw [tree26, T26e]

/-! ### simulator/simulatorref28.time -/
noncomputable def c27 : EC := (cFn Try.prog Try.f27).getD .skip
def O27 : Oracle := noC
theorem s27 : SoundC Try.prog O27 := (noC_sound Try.prog)
def T27t (a0 : Int) (k : Bool → Prop) : Prop :=
 (br (decide (a0 ≥ 0))
 (k (decide (a0 ≤ 1000000000)))
 (k (false)))
theorem tree27 (L : Nat) (a0 : Int) (kk : PV → Prop) : evFn Try.prog O27 L Try.f27.results.toList c27 [I a0] kk = T27t a0 (fun x => kk (B x)) := by
  kernel_rfl
def F27 (a0 : Int) : Bool :=
 (bif decide (a0 ≥ 0) then decide (a0 ≤ 1000000000)
 else false)
theorem T27e (a0 : Int) (k : Bool → Prop) : T27t a0 k = k (F27 a0) := by
  unfold T27t F27
  simp only [br_k k]
theorem h27 (a0 : Int) : Holds Try.prog 27 [I a0] (B (F27 a0)) := by
  refine holds_of_ev s27 mixed 0 Try.func27 (by kernel_rfl : cFn Try.prog Try.f27 = some c27) _ _ (by kernel_rfl) ?_
  rw [tree27, T27e]

/-! ### simulator/simulatorref28.New -/
noncomputable def c14 : EC := (cFn Try.prog Try.f14).getD .skip
def A26 : List PV → (PV → Prop) → Prop := fun args k => match args with
  | [.val (.int .i64 x1)] => k (B (F26 x1))
  | _ => False
theorem a26 (args : List PV) (k : PV → Prop) (h : A26 args k) : ∃ r, Holds Try.prog 26 args r ∧ k r := by
  unfold A26 at h
  split at h
  · exact ⟨_, h26 _, h⟩
  · exact h.elim
def A27 : List PV → (PV → Prop) → Prop := fun args k => match args with
  | [.val (.int .i64 x1)] => k (B (F27 x1))
  | _ => False
theorem a27 (args : List PV) (k : PV → Prop) (h : A27 args k) : ∃ r, Holds Try.prog 27 args r ∧ k r := by
  unfold A27 at h
  split at h
  · exact ⟨_, h27 _, h⟩
  · exact h.elim
def O14 : Oracle := (orc 26 A26 (orc 27 A27 noC))
theorem s14 : SoundC Try.prog O14 := (orc_sound a26 (orc_sound a27 (noC_sound Try.prog)))
def T14t (a0 : Int) (a1 : Int) (k : (T26 × Int) → Prop) : Prop :=
 (br ((!(F26 a0)))
 (k (((⟨0, 0, 0, 0, 0, 0⟩ : T26), 2)))
 (br ((!(F27 a1)))
 (k (((⟨0, 0, 0, 0, 0, 0⟩ : T26), 2)))
 (k (((⟨a0, a1, a1, 0, a0, a0⟩ : T26), 0)))))
theorem tree14 (L : Nat) (a0 : Int) (a1 : Int) (kk : PV → Prop) : evFn Try.prog O14 L Try.f14.results.toList c14 [I a0, I a1] kk = T14t a0 a1 (fun x => kk (.tup [.agg [I x.1.Value, I x.1.Since, I x.1.Begin, I x.1.Area, I x.1.Min, I x.1.Max], I x.2])) := by
  kernel_rfl
def F14 (a0 : Int) (a1 : Int) : (T26 × Int) :=
 (bif (!(F26 a0)) then ((⟨0, 0, 0, 0, 0, 0⟩ : T26), 2)
 else (bif (!(F27 a1)) then ((⟨0, 0, 0, 0, 0, 0⟩ : T26), 2)
 else ((⟨a0, a1, a1, 0, a0, a0⟩ : T26), 0)))
theorem T14e (a0 : Int) (a1 : Int) (k : (T26 × Int) → Prop) : T14t a0 a1 k = k (F14 a0 a1) := by
  unfold T14t F14
  simp only [br_k k]
theorem h14 (a0 : Int) (a1 : Int) : Holds Try.prog 14 [I a0, I a1] (.tup [.agg [I (F14 a0 a1).1.Value, I (F14 a0 a1).1.Since, I (F14 a0 a1).1.Begin, I (F14 a0 a1).1.Area, I (F14 a0 a1).1.Min, I (F14 a0 a1).1.Max], I (F14 a0 a1).2]) := by
  refine holds_of_ev s14 mixed 0 Try.func14 (by kernel_rfl : cFn Try.prog Try.f14 = some c14) _ _ (by kernel_rfl) ?_
  rw [tree14, T14e]

/-! ### simulator/simulatorref28.Check -/
noncomputable def c18 : EC := (cFn Try.prog Try.f18).getD .skip
def O18 : Oracle := (orc 26 A26 (orc 27 A27 noC))
theorem s18 : SoundC Try.prog O18 := (orc_sound a26 (orc_sound a27 (noC_sound Try.prog)))
def T18t (a0 : T26) (k : Int → Prop) : Prop :=
 (br ((!(F26 a0.Value)))
 (k (2))
 (br ((!(F26 a0.Min)))
 (k (2))
 (br ((!(F26 a0.Max)))
 (k (2))
 (br ((!(F27 a0.Since)))
 (k (2))
 (br ((!(F27 a0.Begin)))
 (k (2))
 (br (decide ((w64 (a0.Since - a0.Begin)) < 0))
 (k (12))
 (br (decide (a0.Min > a0.Value))
 (k (8))
 (br (decide (a0.Value > a0.Max))
 (k (8))
 (br (decide (a0.Area < (w64 (a0.Min * (w64 (a0.Since - a0.Begin))))))
 (k (8))
 (br (decide (a0.Area > (w64 (a0.Max * (w64 (a0.Since - a0.Begin))))))
 (k (8))
 (k (0))))))))))))
theorem tree18 (L : Nat) (a0 : T26) (kk : PV → Prop) : evFn Try.prog O18 L Try.f18.results.toList c18 [.agg [I a0.Value, I a0.Since, I a0.Begin, I a0.Area, I a0.Min, I a0.Max]] kk = T18t a0 (fun x => kk (I x)) := by
  kernel_rfl
def F18 (a0 : T26) : Int :=
 (bif (!(F26 a0.Value)) then 2
 else (bif (!(F26 a0.Min)) then 2
 else (bif (!(F26 a0.Max)) then 2
 else (bif (!(F27 a0.Since)) then 2
 else (bif (!(F27 a0.Begin)) then 2
 else (bif decide ((w64 (a0.Since - a0.Begin)) < 0) then 12
 else (bif decide (a0.Min > a0.Value) then 8
 else (bif decide (a0.Value > a0.Max) then 8
 else (bif decide (a0.Area < (w64 (a0.Min * (w64 (a0.Since - a0.Begin))))) then 8
 else (bif decide (a0.Area > (w64 (a0.Max * (w64 (a0.Since - a0.Begin))))) then 8
 else 0))))))))))
theorem T18e (a0 : T26) (k : Int → Prop) : T18t a0 k = k (F18 a0) := by
  unfold T18t F18
  simp only [br_k k]
theorem h18 (a0 : T26) : Holds Try.prog 18 [.agg [I a0.Value, I a0.Since, I a0.Begin, I a0.Area, I a0.Min, I a0.Max]] (I (F18 a0)) := by
  refine holds_of_ev s18 mixed 0 Try.func18 (by kernel_rfl : cFn Try.prog Try.f18 = some c18) _ _ (by kernel_rfl) ?_
  rw [tree18, T18e]

/-! ### simulator/simulatorref28.Area -/
noncomputable def c19 : EC := (cFn Try.prog Try.f19).getD .skip
def A18 : List PV → (PV → Prop) → Prop := fun args k => match args with
  | [.agg [.val (.int .i64 x1), .val (.int .i64 x2), .val (.int .i64 x3), .val (.int .i64 x4), .val (.int .i64 x5), .val (.int .i64 x6)]] => k (I (F18 (⟨x1, x2, x3, x4, x5, x6⟩ : T26)))
  | _ => False
theorem a18 (args : List PV) (k : PV → Prop) (h : A18 args k) : ∃ r, Holds Try.prog 18 args r ∧ k r := by
  unfold A18 at h
  split at h
  · exact ⟨_, h18 (T26.mk _ _ _ _ _ _), h⟩
  · exact h.elim
def O19 : Oracle := (orc 18 A18 noC)
theorem s19 : SoundC Try.prog O19 := (orc_sound a18 (noC_sound Try.prog))
def T19t (a0 : T26) (a1 : Int) (k : (Int × Bool) → Prop) : Prop :=
 (br (((F18 a0) != 0))
 (k ((0, false)))
 (br (decide (a1 < a0.Since))
 (k ((0, false)))
 (br (decide (a1 > 1000000000))
 (k ((0, false)))
 (k (((w64 (a0.Area + (w64 (a0.Value * (w64 (a1 - a0.Since)))))), true))))))
theorem tree19 (L : Nat) (a0 : T26) (a1 : Int) (kk : PV → Prop) : evFn Try.prog O19 L Try.f19.results.toList c19 [.agg [I a0.Value, I a0.Since, I a0.Begin, I a0.Area, I a0.Min, I a0.Max], I a1] kk = T19t a0 a1 (fun x => kk (.tup [I x.1, B x.2])) := by
  kernel_rfl
def F19 (a0 : T26) (a1 : Int) : (Int × Bool) :=
 (bif ((F18 a0) != 0) then (0, false)
 else (bif decide (a1 < a0.Since) then (0, false)
 else (bif decide (a1 > 1000000000) then (0, false)
 else ((w64 (a0.Area + (w64 (a0.Value * (w64 (a1 - a0.Since)))))), true))))
theorem T19e (a0 : T26) (a1 : Int) (k : (Int × Bool) → Prop) : T19t a0 a1 k = k (F19 a0 a1) := by
  unfold T19t F19
  simp only [br_k k]
theorem h19 (a0 : T26) (a1 : Int) : Holds Try.prog 19 [.agg [I a0.Value, I a0.Since, I a0.Begin, I a0.Area, I a0.Min, I a0.Max], I a1] (.tup [I (F19 a0 a1).1, B (F19 a0 a1).2]) := by
  refine holds_of_ev s19 mixed 0 Try.func19 (by kernel_rfl : cFn Try.prog Try.f19 = some c19) _ _ (by kernel_rfl) ?_
  rw [tree19, T19e]

/-! ### simulator/simulatorref28.Set -/
noncomputable def c15 : EC := (cFn Try.prog Try.f15).getD .skip
def O15 : Oracle := (orc 18 A18 (orc 26 A26 (orc 27 A27 noC)))
theorem s15 : SoundC Try.prog O15 := (orc_sound a18 (orc_sound a26 (orc_sound a27 (noC_sound Try.prog))))
def T15t (a0 : T26) (a1 : Int) (a2 : Int) (k : (T26 × Int) → Prop) : Prop :=
 (br (((F18 a0) != 0))
 (k (((⟨0, 0, 0, 0, 0, 0⟩ : T26), (F18 a0))))
 (br ((!(F26 a1)))
 (k (((⟨0, 0, 0, 0, 0, 0⟩ : T26), 2)))
 (br ((!(F27 a2)))
 (k (((⟨0, 0, 0, 0, 0, 0⟩ : T26), 2)))
 (br (decide (a2 < a0.Since))
 (k (((⟨0, 0, 0, 0, 0, 0⟩ : T26), 12)))
 (k (((⟨a1, a2, a0.Begin, (w64 (a0.Area + (w64 (a0.Value * (w64 (a2 - a0.Since)))))), (if a1 < a0.Min then a1 else a0.Min), (if a1 > a0.Max then a1 else a0.Max)⟩ : T26), 0)))))))
theorem tree15 (L : Nat) (a0 : T26) (a1 : Int) (a2 : Int) (kk : PV → Prop) : evFn Try.prog O15 L Try.f15.results.toList c15 [.agg [I a0.Value, I a0.Since, I a0.Begin, I a0.Area, I a0.Min, I a0.Max], I a1, I a2] kk = T15t a0 a1 a2 (fun x => kk (.tup [.agg [I x.1.Value, I x.1.Since, I x.1.Begin, I x.1.Area, I x.1.Min, I x.1.Max], I x.2])) := by
  kernel_rfl
def F15 (a0 : T26) (a1 : Int) (a2 : Int) : (T26 × Int) :=
 (bif ((F18 a0) != 0) then ((⟨0, 0, 0, 0, 0, 0⟩ : T26), (F18 a0))
 else (bif (!(F26 a1)) then ((⟨0, 0, 0, 0, 0, 0⟩ : T26), 2)
 else (bif (!(F27 a2)) then ((⟨0, 0, 0, 0, 0, 0⟩ : T26), 2)
 else (bif decide (a2 < a0.Since) then ((⟨0, 0, 0, 0, 0, 0⟩ : T26), 12)
 else ((⟨a1, a2, a0.Begin, (w64 (a0.Area + (w64 (a0.Value * (w64 (a2 - a0.Since)))))), (if a1 < a0.Min then a1 else a0.Min), (if a1 > a0.Max then a1 else a0.Max)⟩ : T26), 0)))))
theorem T15e (a0 : T26) (a1 : Int) (a2 : Int) (k : (T26 × Int) → Prop) : T15t a0 a1 a2 k = k (F15 a0 a1 a2) := by
  unfold T15t F15
  simp only [br_k k]
theorem h15 (a0 : T26) (a1 : Int) (a2 : Int) : Holds Try.prog 15 [.agg [I a0.Value, I a0.Since, I a0.Begin, I a0.Area, I a0.Min, I a0.Max], I a1, I a2] (.tup [.agg [I (F15 a0 a1 a2).1.Value, I (F15 a0 a1 a2).1.Since, I (F15 a0 a1 a2).1.Begin, I (F15 a0 a1 a2).1.Area, I (F15 a0 a1 a2).1.Min, I (F15 a0 a1 a2).1.Max], I (F15 a0 a1 a2).2]) := by
  refine holds_of_ev s15 mixed 0 Try.func15 (by kernel_rfl : cFn Try.prog Try.f15 = some c15) _ _ (by kernel_rfl) ?_
  rw [tree15, T15e]

/-! ### simulator/simulatorref28.Again -/
noncomputable def c17 : EC := (cFn Try.prog Try.f17).getD .skip
def A14 : List PV → (PV → Prop) → Prop := fun args k => match args with
  | [.val (.int .i64 x1), .val (.int .i64 x2)] => k (.tup [.agg [I (F14 x1 x2).1.Value, I (F14 x1 x2).1.Since, I (F14 x1 x2).1.Begin, I (F14 x1 x2).1.Area, I (F14 x1 x2).1.Min, I (F14 x1 x2).1.Max], I (F14 x1 x2).2])
  | _ => False
theorem a14 (args : List PV) (k : PV → Prop) (h : A14 args k) : ∃ r, Holds Try.prog 14 args r ∧ k r := by
  unfold A14 at h
  split at h
  · exact ⟨_, h14 _ _, h⟩
  · exact h.elim
def O17 : Oracle := (orc 18 A18 (orc 27 A27 (orc 14 A14 noC)))
theorem s17 : SoundC Try.prog O17 := (orc_sound a18 (orc_sound a27 (orc_sound a14 (noC_sound Try.prog))))
def T17t (a0 : T26) (a1 : Int) (k : (T26 × Int) → Prop) : Prop :=
 (br (((F18 a0) != 0))
 (k (((⟨0, 0, 0, 0, 0, 0⟩ : T26), (F18 a0))))
 (br ((!(F27 a1)))
 (k (((⟨0, 0, 0, 0, 0, 0⟩ : T26), 2)))
 (br (decide (a1 < a0.Since))
 (k (((⟨0, 0, 0, 0, 0, 0⟩ : T26), 12)))
 (k (((F14 a0.Value a1).1, (F14 a0.Value a1).2))))))
theorem tree17 (L : Nat) (a0 : T26) (a1 : Int) (kk : PV → Prop) : evFn Try.prog O17 L Try.f17.results.toList c17 [.agg [I a0.Value, I a0.Since, I a0.Begin, I a0.Area, I a0.Min, I a0.Max], I a1] kk = T17t a0 a1 (fun x => kk (.tup [.agg [I x.1.Value, I x.1.Since, I x.1.Begin, I x.1.Area, I x.1.Min, I x.1.Max], I x.2])) := by
  kernel_rfl
def F17 (a0 : T26) (a1 : Int) : (T26 × Int) :=
 (bif ((F18 a0) != 0) then ((⟨0, 0, 0, 0, 0, 0⟩ : T26), (F18 a0))
 else (bif (!(F27 a1)) then ((⟨0, 0, 0, 0, 0, 0⟩ : T26), 2)
 else (bif decide (a1 < a0.Since) then ((⟨0, 0, 0, 0, 0, 0⟩ : T26), 12)
 else ((F14 a0.Value a1).1, (F14 a0.Value a1).2))))
theorem T17e (a0 : T26) (a1 : Int) (k : (T26 × Int) → Prop) : T17t a0 a1 k = k (F17 a0 a1) := by
  unfold T17t F17
  simp only [br_k k]
theorem h17 (a0 : T26) (a1 : Int) : Holds Try.prog 17 [.agg [I a0.Value, I a0.Since, I a0.Begin, I a0.Area, I a0.Min, I a0.Max], I a1] (.tup [.agg [I (F17 a0 a1).1.Value, I (F17 a0 a1).1.Since, I (F17 a0 a1).1.Begin, I (F17 a0 a1).1.Area, I (F17 a0 a1).1.Min, I (F17 a0 a1).1.Max], I (F17 a0 a1).2]) := by
  refine holds_of_ev s17 mixed 0 Try.func17 (by kernel_rfl : cFn Try.prog Try.f17 = some c17) _ _ (by kernel_rfl) ?_
  rw [tree17, T17e]

/-! ### simulator/frac.gcd -/
noncomputable def c29 : EC := (cFn Try.prog Try.f29).getD .skip
def O29 : Oracle := noC
theorem s29 : SoundC Try.prog O29 := (noC_sound Try.prog)
def sh29_1 (v1_2 : Int) (v1_0 : Int) (v1_1 : Int) : St := ({ fr := [(0, V .u64 v1_0), (1, V .u64 v1_1), (4, V .u64 v1_2)], ob := [] } : St)
def bd29_1 (v1_2 : Int) (kn : Int → Int → Prop) (kx0 : Int → Int → Prop) (v1_0 : Int) (v1_1 : Int) : Prop :=
 (br ((v1_1 != 0))
 (br (!decide (v1_1 = 0))
 (kn v1_1 (Int.tmod v1_0 v1_1))
 False)
 (kx0 v1_0 v1_1))
def lp29_1 (v1_2 : Int) (kx0 : Int → Int → Prop) : Nat → Int → Int → Prop
  | 0, _, _ => False
  | n + 1, v1_0, v1_1 => bd29_1 v1_2 (lp29_1 v1_2 kx0 n) kx0 v1_0 v1_1
theorem be29_1 (L : Nat) (v1_2 : Int) (v1_0 : Int) (v1_1 : Int) (n : Nat) (K : Ex → St → Prop) : loopN (evC Try.prog O29 L c29.r.l.l.l) [0, 1, 4] [] (n + 1) (sh29_1 v1_2 v1_0 v1_1) K = bd29_1 v1_2 (fun v1_0 v1_1 => loopN (evC Try.prog O29 L c29.r.l.l.l) [0, 1, 4] [] n (sh29_1 v1_2 v1_0 v1_1) K) (fun v1_0 v1_1 => K (.exit 0) (sh29_1 v1_2 v1_0 v1_1)) v1_0 v1_1 := by
  kernel_rfl
theorem le29_1 (L : Nat) (v1_2 : Int) (n : Nat) (v1_0 : Int) (v1_1 : Int) (K : Ex → St → Prop) : loopN (evC Try.prog O29 L c29.r.l.l.l) [0, 1, 4] [] n (sh29_1 v1_2 v1_0 v1_1) K = lp29_1 v1_2 (fun v1_0 v1_1 => K (.exit 0) (sh29_1 v1_2 v1_0 v1_1)) n v1_0 v1_1 := by
  induction n generalizing v1_0 v1_1 with
  | zero => rfl
  | succ n ih =>
    rw [be29_1]
    simp only [ih]
    rfl
def T29t (L : Nat) (a0 : Int) (a1 : Int) (k : Int → Prop) : Prop :=
 (lp29_1 0 (fun u1_0 u1_1 =>
 (k (u1_0))) L a0 a1)
theorem tree29 (L : Nat) (a0 : Int) (a1 : Int) (kk : PV → Prop) : evFn Try.prog O29 L Try.f29.results.toList c29 [V .u64 a0, V .u64 a1] kk = T29t L a0 a1 (fun x => kk (V .u64 x)) := by
  have h : evFn Try.prog O29 L Try.f29.results.toList c29 [V .u64 a0, V .u64 a1] kk = ((fun (k : Int → Prop) => (loopN (evC Try.prog O29 L c29.r.l.l.l) [0, 1, 4] [] L (sh29_1 0 a0 a1) (kBlock 0 (kSeq (evC Try.prog O29 L c29.r.r) (kEnd Try.prog Try.f29.results.toList kk))))) (fun x => kk (V .u64 x))) := by kernel_rfl
  rw [h]
  simp only [le29_1]
  show _ = _
  kernel_rfl
theorem g29 (L : Nat) (a0 : Int) (a1 : Int) (r : Int) (h : T29t L a0 a1 (fun x => x = r)) (hm : ∀ p q : Int → Prop, (∀ x, p x → q x) → T29t L a0 a1 p → T29t L a0 a1 q) : Holds Try.prog 29 [V .u64 a0, V .u64 a1] (V .u64 r) := by
  refine holds_of_ev s29 mixed L Try.func29 (by kernel_rfl : cFn Try.prog Try.f29 = some c29) _ _ (by kernel_rfl) ?_
  rw [tree29]
  exact hm _ _ (fun x e => by rw [e]) h
/-- the greatest common divisor, of what is not negative -/
def F29 (a b : Int) : Option Int := if 0 ≤ a ∧ 0 ≤ b then some (Nat.gcd a.toNat b.toNat : Int) else none
theorem lp29 (c : Int) (kx : Int → Int → Prop) : ∀ (n : Nat) (a b : Int), 0 ≤ a → 0 ≤ b → b.toNat < n → kx (Nat.gcd a.toNat b.toNat : Int) 0 → lp29_1 c kx n a b
  | 0, _, _, _, _, h, _ => absurd h (by omega)
  | n + 1, a, b, ha, hb, h, hk => by
    unfold lp29_1 bd29_1
    by_cases e : b = 0
    · subst e
      refine br_false (by simp) ?_
      have : ((Nat.gcd a.toNat (0 : Int).toNat : Nat) : Int) = a := by simp; omega
      rw [this] at hk
      exact hk
    · refine br_true (by simpa using e) (br_true (by simpa using e) ?_)
      have h1 : Int.tmod a b = ((a.toNat % b.toNat : Nat) : Int) := by
        have h2 : (a.toNat : Int) = a := by omega
        have h3 : (b.toNat : Int) = b := by omega
        rw [← h2, ← h3]; simp [Int.tmod]
      have hlt : a.toNat % b.toNat < b.toNat := Nat.mod_lt _ (by omega)
      refine lp29 c kx n b _ hb (by omega) (by rw [h1]; omega) ?_
      rw [h1]
      have : Nat.gcd b.toNat ((a.toNat % b.toNat : Nat) : Int).toNat = Nat.gcd a.toNat b.toNat := by
        rw [Int.toNat_natCast, Nat.gcd_comm a.toNat b.toNat, Nat.gcd_rec b.toNat a.toNat, Nat.gcd_comm]
      rw [this]; exact hk
theorem h29 (a b : Int) (r : Int) (h : F29 a b = some r) : Holds Try.prog 29 [V .u64 a, V .u64 b] (V .u64 r) := by
  unfold F29 at h
  split at h
  · rename_i hh
    injection h with h
    subst h
    refine holds_of_ev s29 mixed (b.toNat + 1) Try.func29 (by kernel_rfl : cFn Try.prog Try.f29 = some c29) _ _ (by kernel_rfl) ?_
    rw [tree29]
    exact lp29 _ _ _ a b hh.1 hh.2 (by omega) rfl
  · cases h
/-! ### simulator/frac.size -/
noncomputable def c30 : EC := (cFn Try.prog Try.f30).getD .skip
def O30 : Oracle := noC
theorem s30 : SoundC Try.prog O30 := (noC_sound Try.prog)
def T30t (a0 : Int) (k : Int → Prop) : Prop :=
 (br (decide (a0 < 0))
 (k ((IntKind.wrap .u64 (0 - (IntKind.wrap .u64 (a0))))))
 (k ((IntKind.wrap .u64 (a0)))))
theorem tree30 (L : Nat) (a0 : Int) (kk : PV → Prop) : evFn Try.prog O30 L Try.f30.results.toList c30 [I a0] kk = T30t a0 (fun x => kk (V .u64 x)) := by
  kernel_rfl
def F30 (a0 : Int) : Int :=
 (bif decide (a0 < 0) then (IntKind.wrap .u64 (0 - (IntKind.wrap .u64 (a0))))
 else (IntKind.wrap .u64 (a0)))
theorem T30e (a0 : Int) (k : Int → Prop) : T30t a0 k = k (F30 a0) := by
  unfold T30t F30
  simp only [br_k k]
theorem h30 (a0 : Int) : Holds Try.prog 30 [I a0] (V .u64 (F30 a0)) := by
  refine holds_of_ev s30 mixed 0 Try.func30 (by kernel_rfl : cFn Try.prog Try.f30 = some c30) _ _ (by kernel_rfl) ?_
  rw [tree30, T30e]

/-! ### simulator/frac.made -/
noncomputable def c31 : EC := (cFn Try.prog Try.f31).getD .skip
def O31 : Oracle := noC
theorem s31 : SoundC Try.prog O31 := (noC_sound Try.prog)
def T31t (a0 : Bool) (a1 : Int) (a2 : Int) (k : (T37 × Bool) → Prop) : Prop :=
 (br (decide (a1 > 4611686018427387904))
 (k (((⟨0, 0⟩ : T37), false)))
 (br (decide (a2 > 1000000000000000))
 (k (((⟨0, 0⟩ : T37), false)))
 (br (a0)
 (k (((⟨(w64 (0 - (w64 (a1)))), (w64 (a2))⟩ : T37), true)))
 (k (((⟨(w64 (a1)), (w64 (a2))⟩ : T37), true))))))
theorem tree31 (L : Nat) (a0 : Bool) (a1 : Int) (a2 : Int) (kk : PV → Prop) : evFn Try.prog O31 L Try.f31.results.toList c31 [B a0, V .u64 a1, V .u64 a2] kk = T31t a0 a1 a2 (fun x => kk (.tup [.agg [I x.1.N, I x.1.D], B x.2])) := by
  kernel_rfl
def F31 (a0 : Bool) (a1 : Int) (a2 : Int) : (T37 × Bool) :=
 (bif decide (a1 > 4611686018427387904) then ((⟨0, 0⟩ : T37), false)
 else (bif decide (a2 > 1000000000000000) then ((⟨0, 0⟩ : T37), false)
 else (bif a0 then ((⟨(w64 (0 - (w64 (a1)))), (w64 (a2))⟩ : T37), true)
 else ((⟨(w64 (a1)), (w64 (a2))⟩ : T37), true))))
theorem T31e (a0 : Bool) (a1 : Int) (a2 : Int) (k : (T37 × Bool) → Prop) : T31t a0 a1 a2 k = k (F31 a0 a1 a2) := by
  unfold T31t F31
  simp only [br_k k]
theorem h31 (a0 : Bool) (a1 : Int) (a2 : Int) : Holds Try.prog 31 [B a0, V .u64 a1, V .u64 a2] (.tup [.agg [I (F31 a0 a1 a2).1.N, I (F31 a0 a1 a2).1.D], B (F31 a0 a1 a2).2]) := by
  refine holds_of_ev s31 mixed 0 Try.func31 (by kernel_rfl : cFn Try.prog Try.f31 = some c31) _ _ (by kernel_rfl) ?_
  rw [tree31, T31e]

/-! ### simulator/frac.Of -/
noncomputable def c25 : EC := (cFn Try.prog Try.f25).getD .skip
def A30 : List PV → (PV → Prop) → Prop := fun args k => match args with
  | [.val (.int .i64 x1)] => k (V .u64 (F30 x1))
  | _ => False
theorem a30 (args : List PV) (k : PV → Prop) (h : A30 args k) : ∃ r, Holds Try.prog 30 args r ∧ k r := by
  unfold A30 at h
  split at h
  · exact ⟨_, h30 _, h⟩
  · exact h.elim
def A29 : List PV → (PV → Prop) → Prop := fun args k => match args with
  | [.val (.int .u64 x1), .val (.int .u64 x2)] => ob (F29 x1 x2) fun r => k (V .u64 r)
  | _ => False
theorem a29 (args : List PV) (k : PV → Prop) (h : A29 args k) : ∃ r, Holds Try.prog 29 args r ∧ k r := by
  unfold A29 at h
  split at h
  · obtain ⟨r, h1, h2⟩ := ob_elim h
    exact ⟨_, h29 _ _ _ h1, h2⟩
  · exact h.elim
def A31 : List PV → (PV → Prop) → Prop := fun args k => match args with
  | [.val (.bool x1), .val (.int .u64 x2), .val (.int .u64 x3)] => k (.tup [.agg [I (F31 x1 x2 x3).1.N, I (F31 x1 x2 x3).1.D], B (F31 x1 x2 x3).2])
  | _ => False
theorem a31 (args : List PV) (k : PV → Prop) (h : A31 args k) : ∃ r, Holds Try.prog 31 args r ∧ k r := by
  unfold A31 at h
  split at h
  · exact ⟨_, h31 _ _ _, h⟩
  · exact h.elim
def O25 : Oracle := (orc 30 A30 (orc 29 A29 (orc 31 A31 noC)))
theorem s25 : SoundC Try.prog O25 := (orc_sound a30 (orc_sound a29 (orc_sound a31 (noC_sound Try.prog))))
def T25t (a0 : Int) (a1 : Int) (k : (T37 × Bool) → Prop) : Prop :=
 (br ((a1 == 0))
 (k (((⟨0, 0⟩ : T37), false)))
 (ob (F29 (F30 a0) (F30 a1)) fun r1 =>
 (br (!decide (r1 = 0))
 (br (!decide (r1 = 0))
 (k (((F31 (!(decide (a0 < 0) == decide (a1 < 0))) (IntKind.wrap .u64 (Int.tdiv (F30 a0) r1)) (IntKind.wrap .u64 (Int.tdiv (F30 a1) r1))).1, (F31 (!(decide (a0 < 0) == decide (a1 < 0))) (IntKind.wrap .u64 (Int.tdiv (F30 a0) r1)) (IntKind.wrap .u64 (Int.tdiv (F30 a1) r1))).2)))
 False)
 False)))
theorem tree25 (L : Nat) (a0 : Int) (a1 : Int) (kk : PV → Prop) : evFn Try.prog O25 L Try.f25.results.toList c25 [I a0, I a1] kk = T25t a0 a1 (fun x => kk (.tup [.agg [I x.1.N, I x.1.D], B x.2])) := by
  kernel_rfl
def F25 (a0 : Int) (a1 : Int) : Option (T37 × Bool) :=
 (bif (a1 == 0) then some (((⟨0, 0⟩ : T37), false))
 else (Option.bind (F29 (F30 a0) (F30 a1)) fun r1 =>
 (bif !decide (r1 = 0) then (bif !decide (r1 = 0) then some (((F31 (!(decide (a0 < 0) == decide (a1 < 0))) (IntKind.wrap .u64 (Int.tdiv (F30 a0) r1)) (IntKind.wrap .u64 (Int.tdiv (F30 a1) r1))).1, (F31 (!(decide (a0 < 0) == decide (a1 < 0))) (IntKind.wrap .u64 (Int.tdiv (F30 a0) r1)) (IntKind.wrap .u64 (Int.tdiv (F30 a1) r1))).2))
 else none)
 else none)))
theorem T25e (a0 : Int) (a1 : Int) (k : (T37 × Bool) → Prop) : T25t a0 a1 k = ob (F25 a0 a1) k := by
  unfold T25t F25
  simp only [leaf_ob k, false_ob k, br_ob k, ob_ob k, and_ob k]
theorem h25 (a0 : Int) (a1 : Int) (r : (T37 × Bool)) (h : F25 a0 a1 = some r) : Holds Try.prog 25 [I a0, I a1] (.tup [.agg [I r.1.N, I r.1.D], B r.2]) := by
  refine holds_of_ev s25 mixed 0 Try.func25 (by kernel_rfl : cFn Try.prog Try.f25 = some c25) _ _ (by kernel_rfl) ?_
  rw [tree25, T25e]
  exact ob_some h rfl

/-! ### simulator/level.Mean -/
noncomputable def c12 : EC := (cFn Try.prog Try.f12).getD .skip
def A10 : List PV → (PV → Prop) → Prop := fun args k => match args with
  | [.agg [.val (.int .i64 x1), .val (.int .i64 x2), .val (.int .i64 x3), .val (.int .i64 x4), .val (.int .i64 x5), .val (.int .i64 x6)], .val (.int .i64 x7)] => k (.tup [I (F10 (⟨x1, x2, x3, x4, x5, x6⟩ : T26) x7).1, B (F10 (⟨x1, x2, x3, x4, x5, x6⟩ : T26) x7).2])
  | _ => False
theorem a10 (args : List PV) (k : PV → Prop) (h : A10 args k) : ∃ r, Holds Try.prog 10 args r ∧ k r := by
  unfold A10 at h
  split at h
  · exact ⟨_, h10 (T26.mk _ _ _ _ _ _) _, h⟩
  · exact h.elim
def A25 : List PV → (PV → Prop) → Prop := fun args k => match args with
  | [.val (.int .i64 x1), .val (.int .i64 x2)] => ob (F25 x1 x2) fun r => k (.tup [.agg [I r.1.N, I r.1.D], B r.2])
  | _ => False
theorem a25 (args : List PV) (k : PV → Prop) (h : A25 args k) : ∃ r, Holds Try.prog 25 args r ∧ k r := by
  unfold A25 at h
  split at h
  · obtain ⟨r, h1, h2⟩ := ob_elim h
    exact ⟨_, h25 _ _ _ h1, h2⟩
  · exact h.elim
def O12 : Oracle := (orc 10 A10 (orc 25 A25 noC))
theorem s12 : SoundC Try.prog O12 := (orc_sound a10 (orc_sound a25 (noC_sound Try.prog)))
def T12t (a0 : T26) (a1 : Int) (k : (T37 × Bool) → Prop) : Prop :=
 (br ((!((F10 a0 a1).2)))
 (k (((⟨0, 0⟩ : T37), false)))
 (ob (F25 ((F10 a0 a1).1) (w64 (a1 - a0.Begin))) fun r1 =>
 (k ((r1.1, r1.2)))))
theorem tree12 (L : Nat) (a0 : T26) (a1 : Int) (kk : PV → Prop) : evFn Try.prog O12 L Try.f12.results.toList c12 [.agg [I a0.Value, I a0.Since, I a0.Begin, I a0.Area, I a0.Min, I a0.Max], I a1] kk = T12t a0 a1 (fun x => kk (.tup [.agg [I x.1.N, I x.1.D], B x.2])) := by
  kernel_rfl
def F12 (a0 : T26) (a1 : Int) : Option (T37 × Bool) :=
 (bif (!((F10 a0 a1).2)) then some (((⟨0, 0⟩ : T37), false))
 else (Option.bind (F25 ((F10 a0 a1).1) (w64 (a1 - a0.Begin))) fun r1 =>
 some ((r1.1, r1.2))))
theorem T12e (a0 : T26) (a1 : Int) (k : (T37 × Bool) → Prop) : T12t a0 a1 k = ob (F12 a0 a1) k := by
  unfold T12t F12
  simp only [leaf_ob k, false_ob k, br_ob k, ob_ob k, and_ob k]
theorem h12 (a0 : T26) (a1 : Int) (r : (T37 × Bool)) (h : F12 a0 a1 = some r) : Holds Try.prog 12 [.agg [I a0.Value, I a0.Since, I a0.Begin, I a0.Area, I a0.Min, I a0.Max], I a1] (.tup [.agg [I r.1.N, I r.1.D], B r.2]) := by
  refine holds_of_ev s12 mixed 0 Try.func12 (by kernel_rfl : cFn Try.prog Try.f12 = some c12) _ _ (by kernel_rfl) ?_
  rw [tree12, T12e]
  exact ob_some h rfl

/-! ### simulator/simulatorlaw28.awake -/
noncomputable def c9 : EC := (cFn Try.prog Try.f9).getD .skip
def A11 : List PV → (PV → Prop) → Prop := fun args k => match args with
  | [.agg [.val (.int .i64 x1), .val (.int .i64 x2), .val (.int .i64 x3), .val (.int .i64 x4), .val (.int .i64 x5), .val (.int .i64 x6)], .val (.int .i64 x7), .val (.int .i64 x8)] => k (.tup [.agg [I (F11 (⟨x1, x2, x3, x4, x5, x6⟩ : T26) x7 x8).1.Value, I (F11 (⟨x1, x2, x3, x4, x5, x6⟩ : T26) x7 x8).1.Since, I (F11 (⟨x1, x2, x3, x4, x5, x6⟩ : T26) x7 x8).1.Begin, I (F11 (⟨x1, x2, x3, x4, x5, x6⟩ : T26) x7 x8).1.Area, I (F11 (⟨x1, x2, x3, x4, x5, x6⟩ : T26) x7 x8).1.Min, I (F11 (⟨x1, x2, x3, x4, x5, x6⟩ : T26) x7 x8).1.Max], I (F11 (⟨x1, x2, x3, x4, x5, x6⟩ : T26) x7 x8).2])
  | _ => False
theorem a11 (args : List PV) (k : PV → Prop) (h : A11 args k) : ∃ r, Holds Try.prog 11 args r ∧ k r := by
  unfold A11 at h
  split at h
  · exact ⟨_, h11 (T26.mk _ _ _ _ _ _) _ _, h⟩
  · exact h.elim
def A12 : List PV → (PV → Prop) → Prop := fun args k => match args with
  | [.agg [.val (.int .i64 x1), .val (.int .i64 x2), .val (.int .i64 x3), .val (.int .i64 x4), .val (.int .i64 x5), .val (.int .i64 x6)], .val (.int .i64 x7)] => ob (F12 (⟨x1, x2, x3, x4, x5, x6⟩ : T26) x7) fun r => k (.tup [.agg [I r.1.N, I r.1.D], B r.2])
  | _ => False
theorem a12 (args : List PV) (k : PV → Prop) (h : A12 args k) : ∃ r, Holds Try.prog 12 args r ∧ k r := by
  unfold A12 at h
  split at h
  · obtain ⟨r, h1, h2⟩ := ob_elim h
    exact ⟨_, h12 (T26.mk _ _ _ _ _ _) _ _ h1, h2⟩
  · exact h.elim
def O9 : Oracle := (orc 8 A8 (orc 11 A11 (orc 10 A10 (orc 12 A12 (orc 13 A13 noC)))))
theorem s9 : SoundC Try.prog O9 := (orc_sound a8 (orc_sound a11 (orc_sound a10 (orc_sound a12 (orc_sound a13 (noC_sound Try.prog))))))
def T9t  (k : Bool → Prop) : Prop :=
 (ob (F12 ((F11 ((F8 3 2).1) 5 6).1) 10) fun r1 =>
 (ob (F12 ((F8 3 2).1) 2) fun r2 =>
 (br (((F8 3 2).2 != 0))
 (k (false))
 (br (((F11 ((F8 3 2).1) 5 6).2 != 0))
 (k (false))
 (br (((F11 ((F8 3 2).1) 5 6).1.Area != 12))
 (k (false))
 (br (((F11 ((F8 3 2).1) 5 6).1.Min != 3))
 (k (false))
 (br (((F11 ((F8 3 2).1) 5 6).1.Max != 5))
 (k (false))
 (br (((F10 ((F11 ((F8 3 2).1) 5 6).1) 10).1 != 32))
 (k (false))
 (br ((!((F10 ((F11 ((F8 3 2).1) 5 6).1) 10).2)))
 (k (false))
 (br ((!((r1.1.N == 4) && ((r1.1.D == 1) && true))))
 (k (false))
 (br ((!r1.2))
 (k (false))
 (br (r2.2)
 (k (false))
 (br (((F11 ((F11 ((F8 3 2).1) 5 6).1) 5 5).2 == 12))
 (br (((F11 ((F11 ((F8 3 2).1) 5 6).1) 100 6).2 == 0))
 (br (((F11 ((F11 ((F8 3 2).1) 5 6).1) 100 6).1.Area == 12))
 (br (((F11 ((F11 ((F8 3 2).1) 5 6).1) 100 6).1.Max == 100))
 (br (((F13 ((F11 ((F11 ((F8 3 2).1) 5 6).1) 100 6).1)) == 0))
 (k (((F13 (⟨0, (-1), 0, 0, 0, 0⟩ : T26)) == 2)))
 (k (false)))
 (k (false)))
 (k (false)))
 (k (false)))
 (k (false)))))))))))))))
theorem tree9 (L : Nat)  (kk : PV → Prop) : evFn Try.prog O9 L Try.f9.results.toList c9 [] kk = T9t  (fun x => kk (B x)) := by
  kernel_rfl
def F9  : Option Bool :=
 (Option.bind (F12 ((F11 ((F8 3 2).1) 5 6).1) 10) fun r1 =>
 (Option.bind (F12 ((F8 3 2).1) 2) fun r2 =>
 (bif ((F8 3 2).2 != 0) then some (false)
 else (bif ((F11 ((F8 3 2).1) 5 6).2 != 0) then some (false)
 else (bif ((F11 ((F8 3 2).1) 5 6).1.Area != 12) then some (false)
 else (bif ((F11 ((F8 3 2).1) 5 6).1.Min != 3) then some (false)
 else (bif ((F11 ((F8 3 2).1) 5 6).1.Max != 5) then some (false)
 else (bif ((F10 ((F11 ((F8 3 2).1) 5 6).1) 10).1 != 32) then some (false)
 else (bif (!((F10 ((F11 ((F8 3 2).1) 5 6).1) 10).2)) then some (false)
 else (bif (!((r1.1.N == 4) && ((r1.1.D == 1) && true))) then some (false)
 else (bif (!r1.2) then some (false)
 else (bif r2.2 then some (false)
 else (bif ((F11 ((F11 ((F8 3 2).1) 5 6).1) 5 5).2 == 12) then (bif ((F11 ((F11 ((F8 3 2).1) 5 6).1) 100 6).2 == 0) then (bif ((F11 ((F11 ((F8 3 2).1) 5 6).1) 100 6).1.Area == 12) then (bif ((F11 ((F11 ((F8 3 2).1) 5 6).1) 100 6).1.Max == 100) then (bif ((F13 ((F11 ((F11 ((F8 3 2).1) 5 6).1) 100 6).1)) == 0) then some (((F13 (⟨0, (-1), 0, 0, 0, 0⟩ : T26)) == 2))
 else some (false))
 else some (false))
 else some (false))
 else some (false))
 else some (false))))))))))))))
theorem T9e  (k : Bool → Prop) : T9t  k = ob (F9 ) k := by
  unfold T9t F9
  simp only [leaf_ob k, false_ob k, br_ob k, ob_ob k, and_ob k]
theorem h9  (r : Bool) (h : F9  = some r) : Holds Try.prog 9 [] (B r) := by
  refine holds_of_ev s9 mixed 0 Try.func9 (by kernel_rfl : cFn Try.prog Try.f9 = some c9) _ _ (by kernel_rfl) ?_
  rw [tree9, T9e]
  exact ob_some h rfl
end Go.Proofs.Ytflfeikkcpcdiaa.Ev
