import Derived.Test.YtflfeikkcpcdiaaLa
namespace Go.Proofs.Ytflfeikkcpcdiaa.Ev
open Go
set_option maxRecDepth 100000
set_option linter.unusedVariables false
set_option linter.unusedSimpArgs false
set_option linter.unnecessarySimpa false
theorem F9t : F9 = some true := by kernel_rfl
theorem h9t : Holds Try.prog 9 [] (B true) := h9 true F9t
/-! ### simulator/simulatorlaw28.LevelStays -/
noncomputable def c4 : EC := (cFn Try.prog Try.f4).getD .skip
def A9 : List PV → (PV → Prop) → Prop := fun args k => match args with
  | [] => k (B true)
  | _ => False
theorem a9 (args : List PV) (k : PV → Prop) (h : A9 args k) : ∃ r, Holds Try.prog 9 args r ∧ k r := by
  unfold A9 at h
  split at h
  · exact ⟨_, h9t , h⟩
  · exact h.elim
def O4 : Oracle := (orc 13 A13 (orc 9 A9 (orc 11 A11 (orc 10 A10 (orc 12 A12 noC)))))
theorem s4 : SoundC Try.prog O4 := (orc_sound a13 (orc_sound a9 (orc_sound a11 (orc_sound a10 (orc_sound a12 (noC_sound Try.prog))))))
def T4t (a0 : T26) (a1 : Int) (a2 : Int) (k : Bool → Prop) : Prop :=
 (br (((F13 a0) != 0))
 (k (true))
 (br (decide ((w64 ((w64 (a0.Since + (w64 (a1)))) + (w64 (a2)))) > 1000000000))
 (k (true))
 (ob (F12 a0 (w64 ((w64 (a0.Since + (w64 (a1)))) + (w64 (a2))))) fun r1 =>
 (ob (F12 ((F11 a0 a0.Value (w64 (a0.Since + (w64 (a1))))).1) (w64 ((w64 (a0.Since + (w64 (a1)))) + (w64 (a2))))) fun r2 =>
 (br (((F11 a0 a0.Value (w64 (a0.Since + (w64 (a1))))).2 == 0))
 (br ((F10 a0 (w64 ((w64 (a0.Since + (w64 (a1)))) + (w64 (a2))))).2)
 (br ((F10 ((F11 a0 a0.Value (w64 (a0.Since + (w64 (a1))))).1) (w64 ((w64 (a0.Since + (w64 (a1)))) + (w64 (a2))))).2)
 (br (((F10 a0 (w64 ((w64 (a0.Since + (w64 (a1)))) + (w64 (a2))))).1 == (F10 ((F11 a0 a0.Value (w64 (a0.Since + (w64 (a1))))).1) (w64 ((w64 (a0.Since + (w64 (a1)))) + (w64 (a2))))).1))
 (br (((r1.1.N == r2.1.N) && ((r1.1.D == r2.1.D) && true)))
 (br ((r1.2 == r2.2))
 (br (((F11 a0 a0.Value (w64 (a0.Since + (w64 (a1))))).1.Min == a0.Min))
 (br (((F11 a0 a0.Value (w64 (a0.Since + (w64 (a1))))).1.Max == a0.Max))
 (k (true))
 (k (false)))
 (k (false)))
 (k (false)))
 (k (false)))
 (k (false)))
 (k (false)))
 (k (false)))
 (k (false)))))))
theorem tree4 (L : Nat) (a0 : T26) (a1 : Int) (a2 : Int) (kk : PV → Prop) : evFn Try.prog O4 L Try.f4.results.toList c4 [.agg [I a0.Value, I a0.Since, I a0.Begin, I a0.Area, I a0.Min, I a0.Max], V .u16 a1, V .u16 a2] kk = T4t a0 a1 a2 (fun x => kk (B x)) := by
  kernel_rfl
def F4 (a0 : T26) (a1 : Int) (a2 : Int) : Option Bool :=
 (bif ((F13 a0) != 0) then some (true)
 else (bif decide ((w64 ((w64 (a0.Since + (w64 (a1)))) + (w64 (a2)))) > 1000000000) then some (true)
 else (Option.bind (F12 a0 (w64 ((w64 (a0.Since + (w64 (a1)))) + (w64 (a2))))) fun r1 =>
 (Option.bind (F12 ((F11 a0 a0.Value (w64 (a0.Since + (w64 (a1))))).1) (w64 ((w64 (a0.Since + (w64 (a1)))) + (w64 (a2))))) fun r2 =>
 (bif ((F11 a0 a0.Value (w64 (a0.Since + (w64 (a1))))).2 == 0) then (bif (F10 a0 (w64 ((w64 (a0.Since + (w64 (a1)))) + (w64 (a2))))).2 then (bif (F10 ((F11 a0 a0.Value (w64 (a0.Since + (w64 (a1))))).1) (w64 ((w64 (a0.Since + (w64 (a1)))) + (w64 (a2))))).2 then (bif ((F10 a0 (w64 ((w64 (a0.Since + (w64 (a1)))) + (w64 (a2))))).1 == (F10 ((F11 a0 a0.Value (w64 (a0.Since + (w64 (a1))))).1) (w64 ((w64 (a0.Since + (w64 (a1)))) + (w64 (a2))))).1) then (bif ((r1.1.N == r2.1.N) && ((r1.1.D == r2.1.D) && true)) then (bif (r1.2 == r2.2) then (bif ((F11 a0 a0.Value (w64 (a0.Since + (w64 (a1))))).1.Min == a0.Min) then (bif ((F11 a0 a0.Value (w64 (a0.Since + (w64 (a1))))).1.Max == a0.Max) then some (true)
 else some (false))
 else some (false))
 else some (false))
 else some (false))
 else some (false))
 else some (false))
 else some (false))
 else some (false))))))
theorem T4e (a0 : T26) (a1 : Int) (a2 : Int) (k : Bool → Prop) : T4t a0 a1 a2 k = ob (F4 a0 a1 a2) k := by
  unfold T4t F4
  simp only [leaf_ob k, false_ob k, br_ob k, ob_ob k, and_ob k]
theorem h4 (a0 : T26) (a1 : Int) (a2 : Int) (r : Bool) (h : F4 a0 a1 a2 = some r) : Holds Try.prog 4 [.agg [I a0.Value, I a0.Since, I a0.Begin, I a0.Area, I a0.Min, I a0.Max], V .u16 a1, V .u16 a2] (B r) := by
  refine holds_of_ev s4 mixed 0 Try.func4 (by kernel_rfl : cFn Try.prog Try.f4 = some c4) _ _ (by kernel_rfl) ?_
  rw [tree4, T4e]
  exact ob_some h rfl
/-! ### simulator/simulatorlaw28.LevelValid -/
noncomputable def c6 : EC := (cFn Try.prog Try.f6).getD .skip
def A16 : List PV → (PV → Prop) → Prop := fun args k => match args with
  | [.agg [.val (.int .i64 x1), .val (.int .i64 x2), .val (.int .i64 x3), .val (.int .i64 x4), .val (.int .i64 x5), .val (.int .i64 x6)], .val (.int .i64 x7)] => k (.tup [.agg [I (F16 (⟨x1, x2, x3, x4, x5, x6⟩ : T26) x7).1.Value, I (F16 (⟨x1, x2, x3, x4, x5, x6⟩ : T26) x7).1.Since, I (F16 (⟨x1, x2, x3, x4, x5, x6⟩ : T26) x7).1.Begin, I (F16 (⟨x1, x2, x3, x4, x5, x6⟩ : T26) x7).1.Area, I (F16 (⟨x1, x2, x3, x4, x5, x6⟩ : T26) x7).1.Min, I (F16 (⟨x1, x2, x3, x4, x5, x6⟩ : T26) x7).1.Max], I (F16 (⟨x1, x2, x3, x4, x5, x6⟩ : T26) x7).2])
  | _ => False
theorem a16 (args : List PV) (k : PV → Prop) (h : A16 args k) : ∃ r, Holds Try.prog 16 args r ∧ k r := by
  unfold A16 at h
  split at h
  · exact ⟨_, h16 (T26.mk _ _ _ _ _ _) _, h⟩
  · exact h.elim
def O6 : Oracle := (orc 8 A8 (orc 11 A11 (orc 16 A16 (orc 13 A13 (orc 9 A9 noC)))))
theorem s6 : SoundC Try.prog O6 := (orc_sound a8 (orc_sound a11 (orc_sound a16 (orc_sound a13 (orc_sound a9 (noC_sound Try.prog))))))
def T6t (a0 : T26) (a1 : Int) (a2 : Int) (k : Bool → Prop) : Prop :=
 (br (((F8 a1 a2).2 == 0))
 (br (((F13 ((F8 a1 a2).1)) != 0))
 (k (false))
 (br (((F8 a1 a2).1.Value != a1))
 (k (false))
 (br (((F8 a1 a2).1.Begin != a2))
 (k (false))
 (br (((F11 a0 a1 a2).2 == 0))
 (br (((F13 ((F11 a0 a1 a2).1)) != 0))
 (k (false))
 (br (((F11 a0 a1 a2).1.Value != a1))
 (k (false))
 (br (((F11 a0 a1 a2).1.Since != a2))
 (k (false))
 (br (((F11 a0 a1 a2).1.Begin != a0.Begin))
 (k (false))
 (br (((F16 a0 a2).2 != 0))
 (k (true))
 (br (((F13 ((F16 a0 a2).1)) == 0))
 (br (((F16 a0 a2).1.Value == a0.Value))
 (br (((F16 a0 a2).1.Begin == a2))
 (br (((F16 a0 a2).1.Min == a0.Value))
 (k (true))
 (k (false)))
 (k (false)))
 (k (false)))
 (k (false))))))))
 (br (((F16 a0 a2).2 != 0))
 (k (true))
 (br (((F13 ((F16 a0 a2).1)) == 0))
 (br (((F16 a0 a2).1.Value == a0.Value))
 (br (((F16 a0 a2).1.Begin == a2))
 (br (((F16 a0 a2).1.Min == a0.Value))
 (k (true))
 (k (false)))
 (k (false)))
 (k (false)))
 (k (false))))))))
 (br (((F11 a0 a1 a2).2 == 0))
 (br (((F13 ((F11 a0 a1 a2).1)) != 0))
 (k (false))
 (br (((F11 a0 a1 a2).1.Value != a1))
 (k (false))
 (br (((F11 a0 a1 a2).1.Since != a2))
 (k (false))
 (br (((F11 a0 a1 a2).1.Begin != a0.Begin))
 (k (false))
 (br (((F16 a0 a2).2 != 0))
 (k (true))
 (br (((F13 ((F16 a0 a2).1)) == 0))
 (br (((F16 a0 a2).1.Value == a0.Value))
 (br (((F16 a0 a2).1.Begin == a2))
 (br (((F16 a0 a2).1.Min == a0.Value))
 (k (true))
 (k (false)))
 (k (false)))
 (k (false)))
 (k (false))))))))
 (br (((F16 a0 a2).2 != 0))
 (k (true))
 (br (((F13 ((F16 a0 a2).1)) == 0))
 (br (((F16 a0 a2).1.Value == a0.Value))
 (br (((F16 a0 a2).1.Begin == a2))
 (br (((F16 a0 a2).1.Min == a0.Value))
 (k (true))
 (k (false)))
 (k (false)))
 (k (false)))
 (k (false))))))
theorem tree6 (L : Nat) (a0 : T26) (a1 : Int) (a2 : Int) (kk : PV → Prop) : evFn Try.prog O6 L Try.f6.results.toList c6 [.agg [I a0.Value, I a0.Since, I a0.Begin, I a0.Area, I a0.Min, I a0.Max], I a1, I a2] kk = T6t a0 a1 a2 (fun x => kk (B x)) := by
  kernel_rfl
def F6 (a0 : T26) (a1 : Int) (a2 : Int) : Option Bool :=
 (bif ((F8 a1 a2).2 == 0) then (bif ((F13 ((F8 a1 a2).1)) != 0) then some (false)
 else (bif ((F8 a1 a2).1.Value != a1) then some (false)
 else (bif ((F8 a1 a2).1.Begin != a2) then some (false)
 else (bif ((F11 a0 a1 a2).2 == 0) then (bif ((F13 ((F11 a0 a1 a2).1)) != 0) then some (false)
 else (bif ((F11 a0 a1 a2).1.Value != a1) then some (false)
 else (bif ((F11 a0 a1 a2).1.Since != a2) then some (false)
 else (bif ((F11 a0 a1 a2).1.Begin != a0.Begin) then some (false)
 else (bif ((F16 a0 a2).2 != 0) then some (true)
 else (bif ((F13 ((F16 a0 a2).1)) == 0) then (bif ((F16 a0 a2).1.Value == a0.Value) then (bif ((F16 a0 a2).1.Begin == a2) then (bif ((F16 a0 a2).1.Min == a0.Value) then some (true)
 else some (false))
 else some (false))
 else some (false))
 else some (false)))))))
 else (bif ((F16 a0 a2).2 != 0) then some (true)
 else (bif ((F13 ((F16 a0 a2).1)) == 0) then (bif ((F16 a0 a2).1.Value == a0.Value) then (bif ((F16 a0 a2).1.Begin == a2) then (bif ((F16 a0 a2).1.Min == a0.Value) then some (true)
 else some (false))
 else some (false))
 else some (false))
 else some (false)))))))
 else (bif ((F11 a0 a1 a2).2 == 0) then (bif ((F13 ((F11 a0 a1 a2).1)) != 0) then some (false)
 else (bif ((F11 a0 a1 a2).1.Value != a1) then some (false)
 else (bif ((F11 a0 a1 a2).1.Since != a2) then some (false)
 else (bif ((F11 a0 a1 a2).1.Begin != a0.Begin) then some (false)
 else (bif ((F16 a0 a2).2 != 0) then some (true)
 else (bif ((F13 ((F16 a0 a2).1)) == 0) then (bif ((F16 a0 a2).1.Value == a0.Value) then (bif ((F16 a0 a2).1.Begin == a2) then (bif ((F16 a0 a2).1.Min == a0.Value) then some (true)
 else some (false))
 else some (false))
 else some (false))
 else some (false)))))))
 else (bif ((F16 a0 a2).2 != 0) then some (true)
 else (bif ((F13 ((F16 a0 a2).1)) == 0) then (bif ((F16 a0 a2).1.Value == a0.Value) then (bif ((F16 a0 a2).1.Begin == a2) then (bif ((F16 a0 a2).1.Min == a0.Value) then some (true)
 else some (false))
 else some (false))
 else some (false))
 else some (false)))))
theorem T6e (a0 : T26) (a1 : Int) (a2 : Int) (k : Bool → Prop) : T6t a0 a1 a2 k = ob (F6 a0 a1 a2) k := by
  unfold T6t F6
  simp only [leaf_ob k, false_ob k, br_ob k, ob_ob k, and_ob k]
theorem h6 (a0 : T26) (a1 : Int) (a2 : Int) (r : Bool) (h : F6 a0 a1 a2 = some r) : Holds Try.prog 6 [.agg [I a0.Value, I a0.Since, I a0.Begin, I a0.Area, I a0.Min, I a0.Max], I a1, I a2] (B r) := by
  refine holds_of_ev s6 mixed 0 Try.func6 (by kernel_rfl : cFn Try.prog Try.f6 = some c6) _ _ (by kernel_rfl) ?_
  rw [tree6, T6e]
  exact ob_some h rfl
/-! ### simulator/simulatorlaw28.LevelAgain -/
noncomputable def c7 : EC := (cFn Try.prog Try.f7).getD .skip
def O7 : Oracle := (orc 13 A13 (orc 9 A9 (orc 16 A16 (orc 11 A11 (orc 10 A10 noC)))))
theorem s7 : SoundC Try.prog O7 := (orc_sound a13 (orc_sound a9 (orc_sound a16 (orc_sound a11 (orc_sound a10 (noC_sound Try.prog))))))
def T7t (a0 : T26) (a1 : Int) (a2 : Int) (a3 : Int) (k : Bool → Prop) : Prop :=
 (br (((F13 a0) != 0))
 (k (true))
 (br (decide ((w64 ((w64 (a0.Since + (w64 (a2)))) + (w64 (a3)))) > 1000000000))
 (k (true))
 (br (decide (a1 < (-1000000)))
 (k (true))
 (br (decide (a1 > 1000000))
 (k (true))
 (br (((F16 a0 (w64 (a0.Since + (w64 (a2))))).2 == 0))
 (br (((F11 ((F16 a0 (w64 (a0.Since + (w64 (a2))))).1) a1 (w64 ((w64 (a0.Since + (w64 (a2)))) + (w64 (a3))))).2 == 0))
 (br (((F11 a0 a1 (w64 ((w64 (a0.Since + (w64 (a2)))) + (w64 (a3))))).2 == 0))
 (br ((F10 a0 (w64 (a0.Since + (w64 (a2))))).2)
 (br ((F10 ((F11 ((F16 a0 (w64 (a0.Since + (w64 (a2))))).1) a1 (w64 ((w64 (a0.Since + (w64 (a2)))) + (w64 (a3))))).1) (w64 ((w64 (a0.Since + (w64 (a2)))) + (w64 (a3))))).2)
 (br ((F10 ((F11 a0 a1 (w64 ((w64 (a0.Since + (w64 (a2)))) + (w64 (a3))))).1) (w64 ((w64 (a0.Since + (w64 (a2)))) + (w64 (a3))))).2)
 (br (((w64 ((F10 a0 (w64 (a0.Since + (w64 (a2))))).1 + (F10 ((F11 ((F16 a0 (w64 (a0.Since + (w64 (a2))))).1) a1 (w64 ((w64 (a0.Since + (w64 (a2)))) + (w64 (a3))))).1) (w64 ((w64 (a0.Since + (w64 (a2)))) + (w64 (a3))))).1)) == (F10 ((F11 a0 a1 (w64 ((w64 (a0.Since + (w64 (a2)))) + (w64 (a3))))).1) (w64 ((w64 (a0.Since + (w64 (a2)))) + (w64 (a3))))).1))
 (k (true))
 (k (false)))
 (k (false)))
 (k (false)))
 (k (false)))
 (k (false)))
 (k (false)))
 (k (false)))))))
theorem tree7 (L : Nat) (a0 : T26) (a1 : Int) (a2 : Int) (a3 : Int) (kk : PV → Prop) : evFn Try.prog O7 L Try.f7.results.toList c7 [.agg [I a0.Value, I a0.Since, I a0.Begin, I a0.Area, I a0.Min, I a0.Max], I a1, V .u16 a2, V .u16 a3] kk = T7t a0 a1 a2 a3 (fun x => kk (B x)) := by
  kernel_rfl
def F7 (a0 : T26) (a1 : Int) (a2 : Int) (a3 : Int) : Option Bool :=
 (bif ((F13 a0) != 0) then some (true)
 else (bif decide ((w64 ((w64 (a0.Since + (w64 (a2)))) + (w64 (a3)))) > 1000000000) then some (true)
 else (bif decide (a1 < (-1000000)) then some (true)
 else (bif decide (a1 > 1000000) then some (true)
 else (bif ((F16 a0 (w64 (a0.Since + (w64 (a2))))).2 == 0) then (bif ((F11 ((F16 a0 (w64 (a0.Since + (w64 (a2))))).1) a1 (w64 ((w64 (a0.Since + (w64 (a2)))) + (w64 (a3))))).2 == 0) then (bif ((F11 a0 a1 (w64 ((w64 (a0.Since + (w64 (a2)))) + (w64 (a3))))).2 == 0) then (bif (F10 a0 (w64 (a0.Since + (w64 (a2))))).2 then (bif (F10 ((F11 ((F16 a0 (w64 (a0.Since + (w64 (a2))))).1) a1 (w64 ((w64 (a0.Since + (w64 (a2)))) + (w64 (a3))))).1) (w64 ((w64 (a0.Since + (w64 (a2)))) + (w64 (a3))))).2 then (bif (F10 ((F11 a0 a1 (w64 ((w64 (a0.Since + (w64 (a2)))) + (w64 (a3))))).1) (w64 ((w64 (a0.Since + (w64 (a2)))) + (w64 (a3))))).2 then (bif ((w64 ((F10 a0 (w64 (a0.Since + (w64 (a2))))).1 + (F10 ((F11 ((F16 a0 (w64 (a0.Since + (w64 (a2))))).1) a1 (w64 ((w64 (a0.Since + (w64 (a2)))) + (w64 (a3))))).1) (w64 ((w64 (a0.Since + (w64 (a2)))) + (w64 (a3))))).1)) == (F10 ((F11 a0 a1 (w64 ((w64 (a0.Since + (w64 (a2)))) + (w64 (a3))))).1) (w64 ((w64 (a0.Since + (w64 (a2)))) + (w64 (a3))))).1) then some (true)
 else some (false))
 else some (false))
 else some (false))
 else some (false))
 else some (false))
 else some (false))
 else some (false))))))
theorem T7e (a0 : T26) (a1 : Int) (a2 : Int) (a3 : Int) (k : Bool → Prop) : T7t a0 a1 a2 a3 k = ob (F7 a0 a1 a2 a3) k := by
  unfold T7t F7
  simp only [leaf_ob k, false_ob k, br_ob k, ob_ob k, and_ob k]
theorem h7 (a0 : T26) (a1 : Int) (a2 : Int) (a3 : Int) (r : Bool) (h : F7 a0 a1 a2 a3 = some r) : Holds Try.prog 7 [.agg [I a0.Value, I a0.Since, I a0.Begin, I a0.Area, I a0.Min, I a0.Max], I a1, V .u16 a2, V .u16 a3] (B r) := by
  refine holds_of_ev s7 mixed 0 Try.func7 (by kernel_rfl : cFn Try.prog Try.f7 = some c7) _ _ (by kernel_rfl) ?_
  rw [tree7, T7e]
  exact ob_some h rfl
end Go.Proofs.Ytflfeikkcpcdiaa.Ev
