/-  The plain laws of chapter 28: what the functions compute, in arithmetic. -/
import Derived.Test.YtflfeikkcpcdiaaLc
namespace Go.Proofs.Ytflfeikkcpcdiaa.Ev
open Go
set_option linter.unusedVariables false
set_option linter.unusedSimpArgs false
set_option linter.unnecessarySimpa false

structure OK (l : T26) : Prop where
  v1 : -1000000 ≤ l.Value
  v2 : l.Value ≤ 1000000
  m1 : -1000000 ≤ l.Min
  m2 : l.Min ≤ 1000000
  x1 : -1000000 ≤ l.Max
  x2 : l.Max ≤ 1000000
  s1 : 0 ≤ l.Since
  s2 : l.Since ≤ 1000000000
  b1 : 0 ≤ l.Begin
  b2 : l.Begin ≤ 1000000000
  ord : l.Begin ≤ l.Since
  lo : l.Min ≤ l.Value
  hi : l.Value ≤ l.Max
  alo : l.Min * (l.Since - l.Begin) ≤ l.Area
  ahi : l.Area ≤ l.Max * (l.Since - l.Begin)

theorem F21_iff (v : Int) : F21 v = true ↔ -1000000 ≤ v ∧ v ≤ 1000000 := by
  unfold F21
  by_cases h : v ≥ -1000000 <;> by_cases h2 : v ≤ 1000000 <;> simp [h, h2] <;> omega
theorem F22_iff (v : Int) : F22 v = true ↔ 0 ≤ v ∧ v ≤ 1000000000 := by
  unfold F22
  by_cases h : v ≥ 0 <;> by_cases h2 : v ≤ 1000000000 <;> simp [h, h2] <;> omega

theorem peel {c : Bool} {n x : Int} (hn : n ≠ 0) (h : (bif c then n else x) = 0) : c = false ∧ x = 0 := by
  cases c
  · exact ⟨rfl, h⟩
  · exact absurd h hn
theorem nope {c : Bool} {α : Type} {n x : α} (h : c = false) : (bif c then n else x) = x := by subst h; rfl
theorem yep {c : Bool} {α : Type} {n x : α} (h : c = true) : (bif c then n else x) = n := by subst h; rfl

theorem mul_bd {x d A D : Int} (h1 : -A ≤ x) (h2 : x ≤ A) (h3 : 0 ≤ d) (h4 : d ≤ D) (hA : 0 ≤ A) : -(A * D) ≤ x * d ∧ x * d ≤ A * D := by
  have k1 : x * d ≤ A * d := Int.mul_le_mul_of_nonneg_right h2 h3
  have k2 : A * d ≤ A * D := Int.mul_le_mul_of_nonneg_left h4 hA
  have k3 : (-A) * d ≤ x * d := Int.mul_le_mul_of_nonneg_right h1 h3
  have k4 : (-A) * d = -(A * d) := Int.neg_mul A d
  constructor <;> omega

theorem prod64 {x d : Int} (h1 : -1000000 ≤ x) (h2 : x ≤ 1000000) (h3 : 0 ≤ d) (h4 : d ≤ 1000000000) : -1000000000000000 ≤ x * d ∧ x * d ≤ 1000000000000000 := by
  have := mul_bd (A := 1000000) (D := 1000000000) h1 h2 h3 h4 (by decide)
  omega

theorem chk (l : T26) : F13 l = 0 ↔ OK l := by
  constructor
  · intro h
    unfold F13 at h
    obtain ⟨c1, h⟩ := peel (by decide) h
    obtain ⟨c2, h⟩ := peel (by decide) h
    obtain ⟨c3, h⟩ := peel (by decide) h
    obtain ⟨c4, h⟩ := peel (by decide) h
    obtain ⟨c5, h⟩ := peel (by decide) h
    obtain ⟨c6, h⟩ := peel (by decide) h
    obtain ⟨c7, h⟩ := peel (by decide) h
    obtain ⟨c8, h⟩ := peel (by decide) h
    obtain ⟨c9, h⟩ := peel (by decide) h
    obtain ⟨c10, h⟩ := peel (by decide) h
    have e1 := (F21_iff _).1 (by simpa using c1)
    have e2 := (F21_iff _).1 (by simpa using c2)
    have e3 := (F21_iff _).1 (by simpa using c3)
    have e4 := (F22_iff _).1 (by simpa using c4)
    have e5 := (F22_iff _).1 (by simpa using c5)
    have d0 : w64 (l.Since - l.Begin) = l.Since - l.Begin := w64_id (by omega) (by omega)
    rw [d0] at c6 c9 c10
    have e6 : ¬ (l.Since - l.Begin < 0) := of_decide_eq_false c6
    have p1 := prod64 (d := l.Since - l.Begin) e2.1 e2.2 (by omega) (by omega)
    have p2 := prod64 (d := l.Since - l.Begin) e3.1 e3.2 (by omega) (by omega)
    rw [w64_id (by omega) (by omega)] at c9
    rw [w64_id (by omega) (by omega)] at c10
    have e7 := of_decide_eq_false c7
    have e8 := of_decide_eq_false c8
    have e9 := of_decide_eq_false c9
    have e10 := of_decide_eq_false c10
    exact ⟨e1.1, e1.2, e2.1, e2.2, e3.1, e3.2, e4.1, e4.2, e5.1, e5.2, by omega, by omega, by omega, by omega, by omega⟩
  · intro h
    have d0 : w64 (l.Since - l.Begin) = l.Since - l.Begin := w64_id (by have := h.s1; have := h.b2; omega) (by have := h.s2; have := h.b1; omega)
    have hd : 0 ≤ l.Since - l.Begin := by have := h.ord; omega
    have hd2 : l.Since - l.Begin ≤ 1000000000 := by have := h.s2; have := h.b1; omega
    have p1 := prod64 h.m1 h.m2 hd hd2
    have p2 := prod64 h.x1 h.x2 hd hd2
    have q1 := h.alo
    have q2 := h.ahi
    unfold F13
    rw [nope (by simpa using (F21_iff _).2 ⟨h.v1, h.v2⟩), nope (by simpa using (F21_iff _).2 ⟨h.m1, h.m2⟩), nope (by simpa using (F21_iff _).2 ⟨h.x1, h.x2⟩),
      nope (by simpa using (F22_iff _).2 ⟨h.s1, h.s2⟩), nope (by simpa using (F22_iff _).2 ⟨h.b1, h.b2⟩), d0, nope (decide_eq_false (by omega)),
      nope (decide_eq_false (by have := h.lo; omega)), nope (decide_eq_false (by have := h.hi; omega)), w64_id (by omega) (by omega), nope (decide_eq_false (by omega)),
      w64_id (by omega) (by omega), nope (decide_eq_false (by omega))]

theorem ready_ok {l : T26} {v t : Int} (h : OK l) (v1 : -1000000 ≤ v) (v2 : v ≤ 1000000) (t2 : t ≤ 1000000000) (ht : l.Since ≤ t) : F23 l v t = 0 := by
  unfold F23
  have := h.s1
  rw [(chk l).2 h, nope (by decide), nope (by simpa using (F21_iff _).2 ⟨v1, v2⟩), nope (by simpa using (F22_iff _).2 ⟨by omega, t2⟩), nope (decide_eq_false (by omega))]
theorem ready_inv {l : T26} {v t : Int} (h : F23 l v t = 0) : OK l ∧ -1000000 ≤ v ∧ v ≤ 1000000 ∧ t ≤ 1000000000 ∧ l.Since ≤ t := by
  unfold F23 at h
  cases hc : (F13 l != 0) with
  | true =>
    rw [hc] at h
    simp only [cond_true] at h
    rw [h] at hc
    cases hc
  | false =>
    rw [hc] at h
    simp only [cond_false] at h
    obtain ⟨c1, h⟩ := peel (by decide) h
    obtain ⟨c2, h⟩ := peel (by decide) h
    obtain ⟨c3, h⟩ := peel (by decide) h
    have e1 := (F21_iff _).1 (by simpa using c1)
    have e2 := (F22_iff _).1 (by simpa using c2)
    have e3 := of_decide_eq_false c3
    exact ⟨(chk l).1 (by simpa using hc), e1.1, e1.2, e2.2, by omega⟩

def area (l : T26) (t : Int) : Int := l.Area + l.Value * (t - l.Since)
theorem area_bd {l : T26} {t : Int} (h : OK l) (t2 : t ≤ 1000000000) (ht : l.Since ≤ t) : -2000000000000000 ≤ area l t ∧ area l t ≤ 2000000000000000 := by
  have := h.s1; have := h.s2; have := h.b1; have := h.b2; have := h.ord
  have p1 := prod64 (d := l.Since - l.Begin) h.m1 h.m2 (by omega) (by omega)
  have p2 := prod64 (d := l.Since - l.Begin) h.x1 h.x2 (by omega) (by omega)
  have p3 := prod64 (d := t - l.Since) h.v1 h.v2 (by omega) (by omega)
  have := h.alo; have := h.ahi
  unfold area
  constructor <;> omega
theorem integral_eq {l : T26} {t : Int} (h : OK l) (t2 : t ≤ 1000000000) (ht : l.Since ≤ t) : F24 l t = area l t := by
  have := h.s1; have := h.s2
  have p3 := prod64 (d := t - l.Since) h.v1 h.v2 (by omega) (by omega)
  have b := area_bd h t2 ht
  unfold area at b
  unfold F24 area
  rw [w64_id (n := t - l.Since) (by omega) (by omega), w64_id (n := l.Value * (t - l.Since)) (by omega) (by omega), w64_id (by omega) (by omega)]

def mn (a b : Int) : Int := if b < a then b else a
def mx (a b : Int) : Int := if b > a then b else a
def set (l : T26) (v t : Int) : T26 := ⟨v, t, l.Begin, area l t, mn l.Min v, mx l.Max v⟩

theorem set_ok {l : T26} {v t : Int} (h : OK l) (v1 : -1000000 ≤ v) (v2 : v ≤ 1000000) (t2 : t ≤ 1000000000) (ht : l.Since ≤ t) : OK (set l v t) := by
  have := h.s1; have := h.b1; have := h.b2; have := h.ord; have := h.m1; have := h.m2; have := h.x1; have := h.x2; have := h.lo; have := h.hi
  have n1 : mn l.Min v ≤ l.Min := by unfold mn; split <;> omega
  have n2 : mn l.Min v ≤ v := by unfold mn; split <;> omega
  have n3 : -1000000 ≤ mn l.Min v := by unfold mn; split <;> omega
  have x1 : l.Max ≤ mx l.Max v := by unfold mx; split <;> omega
  have x2 : v ≤ mx l.Max v := by unfold mx; split <;> omega
  have x3 : mx l.Max v ≤ 1000000 := by unfold mx; split <;> omega
  refine ⟨v1, v2, n3, ?_, ?_, x3, ?_, t2, h.b1, h.b2, ?_, n2, x2, ?_, ?_⟩
  · show mn l.Min v ≤ 1000000; omega
  · show -1000000 ≤ mx l.Max v; omega
  · show 0 ≤ t; omega
  · show l.Begin ≤ t; omega
  · show mn l.Min v * (t - l.Begin) ≤ area l t
    have e : t - l.Begin = (l.Since - l.Begin) + (t - l.Since) := by omega
    rw [e, Int.mul_add]
    have k1 : mn l.Min v * (l.Since - l.Begin) ≤ l.Min * (l.Since - l.Begin) := Int.mul_le_mul_of_nonneg_right n1 (by omega)
    have k2 : mn l.Min v * (t - l.Since) ≤ l.Value * (t - l.Since) := Int.mul_le_mul_of_nonneg_right (by omega) (by omega)
    have := h.alo
    unfold area
    omega
  · show area l t ≤ mx l.Max v * (t - l.Begin)
    have e : t - l.Begin = (l.Since - l.Begin) + (t - l.Since) := by omega
    rw [e, Int.mul_add]
    have k1 : l.Max * (l.Since - l.Begin) ≤ mx l.Max v * (l.Since - l.Begin) := Int.mul_le_mul_of_nonneg_right x1 (by omega)
    have k2 : l.Value * (t - l.Since) ≤ mx l.Max v * (t - l.Since) := Int.mul_le_mul_of_nonneg_right (by omega) (by omega)
    have := h.ahi
    unfold area
    omega

theorem F11_ok {l : T26} {v t : Int} (h : OK l) (v1 : -1000000 ≤ v) (v2 : v ≤ 1000000) (t2 : t ≤ 1000000000) (ht : l.Since ≤ t) : F11 l v t = (set l v t, 0) := by
  unfold F11
  rw [ready_ok h v1 v2 t2 ht, nope (by decide), integral_eq h t2 ht]
  rfl
theorem F11_inv {l : T26} {v t : Int} (h : (F11 l v t).2 = 0) : OK l ∧ -1000000 ≤ v ∧ v ≤ 1000000 ∧ t ≤ 1000000000 ∧ l.Since ≤ t := by
  unfold F11 at h
  cases hc : (F23 l v t != 0) with
  | true => rw [hc] at h; simp at h hc; exact absurd h hc
  | false => exact ready_inv (v := v) (by simpa using hc)
theorem F10_ok {l : T26} {t : Int} (h : OK l) (t2 : t ≤ 1000000000) (ht : l.Since ≤ t) : F10 l t = (area l t, true) := by
  unfold F10
  rw [ready_ok h (by decide) (by decide) t2 ht, nope (by decide), integral_eq h t2 ht]
theorem F8_ok {v t : Int} (v1 : -1000000 ≤ v) (v2 : v ≤ 1000000) (t1 : 0 ≤ t) (t2 : t ≤ 1000000000) : F8 v t = (⟨v, t, t, 0, v, v⟩, 0) := by
  unfold F8
  rw [nope (by simpa using (F21_iff _).2 ⟨v1, v2⟩), nope (by simpa using (F22_iff _).2 ⟨t1, t2⟩)]
theorem F8_inv {v t : Int} (h : (F8 v t).2 = 0) : -1000000 ≤ v ∧ v ≤ 1000000 ∧ 0 ≤ t ∧ t ≤ 1000000000 := by
  unfold F8 at h
  cases c1 : (!F21 v) with
  | true => rw [c1] at h; simp at h
  | false =>
    cases c2 : (!F22 t) with
    | true => rw [c1, c2] at h; simp at h
    | false =>
      have e1 := (F21_iff _).1 (by simpa using c1)
      have e2 := (F22_iff _).1 (by simpa using c2)
      exact ⟨e1.1, e1.2, e2.1, e2.2⟩
theorem new_ok {v t : Int} (v1 : -1000000 ≤ v) (v2 : v ≤ 1000000) (t1 : 0 ≤ t) (t2 : t ≤ 1000000000) : OK ⟨v, t, t, 0, v, v⟩ :=
  ⟨v1, v2, v1, v2, v1, v2, t1, t2, t1, t2, Int.le_refl _, Int.le_refl _, Int.le_refl _, by show v * (t - t) ≤ 0; simp, by show 0 ≤ v * (t - t); simp⟩
theorem F16_ok {l : T26} {t : Int} (h : OK l) (t2 : t ≤ 1000000000) (ht : l.Since ≤ t) : F16 l t = (⟨l.Value, t, t, 0, l.Value, l.Value⟩, 0) := by
  have := h.s1
  unfold F16
  rw [ready_ok h (by decide) (by decide) t2 ht, nope (by decide), F8_ok h.v1 h.v2 (by omega) t2]
theorem F16_inv {l : T26} {t : Int} (h : (F16 l t).2 = 0) : OK l ∧ t ≤ 1000000000 ∧ l.Since ≤ t := by
  unfold F16 at h
  cases hc : (F23 l 0 t != 0) with
  | true => rw [hc] at h; simp at h hc; exact absurd h hc
  | false =>
    have := ready_inv (v := 0) (t := t) (l := l) (by simpa using hc)
    exact ⟨this.1, this.2.2.2.1, this.2.2.2.2⟩

theorem w64_u16 {n : Int} (h : (Lit.int .u16 n).wf = true) : w64 n = n ∧ 0 ≤ n ∧ n ≤ 65535 := by
  have : 0 ≤ n ∧ n ≤ 65535 := by simpa [Lit.wf, IntKind.min, IntKind.max, IntKind.signed, IntKind.bits] using h
  exact ⟨w64_id (by omega) (by omega), this⟩

/-! ### LevelValid -/
theorem valid_law (l : T26) (v t : Int) : F6 l v t = some true := by
  have hF8 : (F8 v t).2 = 0 → F8 v t = (⟨v, t, t, 0, v, v⟩, 0) ∧ F13 (F8 v t).1 = 0 := by
    intro h
    obtain ⟨a, b, c, d⟩ := F8_inv h
    rw [F8_ok a b c d]
    exact ⟨rfl, (chk _).2 (new_ok a b c d)⟩
  have hF11 : (F11 l v t).2 = 0 → F11 l v t = (set l v t, 0) ∧ F13 (F11 l v t).1 = 0 := by
    intro h
    obtain ⟨a, b, c, d, e⟩ := F11_inv h
    rw [F11_ok a b c d e]
    exact ⟨rfl, (chk _).2 (set_ok a b c d e)⟩
  have hF16 : (F16 l t).2 = 0 → F16 l t = (⟨l.Value, t, t, 0, l.Value, l.Value⟩, 0) ∧ F13 (F16 l t).1 = 0 := by
    intro h
    obtain ⟨a, b, c⟩ := F16_inv h
    have := a.s1
    rw [F16_ok a b c]
    exact ⟨rfl, (chk _).2 (new_ok a.v1 a.v2 (by omega) b)⟩
  have tail : (bif ((F16 l t).2 != 0) then some (true) else (bif ((F13 ((F16 l t).1)) == 0) then (bif ((F16 l t).1.Value == l.Value) then (bif ((F16 l t).1.Begin == t) then (bif ((F16 l t).1.Min == l.Value) then some (true)
      else some (false)) else some (false)) else some (false)) else some (false))) = some true := by
    by_cases h : (F16 l t).2 = 0
    · obtain ⟨e, e2⟩ := hF16 h
      rw [e2, e]; simp
    · rw [yep (by simpa using h)]
  have mid : (bif ((F11 l v t).2 == 0) then (bif ((F13 ((F11 l v t).1)) != 0) then some (false) else (bif ((F11 l v t).1.Value != v) then some (false) else (bif ((F11 l v t).1.Since != t) then some (false)
      else (bif ((F11 l v t).1.Begin != l.Begin) then some (false) else some true)))) else some true) = some true := by
    by_cases h : (F11 l v t).2 = 0
    · obtain ⟨e, e2⟩ := hF11 h
      rw [e2, e]; simp [set]
    · rw [nope (by simpa using h)]
  unfold F6
  simp only [tail, mid]
  by_cases h : (F8 v t).2 = 0
  · obtain ⟨e, e2⟩ := hF8 h
    rw [e2, e]; simp
  · rw [nope (by simpa using h)]
end Go.Proofs.Ytflfeikkcpcdiaa.Ev
