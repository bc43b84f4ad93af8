/-  The plain laws of chapter 28: setting the same value, and recording again. -/
import Derived.Test.YtflfeikkcpcdiaaLd
namespace Go.Proofs.Ytflfeikkcpcdiaa.Ev
open Go
set_option linter.unusedVariables false
set_option linter.unusedSimpArgs false
set_option linter.unnecessarySimpa false

theorem size_eq {n : Int} (h1 : -9223372036854775808 ≤ n) (h2 : n ≤ 9223372036854775807) : F30 n = (n.natAbs : Int) := by
  unfold F30
  simp only [IntKind.wrap, IntKind.signed, IntKind.bits]
  by_cases h : n < 0
  · rw [yep (decide_eq_true h)]
    simp
    omega
  · rw [nope (decide_eq_false h)]
    simp
    omega

theorem of_some {n d : Int} (h1 : -9223372036854775808 ≤ n) (h2 : n ≤ 9223372036854775807) (h3 : -9223372036854775808 ≤ d) (h4 : d ≤ 9223372036854775807) : ∃ r, F25 n d = some r := by
  unfold F25
  by_cases h : d = 0
  · subst h; exact ⟨_, rfl⟩
  · rw [nope (by simpa using h)]
    have e : F29 (F30 n) (F30 d) = some (Nat.gcd n.natAbs d.natAbs : Int) := by
      unfold F29
      rw [size_eq h1 h2, size_eq h3 h4, if_pos (by omega)]
      simp
    rw [e]
    have hg : Nat.gcd n.natAbs d.natAbs ≠ 0 := by
      intro hg
      have := (Nat.gcd_eq_zero_iff.1 hg).2
      omega
    have hg' : (!decide ((Nat.gcd n.natAbs d.natAbs : Int) = 0)) = true := by
      rw [Bool.not_eq_true', decide_eq_false_iff_not]
      omega
    simp only [Option.bind_some]
    rw [yep hg', yep hg']
    exact ⟨_, rfl⟩

theorem mean_some {l : T26} {t : Int} (h : OK l) (t2 : t ≤ 1000000000) (ht : l.Since ≤ t) : ∃ r, F12 l t = some r ∧ F25 (area l t) (t - l.Begin) = some r := by
  have := h.s1; have := h.b1; have := h.b2
  have b := area_bd h t2 ht
  unfold F12
  rw [F10_ok h t2 ht, w64_id (by omega) (by omega)]
  obtain ⟨r, hr⟩ := of_some (n := area l t) (d := t - l.Begin) (by omega) (by omega) (by omega) (by omega)
  exact ⟨r, by rw [nope (by rfl), hr]; rfl, hr⟩

/-! ### LevelStays -/
theorem stays_law (l : T26) (a m : Int) (ha : (Lit.int .u16 a).wf = true) (hm : (Lit.int .u16 m).wf = true) : F4 l a m = some true := by
  obtain ⟨ea, a1, a2⟩ := w64_u16 ha
  obtain ⟨em, m1, m2⟩ := w64_u16 hm
  unfold F4
  by_cases hc : F13 l = 0
  · have h := (chk l).1 hc
    have := h.s1; have := h.s2
    rw [nope (by simpa using hc), ea, em, w64_id (n := l.Since + a) (by omega) (by omega), w64_id (n := l.Since + a + m) (by omega) (by omega)]
    by_cases ht : l.Since + a + m > 1000000000
    · rw [yep (decide_eq_true ht)]
    · rw [nope (decide_eq_false ht)]
      have e11 := F11_ok (t := l.Since + a) h h.v1 h.v2 (by omega) (by omega)
      have hs := set_ok (t := l.Since + a) h h.v1 h.v2 (by omega) (by omega)
      rw [e11]
      have hS : (set l l.Value (l.Since + a)).Since = l.Since + a := rfl
      have hB : (set l l.Value (l.Since + a)).Begin = l.Begin := rfl
      have hA : area (set l l.Value (l.Since + a)) (l.Since + a + m) = area l (l.Since + a + m) := by
        show area l (l.Since + a) + l.Value * (l.Since + a + m - (l.Since + a)) = l.Area + l.Value * (l.Since + a + m - l.Since)
        unfold area
        rw [show l.Since + a + m - (l.Since + a) = m by omega, show l.Since + a - l.Since = a by omega, show l.Since + a + m - l.Since = a + m by omega, Int.mul_add]
        omega
      obtain ⟨r1, h1, h2⟩ := mean_some (t := l.Since + a + m) h (by omega) (by omega)
      obtain ⟨r2, k1, k2⟩ := mean_some (t := l.Since + a + m) hs (by omega) (by rw [hS]; omega)
      rw [hA, hB, h2] at k2
      obtain rfl : r1 = r2 := by injection k2
      rw [h1, k1, F10_ok (t := l.Since + a + m) h (by omega) (by omega), F10_ok (t := l.Since + a + m) hs (by omega) (by rw [hS]; omega), hA]
      have n1 : (set l l.Value (l.Since + a)).Min = l.Min := by
        show mn l.Min l.Value = l.Min
        have := h.lo
        unfold mn; split <;> omega
      have n2 : (set l l.Value (l.Since + a)).Max = l.Max := by
        show mx l.Max l.Value = l.Max
        have := h.hi
        unfold mx; split <;> omega
      simp [n1, n2]
  · rw [yep (by simpa using hc)]

/-! ### LevelAgain -/
theorem again_law (l : T26) (v a m : Int) (ha : (Lit.int .u16 a).wf = true) (hm : (Lit.int .u16 m).wf = true) : F7 l v a m = some true := by
  obtain ⟨ea, a1, a2⟩ := w64_u16 ha
  obtain ⟨em, m1, m2⟩ := w64_u16 hm
  unfold F7
  by_cases hc : F13 l = 0
  · have h := (chk l).1 hc
    have := h.s1; have := h.s2
    rw [nope (by simpa using hc), ea, em, w64_id (n := l.Since + a) (by omega) (by omega), w64_id (n := l.Since + a + m) (by omega) (by omega)]
    by_cases ht : l.Since + a + m > 1000000000
    · rw [yep (decide_eq_true ht)]
    · rw [nope (decide_eq_false ht)]
      by_cases hv : v < -1000000
      · rw [yep (decide_eq_true hv)]
      · rw [nope (decide_eq_false hv)]
        by_cases hv2 : v > 1000000
        · rw [yep (decide_eq_true hv2)]
        · rw [nope (decide_eq_false hv2)]
          have e16 := F16_ok (t := l.Since + a) h (by omega) (by omega)
          have hn : OK ⟨l.Value, l.Since + a, l.Since + a, 0, l.Value, l.Value⟩ := new_ok h.v1 h.v2 (by omega) (by omega)
          rw [e16]
          have e11 := F11_ok (v := v) (t := l.Since + a + m) hn (by omega) (by omega) (by omega) (by show l.Since + a ≤ _; omega)
          have hs := set_ok (v := v) (t := l.Since + a + m) hn (by omega) (by omega) (by omega) (by show l.Since + a ≤ _; omega)
          have f11 := F11_ok (v := v) (t := l.Since + a + m) h (by omega) (by omega) (by omega) (by omega)
          have hs2 := set_ok (v := v) (t := l.Since + a + m) h (by omega) (by omega) (by omega) (by omega)
          rw [e11, f11]
          have g1 := F10_ok (t := l.Since + a) h (by omega) (by omega)
          have g2 := F10_ok (t := l.Since + a + m) hs (by omega) (by show l.Since + a + m ≤ _; omega)
          have g3 := F10_ok (t := l.Since + a + m) hs2 (by omega) (by show l.Since + a + m ≤ _; omega)
          rw [g1, g2, g3]
          have q1 := area_bd (t := l.Since + a) h (by omega) (by omega)
          have q3 := area_bd (t := l.Since + a + m) h (by omega) (by omega)
          have A2 : area (set ⟨l.Value, l.Since + a, l.Since + a, 0, l.Value, l.Value⟩ v (l.Since + a + m)) (l.Since + a + m) = l.Value * m := by
            show (0 + l.Value * (l.Since + a + m - (l.Since + a))) + v * (l.Since + a + m - (l.Since + a + m)) = _
            rw [show l.Since + a + m - (l.Since + a) = m by omega, Int.sub_self]
            simp
          have A3 : area (set l v (l.Since + a + m)) (l.Since + a + m) = area l (l.Since + a + m) := by
            show area l (l.Since + a + m) + v * (l.Since + a + m - (l.Since + a + m)) = _
            rw [Int.sub_self]; simp
          have A1 : area l (l.Since + a) + l.Value * m = area l (l.Since + a + m) := by
            unfold area
            rw [show l.Since + a - l.Since = a by omega, show l.Since + a + m - l.Since = a + m by omega, Int.mul_add]
            omega
          rw [A2, A3, A1, w64_id (by omega) (by omega)]
          simp
  · rw [yep (by simpa using hc)]
end Go.Proofs.Ytflfeikkcpcdiaa.Ev
