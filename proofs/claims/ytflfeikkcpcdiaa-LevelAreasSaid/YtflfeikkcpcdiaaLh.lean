/-  The plain law of LevelAreas. -/
import Derived.Test.YtflfeikkcpcdiaaLf
namespace Go.Proofs.Ytflfeikkcpcdiaa.Ev
open Go
set_option linter.unusedVariables false
set_option linter.unusedSimpArgs false
set_option linter.unnecessarySimpa false

theorem inner {p0 p1 : Int} {l : List T32} {p3 : Bool} {p4 p5 p8 p9 value i p13 p14 p15 p16 p17 p18 : Int} {kx : Int → Int → Int → Prop} {A : Int}
    (hi : 0 ≤ i) (hi2 : i < (l.length : Int)) (hA : w64 (l.getD (Int.toNat i) default).After = A) (hA2 : A ≤ 255) (hv1 : -128 ≤ value) (hv2 : value ≤ 127) :
    ∀ (n : Nat) (now sum k : Int), 0 ≤ k → k ≤ A → (A - k).toNat < n → 0 ≤ now → now + (A - k) ≤ 1000000 →
      -1000000000 ≤ sum - 128 * (A - k) → sum + 128 * (A - k) ≤ 1000000000 → kx (now + (A - k)) (sum + value * (A - k)) A →
      lp3_2 p0 p1 l p3 p4 p5 p8 p9 value i p13 p14 p15 p16 p17 p18 kx n now sum k
  | 0, _, _, _, _, _, h, _, _, _, _, _ => absurd h (by omega)
  | n + 1, now, sum, k, h0, h1, h2, h3, h4, h5, h6, hk => by
    unfold lp3_2 bd3_2
    refine ⟨hi, hi2, ?_⟩
    rw [hA]
    by_cases e : k < A
    · refine br_true (decide_eq_true e) ?_
      rw [w64_id (n := now + 1) (by omega) (by omega), w64_id (n := sum + value) (by omega) (by omega), w64_id (n := k + 1) (by omega) (by omega)]
      refine inner hi hi2 hA hA2 hv1 hv2 n (now + 1) (sum + value) (k + 1) (by omega) (by omega) (by omega) (by omega) (by omega) (by omega) (by omega) ?_
      have e1 : now + 1 + (A - (k + 1)) = now + (A - k) := by omega
      have e2 : sum + value + value * (A - (k + 1)) = sum + value * (A - k) := by
        have : A - k = (A - (k + 1)) + 1 := by omega
        rw [this, Int.mul_add]; omega
      rw [e1, e2]; exact hk
    · refine br_false (decide_eq_false e) ?_
      have hkA : k = A := by omega
      rw [hkA] at hk ⊢
      simpa using hk

structure Fine (x : T26) (i : Int) : Prop where
  ok : OK x
  s : x.Since ≤ 1000 + 255 * i
  v1 : -128 ≤ x.Value
  v2 : x.Value ≤ 127
  n1 : -128 ≤ x.Min
  n2 : x.Min ≤ 127
  x1 : -128 ≤ x.Max
  x2 : x.Max ≤ 127
  a1 : -(32640 * i) ≤ x.Area
  a2 : x.Area ≤ 32640 * i

theorem outer {L : Nat} (hL : 300 ≤ L) {p0 p1 : Int} {l : List T32} {p4 p5 : Int} (hlen : (l.length : Int) ≤ 20)
    (hl : ∀ i, i < l.length → (Lit.int .i8 (l.getD i default).Value).wf = true ∧ (Lit.int .u8 (l.getD i default).After).wf = true)
    {kr kx0 : Bool → Int → Int → Int → Int → Int → Int → Int → Int → Int → Int → Int → Int → Prop} :
    ∀ (n : Nat) (r : Bool) (x : T26) (i : Int), Fine x i → 0 ≤ i → i ≤ (l.length : Int) → ((l.length : Int) - i).toNat < n →
      (∀ x' : T26, Fine x' 20 → x'.Begin = x.Begin → kx0 r x'.Since x'.Area x'.Min x'.Max x'.Value (l.length : Int) x'.Value x'.Since x'.Begin x'.Area x'.Min x'.Max) →
      lp3_1 L p0 p1 l p4 p5 kr kx0 n r x.Since x.Area x.Min x.Max x.Value i x.Value x.Since x.Begin x.Area x.Min x.Max
  | 0, _, _, _, _, _, _, h, _ => absurd h (by omega)
  | n + 1, r, x, i, hx, h0, h1, h2, hk => by
    unfold lp3_1 bd3_1
    by_cases e : i < (l.length : Int)
    · refine br_true (decide_eq_true e) ?_
      obtain ⟨hV, hA⟩ := hl i.toNat (by omega)
      have hV' : -128 ≤ (l.getD i.toNat default).Value ∧ (l.getD i.toNat default).Value ≤ 127 := by simpa [Lit.wf, IntKind.min, IntKind.max, IntKind.signed, IntKind.bits] using hV
      have hA' : 0 ≤ (l.getD i.toNat default).After ∧ (l.getD i.toNat default).After ≤ 255 := by simpa [Lit.wf, IntKind.min, IntKind.max, IntKind.signed, IntKind.bits] using hA
      generalize hve : (l.getD i.toNat default).Value = v at hV'
      generalize hae : (l.getD i.toNat default).After = A at hA'
      have hs := hx.ok.s1
      have hx1 := hx.s
      have hxv1 := hx.v1; have hxv2 := hx.v2; have hxa1 := hx.a1; have hxa2 := hx.a2
      have hxn1 := hx.n1; have hxn2 := hx.n2; have hxx1 := hx.x1; have hxx2 := hx.x2
      refine inner h0 e (by rw [hae]; exact w64_id (by omega) (by omega)) hA'.2 hxv1 hxv2 L x.Since x.Area 0 (by omega) (by omega) (by omega) hs (by omega) (by omega) (by omega) ?_
      have hsum : x.Area + x.Value * (A - 0) = area x (x.Since + (A - 0)) := by
        unfold area
        rw [show x.Since + (A - 0) - x.Since = A - 0 by omega]
      rw [hsum]
      have ht1 : x.Since ≤ x.Since + (A - 0) := by omega
      have ht2 : x.Since + (A - 0) ≤ 1000 + 255 * (i + 1) := by omega
      have hab := mul_bd (x := x.Value) (d := A - 0) (A := 128) (D := 255) (by omega) (by omega) (by omega) (by omega) (by decide)
      have har1 : -(32640 * (i + 1)) ≤ area x (x.Since + (A - 0)) := by rw [← hsum]; omega
      have har2 : area x (x.Since + (A - 0)) ≤ 32640 * (i + 1) := by rw [← hsum]; omega
      generalize x.Since + (A - 0) = t at ht1 ht2 har1 har2 ⊢
      have e10 : F10 x t = (area x t, true) := F10_ok hx.ok (by omega) ht1
      have e11 : F11 x v t = (set x v t, 0) := F11_ok hx.ok (by omega) (by omega) (by omega) ht1
      have hso : OK (set x v t) := set_ok hx.ok (by omega) (by omega) (by omega) ht1
      show br _ _ (br _ _ _)
      refine br_false (by show (!(F10 x t).2) = false; rw [e10]; rfl) ?_
      refine br_false (by show ((F10 x t).1 != area x t) = false; rw [e10]; simp) ?_
      refine ⟨h0, e, ?_⟩
      rw [w64_id (n := v) (by omega) (by omega)]
      refine br_false (by show ((F11 x v t).2 != 0) = false; rw [e11]; rfl) ?_
      refine br_false (by show ((F11 x v t).1.Area != area x t) = false; rw [e11]; simp [set]) ?_
      refine br_false (by show ((F11 x v t).1.Min != mn x.Min v) = false; rw [e11]; simp [set]) ?_
      refine br_false (by show ((F11 x v t).1.Max != mx x.Max v) = false; rw [e11]; simp [set]) ?_
      rw [w64_id (n := i + 1) (by omega) (by omega)]
      have n1 : -128 ≤ mn x.Min v ∧ mn x.Min v ≤ 127 := by unfold mn; split <;> omega
      have n2 : -128 ≤ mx x.Max v ∧ mx x.Max v ≤ 127 := by unfold mx; split <;> omega
      have fin := outer hL hlen hl (p0 := p0) (p1 := p1) (p4 := p4) (p5 := p5) (kr := kr) (kx0 := kx0) n r (set x v t) (i + 1)
        ⟨hso, ht2, hV'.1, hV'.2, n1.1, n1.2, n2.1, n2.2, har1, har2⟩ (by omega) (by omega) (by omega) (fun x' h1 h2 => hk x' h1 h2)
      show lp3_1 L p0 p1 l p4 p5 kr kx0 n r t (area x t) (mn x.Min v) (mx x.Max v) v (i + 1) (F11 x v t).1.Value (F11 x v t).1.Since (F11 x v t).1.Begin (F11 x v t).1.Area (F11 x v t).1.Min (F11 x v t).1.Max
      rw [e11]
      exact fin
    · refine br_false (decide_eq_false e) ?_
      have : i = (l.length : Int) := by omega
      subst this
      refine hk x ⟨hx.ok, ?_, hx.v1, hx.v2, hx.n1, hx.n2, hx.x1, hx.x2, ?_, ?_⟩ rfl
      · have := hx.s; omega
      · have := hx.a1; omega
      · have := hx.a2; omega

/-- what a fraction of small numbers is -/
theorem of_val {n d : Int} (hn1 : -1000000 ≤ n) (hn2 : n ≤ 1000000) (hd1 : 0 < d) (hd2 : d ≤ 1000000) :
    ∃ N D : Int, F25 n d = some (⟨N, D⟩, true) ∧ 1 ≤ D ∧ D ≤ 1000000 ∧ -1000000 ≤ N ∧ N ≤ 1000000 ∧ N * d = n * D := by
  have hg0 : 0 < Nat.gcd n.natAbs d.natAbs := Nat.gcd_pos_of_pos_right _ (by omega)
  obtain ⟨a, ha⟩ := Nat.gcd_dvd_left n.natAbs d.natAbs
  obtain ⟨b, hb⟩ := Nat.gcd_dvd_right n.natAbs d.natAbs
  unfold F25
  have hd0 : ¬ d = 0 := by omega
  rw [nope (by simpa using hd0)]
  have e : F29 (F30 n) (F30 d) = some (Nat.gcd n.natAbs d.natAbs : Int) := by
    unfold F29
    rw [size_eq (by omega) (by omega), size_eq (by omega) (by omega), if_pos (by omega)]
    simp
  rw [e, size_eq (by omega) (by omega), size_eq (by omega) (by omega)]
  simp only [Option.bind_some]
  generalize Nat.gcd n.natAbs d.natAbs = g at hg0 ha hb
  have hg' : (!decide ((g : Int) = 0)) = true := by
    rw [Bool.not_eq_true', decide_eq_false_iff_not]
    omega
  rw [yep hg', yep hg']
  have hqa : n.natAbs / g = a := by rw [ha]; exact Nat.mul_div_cancel_left a hg0
  have hqb : d.natAbs / g = b := by rw [hb]; exact Nat.mul_div_cancel_left b hg0
  have ha2 : a ≤ n.natAbs := by rw [← hqa]; exact Nat.div_le_self _ _
  have hb2 : b ≤ d.natAbs := by rw [← hqb]; exact Nat.div_le_self _ _
  have hb1 : 0 < b := by
    rcases Nat.eq_zero_or_pos b with h | h
    · subst h; simp at hb; omega
    · exact h
  have ta : Int.tdiv (n.natAbs : Int) (g : Int) = (a : Int) := by rw [← hqa]; simp
  have tb : Int.tdiv (d.natAbs : Int) (g : Int) = (b : Int) := by rw [← hqb]; simp
  have wu : ∀ m : Nat, m ≤ 1000000 → IntKind.wrap .u64 (m : Int) = (m : Int) := by
    intro m hm
    unfold IntKind.wrap
    simp [IntKind.signed, IntKind.bits]
    omega
  rw [ta, tb, wu a (by omega), wu b (by omega)]
  have key : (n.natAbs : Int) * b = d * a := by
    have h1 : (n.natAbs : Int) = g * a := by exact_mod_cast ha
    have h2 : d = g * b := by
      have : (d.natAbs : Int) = g * b := by exact_mod_cast hb
      omega
    rw [h1, h2, Int.mul_assoc, Int.mul_assoc, Int.mul_comm (a : Int) (b : Int)]
  have wa : w64 (a : Int) = a := w64_id (by omega) (by omega)
  have wb : w64 (b : Int) = b := w64_id (by omega) (by omega)
  unfold F31
  rw [nope (decide_eq_false (by omega)), nope (decide_eq_false (by omega)), decide_eq_false (show ¬ d < 0 by omega)]
  by_cases hneg : n < 0
  · rw [decide_eq_true hneg, yep (c := (!(true == false))) rfl, wa, wb, w64_id (n := 0 - (a : Int)) (by omega) (by omega)]
    refine ⟨_, _, rfl, by omega, by omega, by omega, by omega, ?_⟩
    have : (n.natAbs : Int) = -n := by omega
    rw [this] at key
    rw [Int.zero_sub, Int.neg_mul, Int.mul_comm (a : Int) d, ← key, Int.neg_mul, Int.neg_neg]
  · rw [decide_eq_false hneg, nope (c := (!(false == false))) rfl, wa, wb]
    refine ⟨_, _, rfl, by omega, by omega, by omega, by omega, ?_⟩
    have : (n.natAbs : Int) = n := by omega
    rw [this] at key
    rw [Int.mul_comm (a : Int) d, ← key]

theorem areas_law (v at_ : Int) (l : List T32) (hv : (Lit.int .i8 v).wf = true) (ha : (Lit.int .u16 at_).wf = true)
    (hl : ∀ i, i < l.length → (Lit.int .i8 (l.getD i default).Value).wf = true ∧ (Lit.int .u8 (l.getD i default).After).wf = true) (k : Bool → Prop) (hk : k true) : T3t 300 v at_ l k := by
  have hv' : -128 ≤ v ∧ v ≤ 127 := by simpa [Lit.wf, IntKind.min, IntKind.max, IntKind.signed, IntKind.bits] using hv
  obtain ⟨ea, a1, a2⟩ := w64_u16 ha
  have hb : 0 ≤ Int.tmod at_ 1000 ∧ Int.tmod at_ 1000 ≤ 999 := by
    have h1 := Int.tmod_nonneg (1000 : Int) a1
    have h2 := Int.tmod_lt_of_pos at_ (b := 1000) (by decide)
    omega
  unfold T3t
  rw [ea, w64_id (n := v) (by omega) (by omega)]
  generalize Int.tmod at_ 1000 = b at hb ⊢
  have e8 : F8 v b = (⟨v, b, b, 0, v, v⟩, 0) := F8_ok (by omega) (by omega) hb.1 (by omega)
  rw [e8]
  refine br_false (by rfl) ?_
  by_cases hlen : (l.length : Int) > 20
  · exact br_true (decide_eq_true hlen) hk
  · refine br_false (decide_eq_false hlen) ?_
    refine outer (by decide) (by omega) hl 300 false ⟨v, b, b, 0, v, v⟩ 0 ⟨new_ok (by omega) (by omega) hb.1 (by omega), by show b ≤ _; omega, hv'.1, hv'.2, hv'.1, hv'.2, hv'.1, hv'.2, by show _ ≤ (0 : Int); omega, by show (0 : Int) ≤ _; omega⟩ (by omega) (by omega) (by omega) ?_
    intro x hx hB
    have hB' : x.Begin = b := hB
    have s1 := hx.ok.s1; have s2 := hx.s; have o := hx.ok.ord
    obtain ⟨r, h1, h2⟩ := mean_some (t := x.Since) hx.ok (by omega) (Int.le_refl _)
    have hA : area x x.Since = x.Area := by unfold area; rw [Int.sub_self]; simp
    rw [hA, hB'] at h2
    show ob (F12 x x.Since) _
    refine ob_some h1 ?_
    by_cases hd : x.Since - b = 0
    · rw [hd] at h2
      have : r = (⟨0, 0⟩, false) := by
        have h3 : F25 x.Area 0 = some (⟨0, 0⟩, false) := rfl
        rw [h3] at h2; injection h2 with h2; exact h2.symm
      subst this
      refine br_false (by have : ¬ x.Since > b := by omega
                          simp [this]) ?_
      exact br_true rfl hk
    · obtain ⟨N, D, h3, d1, d2, n1, n2, hND⟩ := of_val (n := x.Area) (d := x.Since - b) (by have := hx.a1; omega) (by have := hx.a2; omega) (by omega) (by omega)
      rw [h3] at h2
      injection h2 with h2
      subst h2
      have hx1 := hx.n1; have hx2 := hx.n2; have hx3 := hx.x1; have hx4 := hx.x2
      have lo := hx.ok.alo; have hi := hx.ok.ahi
      rw [hB'] at lo hi
      have m1 := mul_bd (x := x.Min) (d := D) (A := 128) (D := 1000000) (by omega) (by omega) (by omega) d2 (by decide)
      have m2 := mul_bd (x := x.Max) (d := D) (A := 128) (D := 1000000) (by omega) (by omega) (by omega) d2 (by decide)
      have m3 := mul_bd (x := x.Area) (d := D) (A := 1000000) (D := 1000000) (by have := hx.a1; omega) (by have := hx.a2; omega) (by omega) d2 (by decide)
      refine br_false (by have : x.Since > b := by omega
                          simp [this]) ?_
      refine br_false rfl ?_
      refine br_true (decide_eq_true d1) ?_
      rw [w64_id (n := x.Since - b) (by omega) (by omega)]
      refine br_true (by
        show (w64 (N * (x.Since - b)) == w64 (x.Area * D)) = true
        rw [hND]; simp) ?_
      have q1 : x.Min * D ≤ N := by
        refine Int.le_of_mul_le_mul_right (a := x.Since - b) ?_ (by omega)
        rw [hND, Int.mul_assoc, Int.mul_comm D, ← Int.mul_assoc]
        exact Int.mul_le_mul_of_nonneg_right lo (by omega)
      have q2 : N ≤ x.Max * D := by
        refine Int.le_of_mul_le_mul_right (a := x.Since - b) ?_ (by omega)
        rw [hND, Int.mul_assoc, Int.mul_comm D, ← Int.mul_assoc]
        exact Int.mul_le_mul_of_nonneg_right hi (by omega)
      refine br_true (decide_eq_true (by
        show N ≥ w64 (x.Min * D)
        rw [w64_id (by omega) (by omega)]; exact q1)) ?_
      refine br_true (decide_eq_true (by
        show N ≤ w64 (x.Max * D)
        rw [w64_id (by omega) (by omega)]; exact q2)) hk
theorem list_of {α : Type} [Inhabited α] {n : Nat} {Q : Nat → α → Prop} (h : ∀ i, i < n → ∃ x, Q i x) : ∃ l : List α, l.length = n ∧ ∀ i, i < l.length → Q i (l.getD i default) := by
  refine ⟨(List.range n).map fun i => if hi : i < n then Classical.choose (h i hi) else default, by simp, fun i hi => ?_⟩
  have hi' : i < n := by simpa using hi
  have : ((List.range n).map fun i => if hi : i < n then Classical.choose (h i hi) else default).getD i default = Classical.choose (h i hi') := by
    simp [List.getD_eq_getElem?_getD, hi']
  rw [this]
  exact Classical.choose_spec (h i hi')

theorem areas_holds (v at_ : Int) (l : List T32) (hv : (Lit.int .i8 v).wf = true) (ha : (Lit.int .u16 at_).wf = true)
    (hl : ∀ i, i < l.length → (Lit.int .i8 (l.getD i default).Value).wf = true ∧ (Lit.int .u8 (l.getD i default).After).wf = true) :
    Holds Try.prog 3 [V .i8 v, V .u16 at_, .arr 32 2 l.length (fun i => encT32 (l.getD i default))] (B true) := by
  refine holds_of_ev s3 mixed 300 Try.func3 (by kernel_rfl : cFn Try.prog Try.f3 = some c3) _ _ (by kernel_rfl) ?_
  rw [tree3]
  exact areas_law v at_ l hv ha hl (fun x => B x = B true) rfl
end Go.Proofs.Ytflfeikkcpcdiaa.Ev
