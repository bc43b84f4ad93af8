/-  Chapter 51, plainly: numbers of points, settings; lists held against each other. -/
import Derived.Test.YtaaiehkfndibkaaGreatQ1
import Derived.Test.YtaaiehkfndibkaaGreatDc
namespace Go.Proofs.YtaaiehkfndibkaaGreat.Ev
open Go
set_option maxRecDepth 100000
set_option linter.unusedVariables false
set_option linter.unusedSimpArgs false
set_option linter.unnecessarySimpa false
theorem dropG {α : Type} [Inhabited α] (l : List α) (i : Nat) (h : i < l.length) : l.drop i = l.getD i default :: l.drop (i + 1) := by
  rw [List.drop_eq_getElem_cons h, getD_eq l i h]
/-- indices of levels? -/
def okX : List Nat → List Int → Bool
  | l :: ls, x :: xs => (decide (0 ≤ x) && decide (x < (l : Int))) && okX ls xs
  | [], [] => true
  | _, _ => false
def toN' (x : List Int) : List Nat := x.map Int.toNat
theorem okX_N : ∀ {ls : List Nat} {xs : List Int}, okX ls xs = true → okN ls (toN' xs) ∧ toI (toN' xs) = xs
  | [], [], _ => ⟨trivial, rfl⟩
  | [], _ :: _, h => by cases h
  | _ :: _, [], h => by cases h
  | l :: ls, x :: xs, h => by
    rw [okX, Bool.and_eq_true, Bool.and_eq_true] at h
    obtain ⟨⟨h1, h2⟩, h3⟩ := h
    have h1 := of_decide_eq_true h1
    have h2 := of_decide_eq_true h2
    obtain ⟨i1, i2⟩ := okX_N h3
    exact ⟨⟨by omega, i1⟩, by
      show ((x.toNat : Nat) : Int) :: toI (toN' xs) = _
      rw [i2, Int.toNat_of_nonneg h1]⟩
theorem okN_X : ∀ {ls xs : List Nat}, okN ls xs → okX ls (toI xs) = true
  | [], [], _ => rfl
  | [], _ :: _, h => h.elim
  | _ :: _, [], h => h.elim
  | l :: ls, x :: xs, h => by
    show ((decide (0 ≤ (x : Int)) && decide ((x : Int) < (l : Int))) && okX ls (toI xs)) = true
    rw [okN_X h.2, decide_eq_true (by omega), decide_eq_true (by have := h.1; omega)]; rfl
theorem toN_toI (xs : List Nat) : toN' (toI xs) = xs := by
  induction xs with
  | nil => rfl
  | cons x xs ih => show Int.toNat (x : Int) :: toN' (toI xs) = _; rw [ih, Int.toNat_natCast]
theorem fL_drop (f : List api_Factor) (i : Nat) (h : i < f.length) : fL (f.drop i) = (f.getD i default).Levels.length :: fL (f.drop (i + 1)) := by
  rw [dropG f i h]; rfl
def pchk (f : List api_Factor) (x : List Int) : Int := if useE f ≠ 0 then useE f else if x.length ≠ f.length then 8 else if okX (fL f) x then 0 else 2
theorem q_design_point_1 (L : Nat) (f : List api_Factor) (x : List Int) : ∀ (k : List Int) (i : Nat) (v : Int), i + k.length = f.length → ∃ j, lq_design_point_1 L f x k i v = some (bif okX (fL (f.drop i)) k then (1, (v, j)) else (0, (2, j))) := by
  intro k
  induction k with
  | nil =>
    intro i v h
    refine ⟨i, ?_⟩
    have : f.drop i = [] := List.drop_eq_nil_of_le (by simp at h; omega)
    rw [this]; rfl
  | cons y k ih =>
    intro i v h
    rw [List.length_cons] at h
    have hlt : i < f.length := by omega
    obtain ⟨j, hj⟩ := ih (i + 1) v (by omega)
    rw [lq_design_point_1, hj, fL_drop f i hlt, okX]
    simp only [nn, if_true, ltI hlt, toN]
    by_cases h1 : y < 0
    · rw [decide_eq_true h1, decide_eq_false (show ¬ 0 ≤ y by omega)]; exact ⟨i, rfl⟩
    · rw [decide_eq_false h1, decide_eq_true (show 0 ≤ y by omega)]
      by_cases h2 : y < ((f.getD i default).Levels.length : Int)
      · rw [show decide (y ≥ ((f.getD i default).Levels.length : Int)) = false from decide_eq_false (by omega), decide_eq_true h2]; exact ⟨j, by simp⟩
      · rw [show decide (y ≥ ((f.getD i default).Levels.length : Int)) = true from decide_eq_true (by omega), decide_eq_false h2]; exact ⟨i, by simp⟩
theorem lenI (a b : Nat) : ((a : Int) != (b : Int)) = !decide (a = b) := by
  by_cases h : a = b
  · subst h; simp
  · rw [decide_eq_false h]; exact bne_iff_ne.2 (by omega)
theorem ok_design_point (L : Nat) (f : List api_Factor) (x : List Int) (hs : SmF f) (hL : 100 < L) : F_design_point L f x = some (pchk f x) := by
  have hM := maxLen_eq
  have hlen := hs.len
  simp only [T_design_point, F_design_point, anO_bd, anO_fl, anO_cn, anO_gd, anO_fk, anO_sl, anO_lf, anO_jb, anO_jp, anO_ap, anO_nj, ok_design_usable L f hs hL, Option.bind_some, lenI, pchk]
  by_cases h1 : useE f = 0
  · by_cases h2 : x.length = f.length
    · obtain ⟨j, hj⟩ := q_design_point_1 L f x x 0 0 (by omega)
      rw [lq0_design_point_1 L f x L (by omega) (by omega), hj, List.drop_zero]
      cases okX (fL f) x <;> simp [h1, h2, sel0, sel1]
    · simp [h1, h2]
  · simp [h1, ne0 h1]
def indexR (f : List api_Factor) (x : List Int) : Int × Int := if pchk f x ≠ 0 then (0, pchk f x) else (((ixN (fL f) (toN' x) 0 : Nat) : Int), 0)
theorem pchk_ok {f : List api_Factor} {x : List Int} (h : pchk f x = 0) : UF f ∧ x.length = f.length ∧ okX (fL f) x = true := by
  unfold pchk at h
  split at h
  · rename_i h1; exact absurd h h1
  split at h
  · cases h
  split at h
  · rename_i h1 h2 h3
    exact ⟨use_ok (Classical.not_not.1 h1), Classical.not_not.1 h2, h3⟩
  · cases h
theorem pchk_of {f : List api_Factor} {x : List Int} (h1 : useE f = 0) (h2 : x.length = f.length) (h3 : okX (fL f) x = true) : pchk f x = 0 := by
  unfold pchk; rw [if_neg (by simp [h1]), if_neg (by simp [h2]), if_pos h3]
theorem step_le {n l x P : Nat} (hx : x < l) (h : (n + 1) * (l * P) ≤ 200) (hP : 0 < P) : (n * l + x + 1) * P ≤ 200 ∧ n * l + x < 200 := by
  have h1 : n * l + x + 1 ≤ (n + 1) * l := by rw [Nat.add_mul, Nat.one_mul]; omega
  have h2 : (n * l + x + 1) * P ≤ (n + 1) * l * P := Nat.mul_le_mul_right _ h1
  rw [Nat.mul_assoc] at h2
  have h3 : (n * l + x + 1) * 1 ≤ (n * l + x + 1) * P := Nat.mul_le_mul_left _ hP
  omega
theorem q_Index (L : Nat) (f : List api_Factor) (x : List Int) (hp : ∀ l ∈ fL f, 0 < l) : ∀ (k : List Int) (i n : Nat), i + k.length = f.length → okX (fL (f.drop i)) k = true → (n + 1) * prodN (fL (f.drop i)) ≤ 200 →
    ∃ j, lq_design_Index_1 L f x k i n = some (0, (((ixN (fL (f.drop i)) (toN' k) n : Nat) : Int), j)) := by
  intro k
  induction k with
  | nil =>
    intro i n h _ _
    refine ⟨i, ?_⟩
    have : f.drop i = [] := List.drop_eq_nil_of_le (by simp at h; omega)
    rw [this]; rfl
  | cons y k ih =>
    intro i n h ho hb
    rw [List.length_cons] at h
    have hlt : i < f.length := by omega
    rw [fL_drop f i hlt] at ho hb ⊢
    rw [okX, Bool.and_eq_true, Bool.and_eq_true] at ho
    obtain ⟨⟨h1, h2⟩, h3⟩ := ho
    have h1 := of_decide_eq_true h1
    have h2 := of_decide_eq_true h2
    have hP : 0 < prodN (fL (f.drop (i + 1))) := prod_pos fun l hl => hp l (by
      obtain ⟨a, ha, rfl⟩ := List.mem_map.1 hl
      exact List.mem_map.2 ⟨a, List.mem_of_mem_drop ha, rfl⟩)
    rw [prodN] at hb
    obtain ⟨m, rfl⟩ := Int.eq_ofNat_of_zero_le h1
    obtain ⟨b1, b2⟩ := step_le (x := m) (by omega) hb hP
    obtain ⟨j, hj⟩ := ih (i + 1) (n * (f.getD i default).Levels.length + m) (by omega) h3 b1
    refine ⟨j, ?_⟩
    have e : ixN ((f.getD i default).Levels.length :: fL (f.drop (i + 1))) (toN' ((m : Int) :: k)) n = ixN (fL (f.drop (i + 1))) (toN' k) (n * (f.getD i default).Levels.length + m) := rfl
    rw [e, lq_design_Index_1, ifp (by omega), toN, mulNN]
    generalize n * (f.getD i default).Levels.length = q at b2 hj ⊢
    rw [w64_id (n := (q : Int)) (by omega) (by omega), addNN, w64_id (by omega) (by omega), hj]
theorem ok_design_Index (L : Nat) (f : List api_Factor) (x : List Int) (hs : SmF f) (hL : 100 < L) : F_design_Index L f x = some (indexR f x) := by
  have hM := maxLen_eq
  have hlen := hs.len
  simp only [T_design_Index, F_design_Index, anO_bd, anO_fl, anO_cn, anO_gd, anO_fk, anO_sl, anO_lf, anO_jb, anO_jp, anO_ap, anO_nj, ok_design_point L f x hs hL, Option.bind_some, indexR]
  by_cases h : pchk f x = 0
  · obtain ⟨hu, h2, h3⟩ := pchk_ok h
    have hm := hu.most
    rw [hu.size] at hm
    obtain ⟨j, hj⟩ := q_Index L f x hu.pos x 0 0 (by omega) (by rw [List.drop_zero]; exact h3) (by rw [List.drop_zero]; omega)
    rw [List.drop_zero] at hj
    rw [lq0_design_Index_1 L f x L (by omega) (by omega), show (0 : Int) = ((0 : Nat) : Int) from rfl, hj]
    simp [h, sel0]
  · simp [h, ne0 h]
theorem q_R51_Index_no (L : Nat) (f : List api_Factor) (x : List Int) : ∀ (k : List api_Factor) (i : Nat) (u v n : Int), i + k.length = x.length → okX (fL k) (x.drop i) = false → ∃ j : Int × Int, lq_R51_Index_1 L f x k i u v n = some (0, (0, 2, j)) := by
  intro k
  induction k with
  | nil =>
    intro i u v n h ho
    have : x.drop i = [] := List.drop_eq_nil_of_le (by simp at h; omega)
    rw [this] at ho; cases ho
  | cons y k ih =>
    intro i u v n h ho
    rw [List.length_cons] at h
    have hlt : i < x.length := by omega
    rw [dropG x i hlt] at ho
    rw [lq_R51_Index_1]
    simp only [ifp (show (i : Int) < ((x.length : Nat) : Int) by omega), toN]
    have ho' : ((decide (0 ≤ x.getD i default) && decide (x.getD i default < (y.Levels.length : Int))) && okX (fL k) (x.drop (i + 1))) = false := ho
    by_cases h1 : x.getD i default < 0
    · rw [decide_eq_true h1]; exact ⟨_, rfl⟩
    rw [decide_eq_false h1, cond_false]
    by_cases h2 : x.getD i default < (y.Levels.length : Int)
    · rw [show decide (x.getD i default ≥ (y.Levels.length : Int)) = false from decide_eq_false (by omega), cond_false]
      rw [decide_eq_true h2, decide_eq_true (show 0 ≤ x.getD i default by omega)] at ho'
      exact ih _ _ _ _ (by omega) (by simpa using ho')
    · rw [show decide (x.getD i default ≥ (y.Levels.length : Int)) = true from decide_eq_true (by omega)]; exact ⟨_, rfl⟩
theorem q_R51_Index_ok (L : Nat) (f : List api_Factor) (x : List Int) : ∀ (k : List api_Factor) (i n : Nat) (u v : Int), i + k.length = x.length → (∀ l ∈ fL k, 0 < l) → okX (fL k) (x.drop i) = true → (n + 1) * prodN (fL k) ≤ 200 →
    ∃ j : Int, lq_R51_Index_1 L f x k i u v n = some (1, (u, v, ((ixN (fL k) (toN' (x.drop i)) n : Nat) : Int), j)) := by
  intro k
  induction k with
  | nil =>
    intro i n u v h _ _ _
    have : x.drop i = [] := List.drop_eq_nil_of_le (by simp at h; omega)
    rw [this]; exact ⟨i, rfl⟩
  | cons y k ih =>
    intro i n u v h hp ho hb
    rw [List.length_cons] at h
    have hlt : i < x.length := by omega
    rw [dropG x i hlt] at ho ⊢
    have ho' : ((decide (0 ≤ x.getD i default) && decide (x.getD i default < (y.Levels.length : Int))) && okX (fL k) (x.drop (i + 1))) = true := ho
    rw [Bool.and_eq_true, Bool.and_eq_true] at ho'
    obtain ⟨⟨h1, h2⟩, h3⟩ := ho'
    have h1 := of_decide_eq_true h1
    have h2 := of_decide_eq_true h2
    have hp' : ∀ l ∈ fL k, 0 < l := fun l hl => hp l (List.mem_cons_of_mem _ hl)
    have hb' : (n + 1) * (y.Levels.length * prodN (fL k)) ≤ 200 := hb
    rw [lq_R51_Index_1]
    simp only [ifp (show (i : Int) < ((x.length : Nat) : Int) by omega), toN]
    rw [decide_eq_false (show ¬ x.getD i default < 0 by omega), cond_false, show decide (x.getD i default ≥ (y.Levels.length : Int)) = false from decide_eq_false (by omega), cond_false]
    have e : ixN (fL (y :: k)) (toN' (x.getD i default :: x.drop (i + 1))) n = ixN (fL k) (toN' (x.drop (i + 1))) (n * y.Levels.length + (x.getD i default).toNat) := rfl
    rw [e]
    generalize x.getD i default = z at h1 h2 ⊢
    obtain ⟨m, rfl⟩ := Int.eq_ofNat_of_zero_le h1
    obtain ⟨b1, b2⟩ := step_le (x := m) (by omega) hb' (prod_pos hp')
    obtain ⟨j, hj⟩ := ih (i + 1) (n * y.Levels.length + m) u v (by omega) hp' h3 b1
    refine ⟨j, ?_⟩
    rw [mulNN, Int.toNat_natCast]
    generalize n * y.Levels.length = q at b2 hj ⊢
    rw [w64_id (n := (q : Int)) (by omega) (by omega), addNN, w64_id (by omega) (by omega), hj]
theorem ok_R51_Index (L : Nat) (f : List api_Factor) (x : List Int) (hs : SmF f) (hL : 100 < L) : F_R51_Index L f x = some (indexR f x) := by
  have hM := maxLen_eq
  have hlen := hs.len
  simp only [T_R51_Index, F_R51_Index, anO_bd, anO_fl, anO_cn, anO_gd, anO_fk, anO_sl, anO_lf, anO_jb, anO_jp, anO_ap, anO_nj, ok_R51_Usable L f hs hL, Option.bind_some, indexR, pchk, lenI]
  by_cases h1 : useE f = 0
  · by_cases h2 : x.length = f.length
    · rw [lq0_R51_Index_1 L f x L (by omega) (by omega)]
      by_cases h3 : okX (fL f) x = true
      rotate_left
      · have h3 : okX (fL f) x = false := by simpa using h3
        obtain ⟨j, hj⟩ := q_R51_Index_no L f x f 0 0 0 0 (by omega) (by rw [List.drop_zero]; exact h3)
        rw [hj]; simp [h1, h2, h3, sel0]
      · have hu := use_ok h1
        have hm := hu.most
        rw [hu.size] at hm
        obtain ⟨j, hj⟩ := q_R51_Index_ok L f x f 0 0 0 0 (by omega) hu.pos (by rw [List.drop_zero]; exact h3) (by omega)
        rw [List.drop_zero] at hj
        rw [show lq_R51_Index_1 L f x f 0 0 0 0 = _ from hj]; simp [h1, h2, h3, sel1]
    · simp [h1, h2]
  · simp [h1, ne0 h1]
theorem q_R51_Same_1 (L : Nat) (a b : List Int) : ∀ (k : List Int) (i : Nat) (v : Bool), i + k.length = b.length → ∃ j, lq_R51_Same_1 L a b k i v = some (bif decide (k = b.drop i) then (1, (v, j)) else (0, (false, j))) := by
  intro k
  induction k with
  | nil =>
    intro i v h
    have : b.drop i = [] := List.drop_eq_nil_of_le (by simp at h; omega)
    rw [this]; exact ⟨i, rfl⟩
  | cons y k ih =>
    intro i v h
    rw [List.length_cons] at h
    have hlt : i < b.length := by omega
    obtain ⟨j, hj⟩ := ih (i + 1) v (by omega)
    rw [lq_R51_Same_1, ifp (by omega), toN, hj, dropG b i hlt]
    by_cases h1 : y = b.getD i default
    · rw [show (y != b.getD i default) = false by simp [h1], cond_false, decide_eq_decide.2 (show y :: k = b.getD i default :: b.drop (i + 1) ↔ k = b.drop (i + 1) by rw [List.cons.injEq]; exact and_iff_right h1)]; exact ⟨j, rfl⟩
    · rw [show (y != b.getD i default) = true by simpa using h1, decide_eq_false (show ¬ y :: k = b.getD i default :: b.drop (i + 1) by rw [List.cons.injEq]; exact fun h => h1 h.1)]; exact ⟨i, rfl⟩
theorem ok_R51_Same (L : Nat) (a b : List Int) (hl : a.length ≤ maxLen) (hL : a.length < L) : F_R51_Same L a b = some (decide (a = b)) := by
  simp only [T_R51_Same, F_R51_Same, anO_bd, anO_fl, anO_cn, anO_gd, anO_fk, anO_sl, anO_lf, anO_jb, anO_jp, anO_ap, anO_nj, lenI]
  by_cases h : a.length = b.length
  · obtain ⟨j, hj⟩ := q_R51_Same_1 L a b a 0 false (by omega)
    rw [decide_eq_true h, lq0_R51_Same_1 L a b L hl hL, hj, List.drop_zero]
    cases decide (a = b) <;> rfl
  · rw [decide_eq_false h, decide_eq_false (show ¬ a = b from fun e => h (by rw [e]))]; rfl
instance decSet : DecidableEq api_Setting := fun a b => decidable_of_iff (a.Name = b.Name ∧ a.N = b.N) (by cases a; cases b; simp)
end Go.Proofs.YtaaiehkfndibkaaGreat.Ev
