/-  Chapter 51, plainly: points that are near, every second point. -/
import Derived.Test.YtaaiehkfndibkaaGreatQ1
import Derived.Test.YtaaiehkfndibkaaGreatQ2
import Derived.Test.YtaaiehkfndibkaaGreatDd
namespace Go.Proofs.YtaaiehkfndibkaaGreat.Ev
open Go
set_option maxRecDepth 100000
set_option linter.unusedVariables false
set_option linter.unusedSimpArgs false
set_option linter.unnecessarySimpa false
theorem ok_R51_with (L : Nat) (x : List Int) (k : Nat) (v : Int) (hk : k < x.length) (hx : x.length ≤ 1000) : F_R51_with L x k v = some (x.set k v) := by
  have hM := maxLen_eq
  have h0 : Nat.beq x.length 0 = false := by
    cases h : Nat.beq x.length 0 with
    | false => rfl
    | true => have := Nat.eq_of_beq_eq_true h; omega
  simp only [T_R51_with, F_R51_with, anO_bd, anO_fl, anO_cn, anO_gd, anO_fk, anO_sl, anO_lf, anO_jb, anO_jp, anO_ap, anO_nj, h0, cond_false, nn, if_true, ltI hk, toN]
  rw [ifp (by omega), ifp (by omega)]
def nearX (x : List Int) : List Nat → List Int → Nat → List (List Int)
  | l :: ls, a :: u, k => (if 0 < a then [x.set k (a - 1)] else []) ++ ((if a + 1 < (l : Int) then [x.set k (a + 1)] else []) ++ nearX x ls u (k + 1))
  | _, _, _ => []
theorem nearX_len (x : List Int) : ∀ (ls : List Nat) (u : List Int) (k : Nat), (nearX x ls u k).length ≤ 2 * u.length ∧ ∀ y ∈ nearX x ls u k, y.length = x.length
  | [], u, k => by simp [nearX]
  | l :: ls, [], k => by simp [nearX]
  | l :: ls, a :: u, k => by
    obtain ⟨h1, h2⟩ := nearX_len x ls u (k + 1)
    rw [nearX]
    refine ⟨?_, fun y hy => ?_⟩
    · simp only [List.length_append, List.length_cons]
      split <;> split <;> simp <;> omega
    · rw [List.mem_append, List.mem_append] at hy
      rcases hy with hy | hy | hy
      · split at hy
        · simp at hy; subst hy; simp
        · cases hy
      · split at hy
        · simp at hy; subst hy; simp
        · cases hy
      · exact h2 y hy
theorem nearX_nil (x u : List Int) (k : Nat) : nearX x [] u k = [] := by cases u <;> rfl
theorem toI_set (x : List Nat) (k v : Nat) : toI (x.set k v) = (toI x).set k (v : Int) := by simp [toI, List.map_set]
theorem nearX_N (x : List Nat) : ∀ (ls u : List Nat) (k : Nat), nearX (toI x) ls (toI u) k = (nearN x ls u k).map toI
  | [], u, k => by simp [nearX, nearN]
  | l :: ls, [], k => by simp [nearX, nearN, toI]
  | l :: ls, a :: u, k => by
    have ih := nearX_N x ls u (k + 1)
    show nearX (toI x) (l :: ls) ((a : Int) :: toI u) k = _
    rw [nearX, nearN, ih, List.map_append, List.map_append]
    congr 1
    · by_cases h : 0 < a
      · rw [if_pos h, if_pos (by omega), show (a : Int) - 1 = ((a - 1 : Nat) : Int) by omega, ← toI_set]; rfl
      · rw [if_neg h, if_neg (by omega)]; rfl
    congr 1
    by_cases h : a + 1 < l
    · rw [if_pos h, if_pos (by omega), show (a : Int) + 1 = ((a + 1 : Nat) : Int) by omega, ← toI_set]; rfl
    · rw [if_neg h, if_neg (by omega)]; rfl
theorem near_round (L : Nat) (f : List api_Factor) (x : List Int) (i : Nat) (hi : i < f.length) (hx : i < x.length) (hxl : x.length ≤ 100) (v n : Nat) (hv : v < 2) (z : Int) (hz : [w64 (x.getD i default - 1), w64 (x.getD i default + 1)].getD v default = z) (acc : List (List Int)) (ha : acc.length ≤ 1000) :
    lp_design_Near_2 L f x i (n + 1) acc v = if 0 ≤ z ∧ z < ((f.getD i default).Levels.length : Int) then lp_design_Near_2 L f x i n (acc ++ [x.set i z]) ((v + 1 : Nat) : Int) else lp_design_Near_2 L f x i n acc ((v + 1 : Nat) : Int) := by
  have hM := maxLen_eq
  have h0 : Nat.beq x.length 0 = false := by
    cases h : Nat.beq x.length 0 with
    | false => rfl
    | true => have := Nat.eq_of_beq_eq_true h; omega
  have hv1 : decide ((v : Int) < (([w64 (x.getD i default - 1), w64 (x.getD i default + 1)].length : Nat) : Int)) = true := decide_eq_true (by simp only [List.length_cons, List.length_nil]; omega)
  have hv2 : ((v : Int) < (([w64 (x.getD i default - 1), w64 (x.getD i default + 1)].length : Nat) : Int)) = True := eq_true (by simp only [List.length_cons, List.length_nil]; omega)
  have hp : 0 < x.length := by omega
  simp only [lp_design_Near_2, lb_design_Near_2, anO_bd, anO_fl, anO_cn, anO_gd, anO_fk, anO_sl, anO_lf, anO_jb, anO_jp, anO_ap, anO_nj, hv2, decide_true, cond_true, nn, if_true, toN, hz, ltI hi, ltI hx, h0, cond_false, hp, w64_succ (show v < 2 from hv) (by omega)]
  by_cases c1 : 0 ≤ z
  · rw [show decide (z ≥ 0) = true from decide_eq_true c1, cond_true, Option.bind_some]
    by_cases c2 : z < ((f.getD i default).Levels.length : Int)
    · rw [decide_eq_true c2, cond_true, ifp (show x.length * 8 ≤ 140737488355328 by omega), ifp (show x.length ≤ maxLen by omega), ifp (show (acc.length + [x.set i z].length) * 24 ≤ 140737488355328 by simp only [List.length_cons, List.length_nil]; omega), ifp (show acc.length + [x.set i z].length ≤ maxLen by simp only [List.length_cons, List.length_nil]; omega), if_pos (show 0 ≤ z ∧ z < ((f.getD i default).Levels.length : Int) from ⟨c1, c2⟩)]
    · rw [decide_eq_false c2, cond_false, if_neg (fun h => c2 h.2)]
  · rw [show decide (z ≥ 0) = false from decide_eq_false c1, cond_false, Option.bind_some, cond_false, if_neg (fun h => c1 h.1)]
theorem lp_Near_2 (L : Nat) (f : List api_Factor) (x : List Int) (i : Nat) (hi : i < f.length) (hx : i < x.length) (hxl : x.length ≤ 100) (n : Nat) (h0 : 0 ≤ x.getD i default) (h1 : x.getD i default < ((f.getD i default).Levels.length : Int)) (h2 : (f.getD i default).Levels.length ≤ 300) (acc : List (List Int)) (ha : acc.length ≤ 900) :
    ∃ j, lp_design_Near_2 L f x i (n + 3) acc 0 = some (0, (acc ++ ((if 0 < x.getD i default then [x.set i (x.getD i default - 1)] else []) ++ (if x.getD i default + 1 < ((f.getD i default).Levels.length : Int) then [x.set i (x.getD i default + 1)] else [])), j)) := by
  have e1 : w64 (x.getD i default - 1) = x.getD i default - 1 := w64_id (by omega) (by omega)
  have e2 : w64 (x.getD i default + 1) = x.getD i default + 1 := w64_id (by omega) (by omega)
  have fin : ∀ acc, lp_design_Near_2 L f x i (n + 1) acc ((2 : Nat) : Int) = some (0, (acc, ((2 : Nat) : Int))) := fun acc => by
    have : decide ((((2 : Nat) : Int)) < (([w64 (x.getD i default - 1), w64 (x.getD i default + 1)].length : Nat) : Int)) = false := decide_eq_false (by simp only [List.length_cons, List.length_nil]; omega)
    simp only [lp_design_Near_2, lb_design_Near_2, anO_bd, anO_fl, anO_cn, anO_gd, anO_fk, anO_sl, anO_lf, anO_jb, anO_jp, anO_ap, anO_nj, toN, this, cond_false]
  have r0 := fun acc ha => near_round L f x i hi hx hxl 0 (n + 2) (by omega) (x.getD i default - 1) (by rw [e1]; rfl) acc ha
  have r1 := fun acc ha => near_round L f x i hi hx hxl 1 (n + 1) (by omega) (x.getD i default + 1) (by rw [e2]; rfl) acc ha
  refine ⟨((2 : Nat) : Int), ?_⟩
  rw [show (0 : Int) = ((0 : Nat) : Int) from rfl, r0 acc (by omega)]
  generalize hz : x.getD i default = z at *
  by_cases c0 : 0 < z
  · rw [if_pos (by omega), r1 _ (by simp; omega), show ((0 : Nat) : Int) = 0 from rfl, if_pos c0]
    by_cases c1 : z + 1 < ((f.getD i default).Levels.length : Int)
    · rw [if_pos (by omega), if_pos c1, fin]; simp
    · rw [if_neg (by omega), if_neg c1, fin]; simp
  · rw [if_neg (by omega), r1 _ (by omega), show ((0 : Nat) : Int) = 0 from rfl, if_neg c0]
    by_cases c1 : z + 1 < ((f.getD i default).Levels.length : Int)
    · rw [if_pos (by omega), if_pos c1, fin]; simp
    · rw [if_neg (by omega), if_neg c1, fin]; simp
theorem q_design_Near_1 (L : Nat) (f : List api_Factor) (x : List Int) (hs : SmF f) (hx : x.length = f.length) (hL : 100 < L) : ∀ (k : List Int) (i : Nat) (acc : List (List Int)), x.drop i = k → okX (fL (f.drop i)) k = true → acc.length + 2 * k.length ≤ 200 →
    ∃ j, lq_design_Near_1 L f x k i acc = some (0, (acc ++ nearX x (fL (f.drop i)) k i, j)) := by
  have hlen := hs.len
  intro k
  induction k with
  | nil =>
    intro i acc h _ _
    have : f.drop i = [] := List.drop_eq_nil_of_le (by have := List.drop_eq_nil_iff.1 h; omega)
    exact ⟨i, by rw [this, lq_design_Near_1, fL, List.map_nil, nearX_nil, List.append_nil]⟩
  | cons y k ih =>
    intro i acc hk ho ha
    obtain ⟨hi, hy, hk'⟩ := drop_cons hk
    have hlt : i < f.length := by omega
    rw [fL_drop f i hlt] at ho ⊢
    rw [okX, Bool.and_eq_true, Bool.and_eq_true] at ho
    obtain ⟨⟨h1, h2⟩, h3⟩ := ho
    have h1 := of_decide_eq_true h1
    have h2 := of_decide_eq_true h2
    have hlev : (f.getD i default).Levels.length ≤ 300 := by
      rw [getD_eq f i hlt]; exact hs.lev _ (List.getElem_mem hlt)
    rw [List.length_cons] at ha
    obtain ⟨n, rfl⟩ : ∃ n, L = n + 3 := ⟨L - 3, by omega⟩
    obtain ⟨j, hj⟩ := lp_Near_2 (n + 3) f x i hlt hi (by omega) n (by rw [hy]; exact h1) (by rw [hy]; exact h2) hlev acc (by omega)
    rw [hy] at hj
    rw [lq_design_Near_1, hj, Option.bind_some, sel0, nearX]
    obtain ⟨j2, hj2⟩ := ih (i + 1) (acc ++ ((if 0 < y then [x.set i (y - 1)] else []) ++ (if y + 1 < ((f.getD i default).Levels.length : Int) then [x.set i (y + 1)] else []))) hk' h3 (by
      simp only [List.length_append]
      split <;> split <;> simp <;> omega)
    exact ⟨j2, by rw [hj2]; simp only [List.append_assoc]⟩
theorem q_R51_Near_1 (L : Nat) (f : List api_Factor) (x : List Int) (hx : x.length = f.length) (hs : SmF f) : ∀ (k : List api_Factor) (i : Nat) (acc : List (List Int)), f.drop i = k → okX (fL k) (x.drop i) = true → acc.length + 2 * k.length ≤ 200 →
    ∃ j, lq_R51_Near_1 L f x k i acc = some (0, (acc ++ nearX x (fL k) (x.drop i) i, j)) := by
  have hlen := hs.len
  have hM := maxLen_eq
  intro k
  induction k with
  | nil =>
    intro i acc h _ _
    exact ⟨i, by rw [lq_R51_Near_1, fL, List.map_nil, nearX_nil, List.append_nil]⟩
  | cons y k ih =>
    intro i acc hk ho ha
    obtain ⟨hi, hy, hk'⟩ := drop_cons hk
    have hlt : i < x.length := by omega
    have hlev : y.Levels.length ≤ 300 := hs.lev y (by rw [← hy, getD_eq f i hi]; exact List.getElem_mem hi)
    rw [dropG x i hlt] at ho ⊢
    have ho' : ((decide (0 ≤ x.getD i default) && decide (x.getD i default < (y.Levels.length : Int))) && okX (fL k) (x.drop (i + 1))) = true := ho
    rw [Bool.and_eq_true, Bool.and_eq_true] at ho'
    obtain ⟨⟨h1, h2⟩, h3⟩ := ho'
    have h1 := of_decide_eq_true h1
    have h2 := of_decide_eq_true h2
    rw [List.length_cons] at ha
    have e1 : w64 (x.getD i default - 1) = x.getD i default - 1 := w64_id (by omega) (by omega)
    have e2 : w64 (x.getD i default + 1) = x.getD i default + 1 := w64_id (by omega) (by omega)
    have e3 : w64 ((y.Levels.length : Int) - 1) = (y.Levels.length : Int) - 1 := w64_id (by omega) (by omega)
    have wi := fun v => ok_R51_with L x i v hlt (by omega)
    show ∃ j, _ = some (0, (acc ++ ((if 0 < x.getD i default then [x.set i (x.getD i default - 1)] else []) ++ ((if x.getD i default + 1 < (y.Levels.length : Int) then [x.set i (x.getD i default + 1)] else []) ++ nearX x (fL k) (x.drop (i + 1)) (i + 1))), j))
    simp only [lq_R51_Near_1, ltI hlt, if_true, toN, e1, e2, e3, wi, Option.bind_some, List.length_cons, List.length_nil, List.length_append]
    by_cases c0 : 0 < x.getD i default
    · rw [show decide (x.getD i default > 0) = true from decide_eq_true c0, cond_true, if_pos c0, ifp (by omega), ifp (by omega)]
      by_cases c1 : x.getD i default + 1 < (y.Levels.length : Int)
      · obtain ⟨j, hj⟩ := ih (i + 1) ((acc ++ [x.set i (x.getD i default - 1)]) ++ [x.set i (x.getD i default + 1)]) hk' h3 (by simp; omega)
        rw [show decide (x.getD i default < (y.Levels.length : Int) - 1) = true from decide_eq_true (by omega), cond_true, if_pos c1, ifp (by omega), ifp (by omega), hj]
        exact ⟨j, by simp only [List.append_assoc]⟩
      · obtain ⟨j, hj⟩ := ih (i + 1) (acc ++ [x.set i (x.getD i default - 1)]) hk' h3 (by simp; omega)
        rw [show decide (x.getD i default < (y.Levels.length : Int) - 1) = false from decide_eq_false (by omega), cond_false, if_neg c1, hj]
        exact ⟨j, by simp only [List.append_assoc, List.nil_append]⟩
    · rw [show decide (x.getD i default > 0) = false from decide_eq_false c0, cond_false, if_neg c0, List.nil_append]
      by_cases c1 : x.getD i default + 1 < (y.Levels.length : Int)
      · obtain ⟨j, hj⟩ := ih (i + 1) (acc ++ [x.set i (x.getD i default + 1)]) hk' h3 (by simp; omega)
        rw [show decide (x.getD i default < (y.Levels.length : Int) - 1) = true from decide_eq_true (by omega), cond_true, if_pos c1, ifp (by omega), ifp (by omega), hj]
        exact ⟨j, by simp only [List.append_assoc]⟩
      · obtain ⟨j, hj⟩ := ih (i + 1) acc hk' h3 (by omega)
        rw [show decide (x.getD i default < (y.Levels.length : Int) - 1) = false from decide_eq_false (by omega), cond_false, if_neg c1, hj]
        exact ⟨j, by simp only [List.nil_append]⟩
def nearR (f : List api_Factor) (x : List Int) : List (List Int) × Int := if pchk f x ≠ 0 then ([], pchk f x) else (nearX x (fL f) x 0, 0)
theorem ok_Nears (L : Nat) (f : List api_Factor) (x : List Int) (hs : SmF f) (hL : 100 < L) : F_design_Near L f x = some (nearR f x) ∧ F_R51_Near L f x = some (nearR f x) := by
  have hM := maxLen_eq
  have hlen := hs.len
  simp only [T_design_Near, F_design_Near, T_R51_Near, F_R51_Near, anO_bd, anO_fl, anO_cn, anO_gd, anO_fk, anO_sl, anO_lf, anO_jb, anO_jp, anO_ap, anO_nj, ok_design_point L f x hs hL, ok_R51_Index L f x hs hL, Option.bind_some]
  by_cases h : pchk f x = 0
  · obtain ⟨hu, h2, h3⟩ := pchk_ok h
    have e1 : nearR f x = (nearX x (fL f) x 0, 0) := if_neg (by simp [h])
    have e2 : (indexR f x).2 = 0 := by unfold indexR; rw [if_neg (by simp [h])]
    have h6 := hu.len
    obtain ⟨j1, hj1⟩ := q_design_Near_1 L f x hs h2 hL x 0 [] rfl (by rw [List.drop_zero]; exact h3) (by simp; omega)
    obtain ⟨j2, hj2⟩ := q_R51_Near_1 L f x h2 hs f 0 [] rfl (by rw [List.drop_zero]; exact h3) (by simp; omega)
    rw [List.drop_zero] at hj1 hj2
    rw [lq0_design_Near_1 L f x L (by omega) (by omega), lq0_R51_Near_1 L f x L (by omega) (by omega), hj1, hj2, e1, e2, h]
    exact ⟨rfl, rfl⟩
  · have e1 : nearR f x = ([], pchk f x) := if_pos h
    have e2 : (indexR f x).2 = pchk f x := by unfold indexR; rw [if_pos h]
    rw [e1, e2, ne0 h]; exact ⟨rfl, rfl⟩
theorem q_design_Half_2 (L : Nat) (f : List api_Factor) (u : List Int) (v : Int) (r : List Int × Int) (z : Int) : ∀ (k : List Nat) (i s : Nat), s + sumN k ≤ 1000000 → ∃ j, lq_design_Half_2 L f u v r z (toI k) i s = some (0, (((s + sumN k : Nat) : Int), j)) := by
  intro k
  induction k with
  | nil => intro i s _; exact ⟨i, rfl⟩
  | cons x k ih =>
    intro i s h
    have h' : s + (x + sumN k) ≤ 1000000 := h
    obtain ⟨j, hj⟩ := ih (i + 1) (s + x) (by omega)
    refine ⟨j, ?_⟩
    show lq_design_Half_2 L f u v r z ((x : Int) :: toI k) i s = _
    rw [lq_design_Half_2, addNN, w64_id (by omega) (by omega), hj, sumN, Nat.add_assoc]
theorem q_R51_Half_2 (L : Nat) (f : List api_Factor) (u : List Int) (v : Int) (r : List Int × Int) : ∀ (k : List Nat) (i s : Nat), s + sumN k ≤ 1000000 → ∃ j, lq_R51_Half_2 L f u v r (toI k) i s = some (0, (((s + sumN k : Nat) : Int), j)) := by
  intro k
  induction k with
  | nil => intro i s _; exact ⟨i, rfl⟩
  | cons x k ih =>
    intro i s h
    have h' : s + (x + sumN k) ≤ 1000000 := h
    obtain ⟨j, hj⟩ := ih (i + 1) (s + x) (by omega)
    refine ⟨j, ?_⟩
    show lq_R51_Half_2 L f u v r ((x : Int) :: toI k) i s = _
    rw [lq_R51_Half_2, addNN, w64_id (by omega) (by omega), hj, sumN, Nat.add_assoc]
theorem sum_ok : ∀ {ls xs : List Nat}, okN ls xs → (∀ l ∈ ls, l ≤ 300) → sumN xs ≤ 300 * ls.length
  | [], [], _, _ => by simp [sumN]
  | [], _ :: _, h, _ => h.elim
  | _ :: _, [], h, _ => h.elim
  | l :: ls, x :: xs, h, hl => by
    have h1 := sum_ok h.2 fun l h => hl l (by simp [h])
    have h2 := hl l (by simp)
    have h3 := h.1
    rw [sumN, List.length_cons]; omega
def halfL (f : List api_Factor) : Nat → Nat → List Int
  | 0, _ => []
  | m + 1, i => (if sumN (ptN (fL f) i).1 % 2 = 0 then [(i : Int)] else []) ++ halfL f m (i + 1)
theorem half_mem (f : List api_Factor) (n : Nat) : ∀ (m i : Nat), (n : Int) ∈ halfL f m i ↔ i ≤ n ∧ n < i + m ∧ sumN (ptN (fL f) n).1 % 2 = 0
  | 0, i => by simp [halfL]; omega
  | m + 1, i => by
    rw [halfL, List.mem_append, half_mem f n m (i + 1)]
    by_cases h : sumN (ptN (fL f) i).1 % 2 = 0
    · rw [if_pos h, List.mem_singleton]
      constructor
      · rintro (e | e)
        · have : n = i := by omega
          subst this; exact ⟨by omega, by omega, h⟩
        · exact ⟨by omega, by omega, e.2.2⟩
      · rintro ⟨a, b, c⟩
        by_cases e : n = i
        · exact .inl (by omega)
        · exact .inr ⟨by omega, by omega, c⟩
    · rw [if_neg h]
      constructor
      · rintro (e | e)
        · cases e
        · exact ⟨by omega, by omega, e.2.2⟩
      · rintro ⟨a, b, c⟩
        refine .inr ⟨?_, by omega, c⟩
        rcases Nat.lt_or_ge i n with h1 | h1
        · exact h1
        · have : n = i := by omega
          subst this; exact absurd c h
theorem half_len (f : List api_Factor) : ∀ (m i : Nat), (halfL f m i).length ≤ m
  | 0, i => by simp [halfL]
  | m + 1, i => by
    have := half_len f m (i + 1)
    rw [halfL, List.length_append]
    split <;> simp <;> omega
theorem lp_Half (L : Nat) (f : List api_Factor) (hs : SmF f) (hL : 100 < L) (hu : UF f) (he : useE f = 0) : ∀ (m i n : Nat) (acc : List Int), i + m = sizeF f → m < n → acc.length + m ≤ 400 →
    (∃ j, lp_design_Half_1 L f (sizeF f : Nat) n acc i = some (0, (acc ++ halfL f m i, j))) ∧ (∃ j, lp_R51_Half_1 L f n acc i = some (0, (acc ++ halfL f m i, j))) := by
  have hM := maxLen_eq
  have hsz := hu.most
  have h6 := hu.len
  intro m
  induction m with
  | zero =>
    intro i n acc hi hn ha
    obtain ⟨n, rfl⟩ : ∃ k, n = k + 1 := ⟨n - 1, by omega⟩
    have hd : decide ((i : Int) < (sizeF f : Int)) = false := decide_eq_false (by omega)
    refine ⟨⟨i, ?_⟩, ⟨i, ?_⟩⟩
    · simp only [lp_design_Half_1, lb_design_Half_1, anO_bd, anO_fl, anO_cn, anO_gd, anO_fk, anO_sl, anO_lf, anO_jb, anO_jp, anO_ap, anO_nj, hd, cond_false, halfL, List.append_nil]
    · simp only [lp_R51_Half_1, lb_R51_Half_1, anO_bd, anO_fl, anO_cn, anO_gd, anO_fk, anO_sl, anO_lf, anO_jb, anO_jp, anO_ap, anO_nj, ok_R51_Size L f hs hL, Option.bind_some, hd, cond_false, halfL, List.append_nil]
  | succ m ih =>
    intro i n acc hi hn ha
    obtain ⟨n, rfl⟩ : ∃ k, n = k + 1 := ⟨n - 1, by omega⟩
    have hd : decide ((i : Int) < (sizeF f : Int)) = true := decide_eq_true (by omega)
    obtain ⟨p1, p2⟩ := ok_Points L f i hs hL
    rw [pointR_ok he (by omega)] at p1 p2
    have hlen : (toI (ptN (fL f) i).1).length = f.length := by simp [toI, ptN_len, fL]
    have hsum := sum_ok (pt_ok (ls := fL f) i hu.pos) (fun l hl => by
      obtain ⟨a, ha, rfl⟩ := List.mem_map.1 hl
      exact hs.lev a ha)
    have hfl : (fL f).length = f.length := by simp [fL]
    obtain ⟨j1, q1⟩ := q_design_Half_2 L f acc i (toI (ptN (fL f) i).1, 0) (sizeF f : Nat) (ptN (fL f) i).1 0 0 (by omega)
    obtain ⟨j2, q2⟩ := q_R51_Half_2 L f acc i (toI (ptN (fL f) i).1, 0) (ptN (fL f) i).1 0 0 (by omega)
    rw [Nat.zero_add] at q1 q2
    have w : w64 ((i : Int) + 1) = ((i + 1 : Nat) : Int) := by rw [w64_id (by omega) (by omega)]; omega
    have q1 : lq_design_Half_2 L f acc i (toI (ptN (fL f) i).1, 0) (sizeF f : Nat) (toI (ptN (fL f) i).1) 0 0 = _ := q1
    have q2 : lq_R51_Half_2 L f acc i (toI (ptN (fL f) i).1, 0) (toI (ptN (fL f) i).1) 0 0 = _ := q2
    have e2 : ∀ s : Nat, Int.tmod (s : Int) 2 = ((s % 2 : Nat) : Int) := fun s => tmodN s 2
    simp only [lp_design_Half_1, lb_design_Half_1, lp_R51_Half_1, lb_R51_Half_1, anO_bd, anO_fl, anO_cn, anO_gd, anO_fk, anO_sl, anO_lf, anO_jb, anO_jp, anO_ap, anO_nj, ok_R51_Size L f hs hL, hd, cond_true, p1, p2, Option.bind_some, lq0_design_Half_2 L f acc i (toI (ptN (fL f) i).1, 0) (sizeF f : Nat) L (show (toI (ptN (fL f) i).1).length ≤ maxLen by omega) (show (toI (ptN (fL f) i).1).length < L by omega), lq0_R51_Half_2 L f acc i (toI (ptN (fL f) i).1, 0) L (show (toI (ptN (fL f) i).1).length ≤ maxLen by omega) (show (toI (ptN (fL f) i).1).length < L by omega)]
    simp only [q1, q2, Option.bind_some, sel0, e2, len0, w, halfL, List.length_cons, List.length_nil]
    by_cases c : sumN (ptN (fL f) i).1 % 2 = 0
    · obtain ⟨⟨k1, h1⟩, ⟨k2, h2⟩⟩ := ih (i + 1) n (acc ++ [(i : Int)]) (by omega) (by omega) (by simp; omega)
      rw [decide_eq_true c, cond_true, cond_true, if_pos c, ifp (by omega), ifp (by omega), ifp (by omega), ifp (by omega), h1, h2, List.append_assoc]
      exact ⟨⟨k1, rfl⟩, ⟨k2, rfl⟩⟩
    · obtain ⟨⟨k1, h1⟩, ⟨k2, h2⟩⟩ := ih (i + 1) n acc (by omega) (by omega) (by omega)
      rw [decide_eq_false c, cond_false, cond_false, if_neg c, h1, h2, List.nil_append]
      exact ⟨⟨k1, rfl⟩, ⟨k2, rfl⟩⟩
def halfR (f : List api_Factor) : List Int := if useE f ≠ 0 then [] else halfL f (sizeF f) 0
theorem ok_Halfs (L : Nat) (f : List api_Factor) (hs : SmF f) (hL : 1000 < L) : F_design_Half L f = some (halfR f) ∧ F_R51_Half L f = some (halfR f) := by
  simp only [T_design_Half, F_design_Half, T_R51_Half, F_R51_Half, anO_bd, anO_fl, anO_cn, anO_gd, anO_fk, anO_sl, anO_lf, anO_jb, anO_jp, anO_ap, anO_nj, ok_design_usable L f hs (by omega), ok_R51_Usable L f hs (by omega), ok_design_Size L f hs (by omega), Option.bind_some, halfR]
  by_cases h : useE f = 0
  · have hu := use_ok h
    have hm := hu.most
    obtain ⟨⟨k1, h1⟩, ⟨k2, h2⟩⟩ := lp_Half L f hs (by omega) hu h (sizeF f) 0 L [] (by omega) (by omega) (by simp; omega)
    rw [show ((0 : Nat) : Int) = 0 from rfl] at h1 h2
    rw [h1, h2]; simp [h, sel0]
  · simp [h, ne0 h]
theorem q_R51_SamePoints_1 (L : Nat) (a b : List (List Int)) : ∀ (k : List (List Int)) (i : Nat) (v : Bool), i + k.length = b.length → (∀ x ∈ k, x.length ≤ maxLen ∧ x.length < L) → ∃ j, lq_R51_SamePoints_1 L a b k i v = some (bif decide (k = b.drop i) then (1, (v, j)) else (0, (false, j))) := by
  intro k
  induction k with
  | nil =>
    intro i v h _
    have : b.drop i = [] := List.drop_eq_nil_of_le (by simp at h; omega)
    rw [this]; exact ⟨i, rfl⟩
  | cons y k ih =>
    intro i v h hl
    rw [List.length_cons] at h
    have hlt : i < b.length := by omega
    obtain ⟨j, hj⟩ := ih (i + 1) v (by omega) fun x hx => hl x (by simp [hx])
    obtain ⟨l1, l2⟩ := hl y (by simp)
    rw [lq_R51_SamePoints_1, ifp (by omega), toN, ok_R51_Same L y _ l1 l2, Option.bind_some, hj, dropG b i hlt]
    by_cases h1 : y = b.getD i default
    · rw [decide_eq_true h1, Bool.not_true, cond_false, decide_eq_decide.2 (show y :: k = b.getD i default :: b.drop (i + 1) ↔ k = b.drop (i + 1) by rw [List.cons.injEq]; exact and_iff_right h1)]; exact ⟨j, rfl⟩
    · rw [decide_eq_false h1, Bool.not_false, decide_eq_false (show ¬ y :: k = b.getD i default :: b.drop (i + 1) by rw [List.cons.injEq]; exact fun h => h1 h.1)]; exact ⟨i, rfl⟩
theorem ok_R51_SamePoints (L : Nat) (a b : List (List Int)) (hl : a.length ≤ maxLen) (hL : a.length < L) (h2 : ∀ x ∈ a, x.length ≤ maxLen ∧ x.length < L) : F_R51_SamePoints L a b = some (decide (a = b)) := by
  simp only [T_R51_SamePoints, F_R51_SamePoints, anO_bd, anO_fl, anO_cn, anO_gd, anO_fk, anO_sl, anO_lf, anO_jb, anO_jp, anO_ap, anO_nj, lenI]
  by_cases h : a.length = b.length
  · obtain ⟨j, hj⟩ := q_R51_SamePoints_1 L a b a 0 false (by omega) h2
    rw [decide_eq_true h, lq0_R51_SamePoints_1 L a b L hl hL, hj, List.drop_zero]
    cases decide (a = b) <;> rfl
  · rw [decide_eq_false h, decide_eq_false (show ¬ a = b from fun e => h (by rw [e]))]; rfl
end Go.Proofs.YtaaiehkfndibkaaGreat.Ev
