/-  Layers 1 and 15, plainly: sums, products and quotients of any two numbers; forms of expressions with values. -/
import Derived.Test.YtonfmpiikdmndaaGreatQ2
import Derived.Test.YtonfmpiikdmndaaGreatQ3
import Derived.Test.YtonfmpiikdmndaaGreatDb
import Derived.Test.YtonfmpiikdmndaaGreatBa
namespace Go.Proofs.YtonfmpiikdmndaaGreat.Ev
open Go
set_option maxRecDepth 100000
set_option linter.unusedVariables false
set_option linter.unusedSimpArgs false
set_option linter.unnecessarySimpa false
theorem clip_clip (n : Int) : clipZ (clipZ n) = clipZ n := clipZ_id (clipZ_in n)
theorem ok_num_Clip (L : Nat) (n : Int) : F_num_Clip L n = some (clipZ n) := by
  simp only [T_num_Clip, F_num_Clip, anO_bd, anO_fl, anO_cn, anO_gd, anO_fk, anO_sl, anO_lf, anO_jb, anO_jp, anO_ap, anO_nj]
  congr 1
  unfold clipZ
  by_cases h : 1000000000000 < n
  · simp only [h, if_true]
    rw [if_pos (by decide), if_neg (by omega)]
  · simp only [h, if_false]
    split <;> split <;> omega
theorem ok_R01_Clip (L : Nat) (n : Int) : F_R01_Clip L n = some (clipZ n) := by
  simp only [T_R01_Clip, F_R01_Clip, anO_bd, anO_fl, anO_cn, anO_gd, anO_fk, anO_sl, anO_lf, anO_jb, anO_jp, anO_ap, anO_nj, cond_ss]
  congr 1
  unfold clipZ
  by_cases h : n > 1000000000000
  · rw [decide_eq_true h, cond_true, if_neg (by omega), if_pos (by omega)]
  · by_cases h' : n < -1000000000000
    · rw [decide_eq_false h, decide_eq_true h', cond_true, cond_false, if_pos h']
    · rw [decide_eq_false h, decide_eq_false h', cond_false, cond_false, if_neg h', if_neg (by omega)]
theorem ok_num_Add (L : Nat) (a b : Int) : F_num_Add L a b = some (addZ a b) := by
  have ha := clipZ_in a
  have hb := clipZ_in b
  simp only [T_num_Add, F_num_Add, anO_bd, anO_fl, anO_cn, anO_gd, anO_fk, anO_sl, anO_lf, anO_jb, anO_jp, anO_ap, anO_nj, ok_num_Clip, Option.bind_some, w64_id (n := clipZ a + clipZ b) (by omega) (by omega), addZ]
theorem ok_R01_Add (L : Nat) (a b : Int) : F_R01_Add L a b = some (addZ a b) := by
  have ha := clipZ_in a
  have hb := clipZ_in b
  simp only [T_R01_Add, F_R01_Add, anO_bd, anO_fl, anO_cn, anO_gd, anO_fk, anO_sl, anO_lf, anO_jb, anO_jp, anO_ap, anO_nj, ok_R01_Clip, Option.bind_some, w64_id (n := clipZ a + clipZ b) (by omega) (by omega), addZ]
theorem ok_num_size (L : Nat) (x : Int) (h : -1000000000000 ≤ x ∧ x ≤ 1000000000000) : F_num_size L x = some (x.natAbs : Int) := by
  simp only [T_num_size, F_num_size, anO_bd, anO_fl, anO_cn, anO_gd, anO_fk, anO_sl, anO_lf, anO_jb, anO_jp, anO_ap, anO_nj]
  rw [w64_id (by omega) (by omega)]
  congr 1
  split <;> omega
theorem ok_R01_Abs (L : Nat) (x : Int) (h : -1000000000000 ≤ x ∧ x ≤ 1000000000000) : F_R01_Abs L x = some (x.natAbs : Int) := by
  simp only [T_R01_Abs, F_R01_Abs, anO_bd, anO_fl, anO_cn, anO_gd, anO_fk, anO_sl, anO_lf, anO_jb, anO_jp, anO_ap, anO_nj, cond_ss]
  rw [w64_id (by omega) (by omega)]
  congr 1
  by_cases h0 : x < 0
  · rw [decide_eq_true h0, cond_true]; omega
  · rw [decide_eq_false h0, cond_false]; omega
theorem mul_sgn (x y : Int) : ((decide (x < 0) == decide (y < 0)) = true → x * y = ((x.natAbs * y.natAbs : Nat) : Int)) ∧ ((decide (x < 0) == decide (y < 0)) = false → x * y = -((x.natAbs * y.natAbs : Nat) : Int)) := by
  have e := Int.natAbs_mul x y
  rw [← e]
  by_cases hx : x < 0 <;> by_cases hy : y < 0
  · have := Int.mul_nonneg (show 0 ≤ -x by omega) (show 0 ≤ -y by omega)
    rw [Int.neg_mul_neg] at this
    generalize x * y = z at *
    simp only [hx, hy, decide_true, beq_self_eq_true]
    exact ⟨fun _ => by omega, fun h => by cases h⟩
  · have := Int.mul_nonneg (show 0 ≤ -x by omega) (show 0 ≤ y by omega)
    rw [Int.neg_mul] at this
    generalize x * y = z at *
    simp only [hx, hy, decide_true, decide_false]
    exact ⟨fun h => (by cases h), fun _ => by omega⟩
  · have := Int.mul_nonneg (show 0 ≤ x by omega) (show 0 ≤ -y by omega)
    rw [Int.mul_neg] at this
    generalize x * y = z at *
    simp only [hx, hy, decide_true, decide_false]
    exact ⟨fun h => (by cases h), fun _ => by omega⟩
  · have := Int.mul_nonneg (show 0 ≤ x by omega) (show 0 ≤ y by omega)
    generalize x * y = z at *
    simp only [hx, hy, decide_false, beq_self_eq_true]
    exact ⟨fun _ => by omega, fun h => by cases h⟩
theorem natAbs_le {x : Int} (h : -1000000000000 ≤ x ∧ x ≤ 1000000000000) : x.natAbs ≤ 1000000000000 := by omega
theorem ok_num_MulZ (L : Nat) (a b : Int) : F_num_Mul L a b = some (mulZ a b) := by
  have hx := clipZ_in a
  have hy := clipZ_in b
  unfold mulZ
  simp only [T_num_Mul, F_num_Mul, anO_bd, anO_fl, anO_cn, anO_gd, anO_fk, anO_sl, anO_lf, anO_jb, anO_jp, anO_ap, anO_nj, ok_num_Clip, Option.bind_some]
  generalize clipZ a = x at *
  generalize clipZ b = y at *
  have nx := natAbs_le hx
  have ny := natAbs_le hy
  simp only [ok_num_size L x hx, ok_num_size L y hy, Option.bind_some, wuN x.natAbs (by omega), wuN y.natAbs (by omega), ok_bits_Mul64 L x.natAbs y.natAbs (by omega) (by omega)]
  have hle : x.natAbs * y.natAbs ≤ 1000000000000 * 1000000000000 := Nat.mul_le_mul nx ny
  obtain ⟨s1, s2⟩ := mul_sgn x y
  generalize x.natAbs * y.natAbs = p at *
  generalize x * y = z at *
  have hc : (bif (((p / 18446744073709551616 : Nat) : Int) == 0) then decide (((p % 18446744073709551616 : Nat) : Int) < 1000000000000) else false) = decide (p < 1000000000000) := by
    by_cases h : p < 1000000000000
    · rw [show p / 18446744073709551616 = 0 by omega, show p % 18446744073709551616 = p by omega]
      rw [show decide (((p : Nat) : Int) < 1000000000000) = true from decide_eq_true (by omega), decide_eq_true h]; rfl
    · rw [decide_eq_false h]
      cases hq : (((p / 18446744073709551616 : Nat) : Int) == 0) with
      | false => rfl
      | true =>
        have hq' := eq_of_beq hq
        rw [cond_true]
        exact decide_eq_false (by omega)
  simp only [hc]
  by_cases h : p < 1000000000000
  · rw [decide_eq_true h, show p % 18446744073709551616 = p by omega, w64_id (n := (p : Int)) (by omega) (by omega), w64_id (by omega) (by omega)]
    unfold clipZ
    cases hs : (decide (x < 0) == decide (y < 0)) with
    | true =>
      have := s1 hs
      simp only [cond_true, Bool.not_true, cond_false]
      rw [if_neg (by omega), if_neg (by omega)]; congr 1; omega
    | false =>
      have := s2 hs
      simp only [cond_true, Bool.not_false]
      rw [if_neg (by omega), if_neg (by omega)]; congr 1; omega
  · rw [decide_eq_false h]
    unfold clipZ
    cases hs : (decide (x < 0) == decide (y < 0)) with
    | true =>
      have := s1 hs
      simp only [cond_false, Bool.not_true]
      congr 1
      rw [if_neg (by omega)]
      split <;> omega
    | false =>
      have := s2 hs
      simp only [cond_false, cond_true, Bool.not_false]
      congr 1
      split
      · omega
      · split <;> omega
theorem ok_R01_MulZ (L : Nat) (a b : Int) : F_R01_Mul L a b = some (mulZ a b) := by
  have hx := clipZ_in a
  have hy := clipZ_in b
  unfold mulZ
  simp only [T_R01_Mul, F_R01_Mul, anO_bd, anO_fl, anO_cn, anO_gd, anO_fk, anO_sl, anO_lf, anO_jb, anO_jp, anO_ap, anO_nj, ok_R01_Clip, Option.bind_some, bor_c]
  generalize clipZ a = x at *
  generalize clipZ b = y at *
  have nx := natAbs_le hx
  have ny := natAbs_le hy
  simp only [ok_R01_Abs L x hx, ok_R01_Abs L y hy, Option.bind_some]
  by_cases h : x = 0
  · subst h; rw [Int.zero_mul]; rfl
  by_cases h' : y = 0
  · subst h'; rw [Int.mul_zero]; simp [clipZ]
  have z1 : (x == 0) = false := beq_false_of_ne h
  have z2 : (y == 0) = false := beq_false_of_ne h'
  have z3 : decide ((x.natAbs : Int) = 0) = false := decide_eq_false (by omega)
  have hd : Int.tdiv 1000000000000 (x.natAbs : Int) = ((1000000000000 / x.natAbs : Nat) : Int) := by rw [show (1000000000000 : Int) = ((1000000000000 : Nat) : Int) from rfl, Int.ofNat_tdiv]
  have hdl : 1000000000000 / x.natAbs ≤ 1000000000000 := Nat.div_le_self _ _
  have hiff : y.natAbs ≤ 1000000000000 / x.natAbs ↔ x.natAbs * y.natAbs ≤ 1000000000000 := by rw [Nat.le_div_iff_mul_le (by omega), Nat.mul_comm]
  obtain ⟨s1, s2⟩ := mul_sgn x y
  rw [z1, z2, z3, hd]
  generalize 1000000000000 / x.natAbs = q at hdl hiff
  rw [w64_id (n := (q : Int)) (by omega) (by omega)]
  simp only [Bool.or_self, cond_false, Bool.not_false, cond_true]
  generalize x.natAbs * y.natAbs = p at *
  generalize x * y = z at *
  unfold clipZ
  by_cases hc : y.natAbs ≤ q
  · have h1 := hiff.1 hc
    rw [show decide ((y.natAbs : Int) ≤ (q : Int)) = true from decide_eq_true (by omega), cond_true]
    have hz : -1000000000000 ≤ z ∧ z ≤ 1000000000000 := by
      cases hs : (decide (x < 0) == decide (y < 0)) with
      | true => have := s1 hs; omega
      | false => have := s2 hs; omega
    rw [if_neg (by omega), if_neg (by omega), w64_id (by omega) (by omega)]
  · have h1 : ¬ p ≤ 1000000000000 := fun h2 => hc (hiff.2 h2)
    rw [show decide ((y.natAbs : Int) ≤ (q : Int)) = false from decide_eq_false (by omega), cond_false]
    cases hs : (decide (x < 0) == decide (y < 0)) with
    | true => have := s1 hs; rw [if_neg (by omega), if_pos (by omega)]; rfl
    | false => have := s2 hs; rw [if_pos (by omega)]; rfl
theorem tdiv_le (x y : Int) : (Int.tdiv x y).natAbs ≤ x.natAbs := by rw [Int.natAbs_tdiv]; exact Nat.div_le_self _ _
theorem tmod_le (x y : Int) : (Int.tmod x y).natAbs ≤ x.natAbs := by rw [Int.natAbs_tmod]; exact Nat.mod_le _ _
theorem ok_num_Div (L : Nat) (a b : Int) : F_num_Div L a b = some (divZ a b) := by
  have hx := clipZ_in a
  have hy := clipZ_in b
  unfold divZ
  simp only [T_num_Div, F_num_Div, anO_bd, anO_fl, anO_cn, anO_gd, anO_fk, anO_sl, anO_lf, anO_jb, anO_jp, anO_ap, anO_nj, ok_num_Clip, Option.bind_some, band_c]
  generalize clipZ a = x at *
  generalize clipZ b = y at *
  by_cases h : y = 0
  · subst h; rfl
  have hq := tdiv_le x y
  have hr := tmod_le x y
  rw [if_neg h]
  simp only [beq_false_of_ne h, decide_eq_false h, Bool.not_false, cond_true, cond_false]
  generalize Int.tdiv x y = q at *
  generalize Int.tmod x y = r at *
  simp only [w64_id (n := q) (by omega) (by omega), w64_id (n := r) (by omega) (by omega), w64_id (n := q - 1) (by omega) (by omega)]
  by_cases h1 : r = 0
  · subst h1; by_cases h2 : x < 0 <;> by_cases h3 : y < 0 <;> simp [h2, h3]
  · by_cases h2 : x < 0 <;> by_cases h3 : y < 0 <;> simp [h1, h2, h3, ne0 h1]
theorem ok_R01_Div (L : Nat) (a b : Int) : F_R01_Div L a b = some (divZ a b) := by
  have hx := clipZ_in a
  have hy := clipZ_in b
  unfold divZ
  simp only [T_R01_Div, F_R01_Div, anO_bd, anO_fl, anO_cn, anO_gd, anO_fk, anO_sl, anO_lf, anO_jb, anO_jp, anO_ap, anO_nj, ok_R01_Clip, Option.bind_some, band_c]
  generalize clipZ a = x at *
  generalize clipZ b = y at *
  by_cases h : y = 0
  · subst h; rfl
  have hq := tdiv_le x y
  have hr := tmod_le x y
  rw [if_neg h]
  simp only [beq_false_of_ne h, decide_eq_false h, Bool.not_false, cond_true, cond_false]
  generalize Int.tdiv x y = q at *
  generalize Int.tmod x y = r at *
  simp only [w64_id (n := q) (by omega) (by omega), w64_id (n := r) (by omega) (by omega), w64_id (n := q - 1) (by omega) (by omega)]
  by_cases h1 : r = 0
  · subst h1; by_cases h2 : x < 0 <;> by_cases h3 : y < 0 <;> simp [h2, h3]
  · by_cases h2 : x < 0 <;> by_cases h3 : y < 0 <;> simp [h1, h2, h3, ne0 h1]
theorem divZ_clip (a b : Int) : divZ (clipZ a) (clipZ b) = divZ a b := by unfold divZ; simp only [clip_clip]
theorem ok_num_Mod (L : Nat) (a b : Int) : F_num_Mod L a b = some (modZ a b) := by
  have hx := clipZ_in a
  have hm := modZ_in a b
  simp only [T_num_Mod, F_num_Mod, anO_bd, anO_fl, anO_cn, anO_gd, anO_fk, anO_sl, anO_lf, anO_jb, anO_jp, anO_ap, anO_nj, ok_num_Clip, ok_num_Div, divZ_clip, Option.bind_some]
  unfold modZ at *
  generalize clipZ b * divZ a b = m at *
  rw [w64_id (n := m) (by omega) (by omega), w64_id (by omega) (by omega)]
theorem ok_R01_Mod (L : Nat) (a b : Int) : F_R01_Mod L a b = some (modZ a b) := by
  have hx := clipZ_in a
  have hm := modZ_in a b
  simp only [T_R01_Mod, F_R01_Mod, anO_bd, anO_fl, anO_cn, anO_gd, anO_fk, anO_sl, anO_lf, anO_jb, anO_jp, anO_ap, anO_nj, ok_R01_Clip, ok_R01_Div, Option.bind_some]
  unfold modZ at *
  generalize clipZ b * divZ a b = m at *
  rw [w64_id (n := m) (by omega) (by omega), w64_id (by omega) (by omega)]
theorem ok_eval_truth (L : Nat) (b : Bool) : F_eval_truth L b = some (b01 b) := by
  cases b <;> rfl
theorem ok_R15_One (L : Nat) (b : Bool) : F_R15_One L b = some (b01 b) := by
  cases b <;> rfl
theorem ok_eval_negated (L : Nat) (a : Int) : F_eval_negated L a = some (-clipZ a) := by
  have hx := clipZ_in a
  simp only [T_eval_negated, F_eval_negated, anO_bd, anO_fl, anO_cn, anO_gd, anO_fk, anO_sl, anO_lf, anO_jb, anO_jp, anO_ap, anO_nj, ok_num_Clip, Option.bind_some]
  rw [w64_id (by omega) (by omega), Int.zero_sub]
theorem ok_eval_Unary (L : Nat) (op a : Int) : F_eval_Unary L op a = some (unV op a) := by
  simp only [T_eval_Unary, F_eval_Unary, anO_bd, anO_fl, anO_cn, anO_gd, anO_fk, anO_sl, anO_lf, anO_jb, anO_jp, anO_ap, anO_nj, ok_eval_negated, ok_eval_truth, Option.bind_some, cond_ss, bor_c, unV]
  congr 1
  by_cases h5 : op = 5
  · subst h5; rfl
  by_cases h6 : op = 6
  · subst h6; rfl
  by_cases h7 : op = 7
  · subst h7; rfl
  by_cases h8 : op = 8
  · subst h8; rfl
  simp [h5, h6, h7, h8, beq_false_of_ne h5, beq_false_of_ne h6, beq_false_of_ne h7, beq_false_of_ne h8]
theorem ok_R15_Unary (L : Nat) (op a : Int) : F_R15_Unary L op a = some (unV op a) := by
  have hx := clipZ_in a
  simp only [T_R15_Unary, F_R15_Unary, anO_bd, anO_fl, anO_cn, anO_gd, anO_fk, anO_sl, anO_lf, anO_jb, anO_jp, anO_ap, anO_nj, ok_R01_Clip, ok_R15_One, Option.bind_some, cond_ss, bor_c, unV]
  rw [w64_id (by omega) (by omega), Int.zero_sub]
  congr 1
  by_cases h5 : op = 5
  · subst h5; rfl
  by_cases h6 : op = 6
  · subst h6; rfl
  by_cases h7 : op = 7
  · subst h7; rfl
  by_cases h8 : op = 8
  · subst h8; rfl
  simp [h5, h6, h7, h8, beq_false_of_ne h5, beq_false_of_ne h6, beq_false_of_ne h7, beq_false_of_ne h8]
theorem ok_eval_holds (L : Nat) (op a b : Int) : F_eval_holds L op a b = some (holdsZ op a b) := by
  simp only [T_eval_holds, F_eval_holds, anO_bd, anO_fl, anO_cn, anO_gd, anO_fk, anO_sl, anO_lf, anO_jb, anO_jp, anO_ap, anO_nj, Option.bind_some, cond_ss, bor_c, band_c, holdsZ]
  congr 1
  rcases opCases op with rfl | rfl | rfl | rfl | rfl | rfl | rfl | rfl | rfl | rfl | rfl | rfl | rfl | rfl | rfl | rfl | rfl | rfl | rfl | rfl | rfl | rfl | rfl | rfl | rfl | rfl | hop | hop
  all_goals first | rfl | (simp; done) | (simp; grind) | grind
theorem ok_eval_Binary (L : Nat) (op a b : Int) : F_eval_Binary L op a b = some (binV op a b) := by
  simp only [T_eval_Binary, F_eval_Binary, anO_bd, anO_fl, anO_cn, anO_gd, anO_fk, anO_sl, anO_lf, anO_jb, anO_jp, anO_ap, anO_nj, ok_num_Add, ok_num_MulZ, ok_num_Div, ok_num_Mod, ok_eval_negated, ok_eval_truth, ok_eval_holds, Option.bind_some, cond_ss, bor_c, band_c, binV]
  congr 1
  rcases opCases op with rfl | rfl | rfl | rfl | rfl | rfl | rfl | rfl | rfl | rfl | rfl | rfl | rfl | rfl | rfl | rfl | rfl | rfl | rfl | rfl | rfl | rfl | rfl | rfl | rfl | rfl | hop | hop
  all_goals first | rfl | (simp; done) | (simp; grind) | grind
theorem ok_R15_Binary (L : Nat) (op a b : Int) : F_R15_Binary L op a b = some (binV op a b) := by
  have hx := clipZ_in b
  simp only [T_R15_Binary, F_R15_Binary, anO_bd, anO_fl, anO_cn, anO_gd, anO_fk, anO_sl, anO_lf, anO_jb, anO_jp, anO_ap, anO_nj, ok_R01_Add, ok_R01_MulZ, ok_R01_Div, ok_R01_Mod, ok_R01_Clip, ok_R15_One, Option.bind_some, cond_ss, bor_c, band_c, binV, holdsZ]
  rw [w64_id (by omega) (by omega), Int.zero_sub]
  congr 1
  rcases opCases op with rfl | rfl | rfl | rfl | rfl | rfl | rfl | rfl | rfl | rfl | rfl | rfl | rfl | rfl | rfl | rfl | rfl | rfl | rfl | rfl | rfl | rfl | rfl | rfl | rfl | rfl | hop | hop
  all_goals first | rfl | (simp; done) | (have hn : ∀ k : Int, 1 ≤ k → k ≤ 26 → (op == k) = false := (fun k _ _ => beq_false_of_ne (by omega)); have hp : ∀ k : Int, 1 ≤ k → k ≤ 26 → (op = k) = False := (fun k _ _ => eq_false (by omega)); simp [hn, hp, b01]; done) | (simp; grind) | grind
end Go.Proofs.YtonfmpiikdmndaaGreat.Ev
