import Derived.Test.YtaaiehkfndibkaaGreatG1
import Derived.Test.YtaaiehkfndibkaaGreatPa
namespace Go.Proofs.YtaaiehkfndibkaaGreat.Ev
open Go
set_option maxRecDepth 100000
set_option linter.unusedVariables false
set_option linter.unusedSimpArgs false
set_option linter.unnecessarySimpa false
def lq_L51_small_1  (L : Nat) (a0 : (List api_Factor)) : List api_Factor → Nat → Bool → Option (Nat × (Bool × Int))
  | [], i, v1_1 => (some (1, (v1_1, (i : Int))))
  | x :: k, i, v1_1 => (bif (decide (((x.Levels).length : Int) > 300)) then (some (0, (false, (i : Int))))
 else (lq_L51_small_1 L a0 k (i + 1) v1_1))
theorem lqe_L51_small_1  (L : Nat) (a0 : (List api_Factor)) (hl : a0.length ≤ maxLen) : ∀ (k : List api_Factor) (i n : Nat) (v1_1 : Bool), a0.drop i = k → k.length < n → lp_L51_small_1  L a0 n v1_1 (i : Int) = lq_L51_small_1 L a0 k i v1_1 := by
  intro k
  induction k with
  | nil =>
    intro i n v1_1 hk hn
    obtain ⟨n, rfl⟩ : ∃ m, n = m + 1 := ⟨n - 1, by simp at hn; omega⟩
    simp only [lp_L51_small_1, lb_L51_small_1, lq_L51_small_1, d_ge (drop_nil hk), anO_bd, anO_fl, anO_cn, anO_gd, anO_fk, anO_sl, anO_lf, anO_jb, anO_jp, anO_ap, anO_nj, cond_false]
  | cons x k ih =>
    intro i n v1_1 hk hn
    obtain ⟨n, rfl⟩ : ∃ m, n = m + 1 := ⟨n - 1, by simp at hn; omega⟩
    obtain ⟨hlt, hx, hk'⟩ := drop_cons hk
    have hih := fun v1_1 => ih (i + 1) n v1_1 hk' (by simpa using hn)
    simp only [lp_L51_small_1, lb_L51_small_1, lq_L51_small_1, d_lt hlt, nn, ltI hlt, toN, hx, w64_succ hlt hl, hih, anO_bd, anO_fl, anO_cn, anO_gd, anO_fk, anO_sl, anO_lf, anO_jb, anO_jp, anO_ap, anO_nj, cond_true, if_true, decide_true, api_Expr.eta, api_Expr.cp_eq, api_Stmt.eta, api_Stmt.cp_eq]
theorem lq0_L51_small_1  (L : Nat) (a0 : (List api_Factor)) (n : Nat) (hl : a0.length ≤ maxLen) (hn : a0.length < n) (v1_1 : Bool) : lp_L51_small_1  L a0 n v1_1 0 = lq_L51_small_1 L a0 a0 0 v1_1 := lqe_L51_small_1  L a0 hl _ 0 n v1_1 rfl hn
def lq_design_Size_1  (L : Nat) (a0 : (List api_Factor)) : List api_Factor → Nat → Int → Option (Nat × (Int × Int))
  | [], i, v1_1 => (some (0, (v1_1, (i : Int))))
  | x :: k, i, v1_1 => (Option.bind (F_num_Mul L v1_1 ((x.Levels).length : Int)) fun r1 =>
 (lq_design_Size_1 L a0 k (i + 1) r1))
theorem lqe_design_Size_1  (L : Nat) (a0 : (List api_Factor)) (hl : a0.length ≤ maxLen) : ∀ (k : List api_Factor) (i n : Nat) (v1_1 : Int), a0.drop i = k → k.length < n → lp_design_Size_1  L a0 n v1_1 (i : Int) = lq_design_Size_1 L a0 k i v1_1 := by
  intro k
  induction k with
  | nil =>
    intro i n v1_1 hk hn
    obtain ⟨n, rfl⟩ : ∃ m, n = m + 1 := ⟨n - 1, by simp at hn; omega⟩
    simp only [lp_design_Size_1, lb_design_Size_1, lq_design_Size_1, d_ge (drop_nil hk), anO_bd, anO_fl, anO_cn, anO_gd, anO_fk, anO_sl, anO_lf, anO_jb, anO_jp, anO_ap, anO_nj, cond_false]
  | cons x k ih =>
    intro i n v1_1 hk hn
    obtain ⟨n, rfl⟩ : ∃ m, n = m + 1 := ⟨n - 1, by simp at hn; omega⟩
    obtain ⟨hlt, hx, hk'⟩ := drop_cons hk
    have hih := fun v1_1 => ih (i + 1) n v1_1 hk' (by simpa using hn)
    simp only [lp_design_Size_1, lb_design_Size_1, lq_design_Size_1, d_lt hlt, nn, ltI hlt, toN, hx, w64_succ hlt hl, hih, anO_bd, anO_fl, anO_cn, anO_gd, anO_fk, anO_sl, anO_lf, anO_jb, anO_jp, anO_ap, anO_nj, cond_true, if_true, decide_true, api_Expr.eta, api_Expr.cp_eq, api_Stmt.eta, api_Stmt.cp_eq]
theorem lq0_design_Size_1  (L : Nat) (a0 : (List api_Factor)) (n : Nat) (hl : a0.length ≤ maxLen) (hn : a0.length < n) (v1_1 : Int) : lp_design_Size_1  L a0 n v1_1 0 = lq_design_Size_1 L a0 a0 0 v1_1 := lqe_design_Size_1  L a0 hl _ 0 n v1_1 rfl hn
def lq_design_usable_1  (L : Nat) (p1_0 : List api_Factor) : List api_Factor → Nat → Int → Option (Nat × (Int × Int))
  | [], i, v1_1 => (some (1, (v1_1, (i : Int))))
  | x :: k, i, v1_1 => (bif (((x.Levels).length : Int) == 0) then (some (0, ((i : Int), (i : Int))))
 else (lq_design_usable_1 L p1_0 k (i + 1) v1_1))
theorem lqe_design_usable_1  (L : Nat) (p1_0 : List api_Factor) (hl : p1_0.length ≤ maxLen) : ∀ (k : List api_Factor) (i n : Nat) (v1_1 : Int), p1_0.drop i = k → k.length < n → lp_design_usable_1  L p1_0 n v1_1 (i : Int) = lq_design_usable_1 L p1_0 k i v1_1 := by
  intro k
  induction k with
  | nil =>
    intro i n v1_1 hk hn
    obtain ⟨n, rfl⟩ : ∃ m, n = m + 1 := ⟨n - 1, by simp at hn; omega⟩
    simp only [lp_design_usable_1, lb_design_usable_1, lq_design_usable_1, d_ge (drop_nil hk), anO_bd, anO_fl, anO_cn, anO_gd, anO_fk, anO_sl, anO_lf, anO_jb, anO_jp, anO_ap, anO_nj, cond_false]
  | cons x k ih =>
    intro i n v1_1 hk hn
    obtain ⟨n, rfl⟩ : ∃ m, n = m + 1 := ⟨n - 1, by simp at hn; omega⟩
    obtain ⟨hlt, hx, hk'⟩ := drop_cons hk
    have hih := fun v1_1 => ih (i + 1) n v1_1 hk' (by simpa using hn)
    simp only [lp_design_usable_1, lb_design_usable_1, lq_design_usable_1, d_lt hlt, nn, ltI hlt, toN, hx, w64_succ hlt hl, hih, anO_bd, anO_fl, anO_cn, anO_gd, anO_fk, anO_sl, anO_lf, anO_jb, anO_jp, anO_ap, anO_nj, cond_true, if_true, decide_true, api_Expr.eta, api_Expr.cp_eq, api_Stmt.eta, api_Stmt.cp_eq]
theorem lq0_design_usable_1  (L : Nat) (p1_0 : List api_Factor) (n : Nat) (hl : p1_0.length ≤ maxLen) (hn : p1_0.length < n) (v1_1 : Int) : lp_design_usable_1  L p1_0 n v1_1 0 = lq_design_usable_1 L p1_0 p1_0 0 v1_1 := lqe_design_usable_1  L p1_0 hl _ 0 n v1_1 rfl hn
def lq_R51_Size_1  (L : Nat) (a0 : (List api_Factor)) : List api_Factor → Nat → Int → Option (Nat × (Int × Int))
  | [], i, v1_2 => (some (0, (v1_2, (i : Int))))
  | x :: k, i, v1_2 => (Option.bind (F_R01_Mul L v1_2 ((x.Levels).length : Int)) fun r1 =>
 (lq_R51_Size_1 L a0 k (i + 1) r1))
theorem lqe_R51_Size_1  (L : Nat) (a0 : (List api_Factor)) (hl : a0.length ≤ maxLen) : ∀ (k : List api_Factor) (i n : Nat) (v1_2 : Int), a0.drop i = k → k.length < n → lp_R51_Size_1  L a0 n v1_2 (i : Int) = lq_R51_Size_1 L a0 k i v1_2 := by
  intro k
  induction k with
  | nil =>
    intro i n v1_2 hk hn
    obtain ⟨n, rfl⟩ : ∃ m, n = m + 1 := ⟨n - 1, by simp at hn; omega⟩
    simp only [lp_R51_Size_1, lb_R51_Size_1, lq_R51_Size_1, d_ge (drop_nil hk), anO_bd, anO_fl, anO_cn, anO_gd, anO_fk, anO_sl, anO_lf, anO_jb, anO_jp, anO_ap, anO_nj, cond_false]
  | cons x k ih =>
    intro i n v1_2 hk hn
    obtain ⟨n, rfl⟩ : ∃ m, n = m + 1 := ⟨n - 1, by simp at hn; omega⟩
    obtain ⟨hlt, hx, hk'⟩ := drop_cons hk
    have hih := fun v1_2 => ih (i + 1) n v1_2 hk' (by simpa using hn)
    simp only [lp_R51_Size_1, lb_R51_Size_1, lq_R51_Size_1, d_lt hlt, nn, ltI hlt, toN, hx, w64_succ hlt hl, hih, anO_bd, anO_fl, anO_cn, anO_gd, anO_fk, anO_sl, anO_lf, anO_jb, anO_jp, anO_ap, anO_nj, cond_true, if_true, decide_true, api_Expr.eta, api_Expr.cp_eq, api_Stmt.eta, api_Stmt.cp_eq]
theorem lq0_R51_Size_1  (L : Nat) (a0 : (List api_Factor)) (n : Nat) (hl : a0.length ≤ maxLen) (hn : a0.length < n) (v1_2 : Int) : lp_R51_Size_1  L a0 n v1_2 0 = lq_R51_Size_1 L a0 a0 0 v1_2 := lqe_R51_Size_1  L a0 hl _ 0 n v1_2 rfl hn
def lq_design_point_1  (L : Nat) (a0 : (List api_Factor)) (a1 : (List Int)) : List Int → Nat → Int → Option (Nat × (Int × Int))
  | [], i, v1_1 => (some (1, (v1_1, (i : Int))))
  | x :: k, i, v1_1 => (Option.bind (bif (decide (x < 0)) then (some true) else (if (0 : Int) ≤ (i : Int) then (if (i : Int) < ((a0.length : Nat) : Int) then (some (decide (x ≥ (((a0.getD (Int.toNat (i : Int)) default).Levels).length : Int)))) else none) else none)) fun b2 =>
 (bif b2 then (some (0, (2, (i : Int))))
 else (lq_design_point_1 L a0 a1 k (i + 1) v1_1)))
theorem lqe_design_point_1  (L : Nat) (a0 : (List api_Factor)) (a1 : (List Int)) (hl : a1.length ≤ maxLen) : ∀ (k : List Int) (i n : Nat) (v1_1 : Int), a1.drop i = k → k.length < n → lp_design_point_1  L a0 a1 n v1_1 (i : Int) = lq_design_point_1 L a0 a1 k i v1_1 := by
  intro k
  induction k with
  | nil =>
    intro i n v1_1 hk hn
    obtain ⟨n, rfl⟩ : ∃ m, n = m + 1 := ⟨n - 1, by simp at hn; omega⟩
    simp only [lp_design_point_1, lb_design_point_1, lq_design_point_1, d_ge (drop_nil hk), anO_bd, anO_fl, anO_cn, anO_gd, anO_fk, anO_sl, anO_lf, anO_jb, anO_jp, anO_ap, anO_nj, cond_false]
  | cons x k ih =>
    intro i n v1_1 hk hn
    obtain ⟨n, rfl⟩ : ∃ m, n = m + 1 := ⟨n - 1, by simp at hn; omega⟩
    obtain ⟨hlt, hx, hk'⟩ := drop_cons hk
    have hih := fun v1_1 => ih (i + 1) n v1_1 hk' (by simpa using hn)
    simp only [lp_design_point_1, lb_design_point_1, lq_design_point_1, d_lt hlt, nn, ltI hlt, toN, hx, w64_succ hlt hl, hih, anO_bd, anO_fl, anO_cn, anO_gd, anO_fk, anO_sl, anO_lf, anO_jb, anO_jp, anO_ap, anO_nj, cond_true, if_true, decide_true, api_Expr.eta, api_Expr.cp_eq, api_Stmt.eta, api_Stmt.cp_eq]
theorem lq0_design_point_1  (L : Nat) (a0 : (List api_Factor)) (a1 : (List Int)) (n : Nat) (hl : a1.length ≤ maxLen) (hn : a1.length < n) (v1_1 : Int) : lp_design_point_1  L a0 a1 n v1_1 0 = lq_design_point_1 L a0 a1 a1 0 v1_1 := lqe_design_point_1  L a0 a1 hl _ 0 n v1_1 rfl hn
def lq_design_Index_1  (L : Nat) (a0 : (List api_Factor)) (a1 : (List Int)) : List Int → Nat → Int → Option (Nat × (Int × Int))
  | [], i, v1_3 => (some (0, (v1_3, (i : Int))))
  | x :: k, i, v1_3 => (if ((i : Int) < ((a0.length : Nat) : Int)) then (lq_design_Index_1 L a0 a1 k (i + 1) (w64 ((w64 (v1_3 * (((a0.getD (Int.toNat (i : Int)) default).Levels).length : Int))) + x))) else none)
theorem lqe_design_Index_1  (L : Nat) (a0 : (List api_Factor)) (a1 : (List Int)) (hl : a1.length ≤ maxLen) : ∀ (k : List Int) (i n : Nat) (v1_3 : Int), a1.drop i = k → k.length < n → lp_design_Index_1  L a0 a1 n v1_3 (i : Int) = lq_design_Index_1 L a0 a1 k i v1_3 := by
  intro k
  induction k with
  | nil =>
    intro i n v1_3 hk hn
    obtain ⟨n, rfl⟩ : ∃ m, n = m + 1 := ⟨n - 1, by simp at hn; omega⟩
    simp only [lp_design_Index_1, lb_design_Index_1, lq_design_Index_1, d_ge (drop_nil hk), anO_bd, anO_fl, anO_cn, anO_gd, anO_fk, anO_sl, anO_lf, anO_jb, anO_jp, anO_ap, anO_nj, cond_false]
  | cons x k ih =>
    intro i n v1_3 hk hn
    obtain ⟨n, rfl⟩ : ∃ m, n = m + 1 := ⟨n - 1, by simp at hn; omega⟩
    obtain ⟨hlt, hx, hk'⟩ := drop_cons hk
    have hih := fun v1_3 => ih (i + 1) n v1_3 hk' (by simpa using hn)
    simp only [lp_design_Index_1, lb_design_Index_1, lq_design_Index_1, d_lt hlt, nn, ltI hlt, toN, hx, w64_succ hlt hl, hih, anO_bd, anO_fl, anO_cn, anO_gd, anO_fk, anO_sl, anO_lf, anO_jb, anO_jp, anO_ap, anO_nj, cond_true, if_true, decide_true, api_Expr.eta, api_Expr.cp_eq, api_Stmt.eta, api_Stmt.cp_eq]
theorem lq0_design_Index_1  (L : Nat) (a0 : (List api_Factor)) (a1 : (List Int)) (n : Nat) (hl : a1.length ≤ maxLen) (hn : a1.length < n) (v1_3 : Int) : lp_design_Index_1  L a0 a1 n v1_3 0 = lq_design_Index_1 L a0 a1 a1 0 v1_3 := lqe_design_Index_1  L a0 a1 hl _ 0 n v1_3 rfl hn
def lq_R51_Index_1  (L : Nat) (a0 : (List api_Factor)) (a1 : (List Int)) : List api_Factor → Nat → Int → Int → Int → Option (Nat × (Int × Int × Int × Int))
  | [], i, v1_2, v1_3, v1_4 => (some (1, (v1_2, v1_3, v1_4, (i : Int))))
  | x :: k, i, v1_2, v1_3, v1_4 => (if ((i : Int) < ((a1.length : Nat) : Int)) then (bif (decide ((a1.getD (Int.toNat (i : Int)) default) < 0)) then (some (0, (0, 2, v1_4, (i : Int))))
 else (if ((i : Int) < ((a1.length : Nat) : Int)) then (bif (decide ((a1.getD (Int.toNat (i : Int)) default) ≥ ((x.Levels).length : Int))) then (some (0, (0, 2, v1_4, (i : Int))))
 else (if ((i : Int) < ((a1.length : Nat) : Int)) then (lq_R51_Index_1 L a0 a1 k (i + 1) v1_2 v1_3 (w64 ((w64 (v1_4 * ((x.Levels).length : Int))) + (a1.getD (Int.toNat (i : Int)) default)))) else none)) else none)) else none)
theorem lqe_R51_Index_1  (L : Nat) (a0 : (List api_Factor)) (a1 : (List Int)) (hl : a0.length ≤ maxLen) : ∀ (k : List api_Factor) (i n : Nat) (v1_2 : Int) (v1_3 : Int) (v1_4 : Int), a0.drop i = k → k.length < n → lp_R51_Index_1  L a0 a1 n v1_2 v1_3 v1_4 (i : Int) = lq_R51_Index_1 L a0 a1 k i v1_2 v1_3 v1_4 := by
  intro k
  induction k with
  | nil =>
    intro i n v1_2 v1_3 v1_4 hk hn
    obtain ⟨n, rfl⟩ : ∃ m, n = m + 1 := ⟨n - 1, by simp at hn; omega⟩
    simp only [lp_R51_Index_1, lb_R51_Index_1, lq_R51_Index_1, d_ge (drop_nil hk), anO_bd, anO_fl, anO_cn, anO_gd, anO_fk, anO_sl, anO_lf, anO_jb, anO_jp, anO_ap, anO_nj, cond_false]
  | cons x k ih =>
    intro i n v1_2 v1_3 v1_4 hk hn
    obtain ⟨n, rfl⟩ : ∃ m, n = m + 1 := ⟨n - 1, by simp at hn; omega⟩
    obtain ⟨hlt, hx, hk'⟩ := drop_cons hk
    have hih := fun v1_2 v1_3 v1_4 => ih (i + 1) n v1_2 v1_3 v1_4 hk' (by simpa using hn)
    simp only [lp_R51_Index_1, lb_R51_Index_1, lq_R51_Index_1, d_lt hlt, nn, ltI hlt, toN, hx, w64_succ hlt hl, hih, anO_bd, anO_fl, anO_cn, anO_gd, anO_fk, anO_sl, anO_lf, anO_jb, anO_jp, anO_ap, anO_nj, cond_true, if_true, decide_true, api_Expr.eta, api_Expr.cp_eq, api_Stmt.eta, api_Stmt.cp_eq]
theorem lq0_R51_Index_1  (L : Nat) (a0 : (List api_Factor)) (a1 : (List Int)) (n : Nat) (hl : a0.length ≤ maxLen) (hn : a0.length < n) (v1_2 : Int) (v1_3 : Int) (v1_4 : Int) : lp_R51_Index_1  L a0 a1 n v1_2 v1_3 v1_4 0 = lq_R51_Index_1 L a0 a1 a0 0 v1_2 v1_3 v1_4 := lqe_R51_Index_1  L a0 a1 hl _ 0 n v1_2 v1_3 v1_4 rfl hn
def lq_R51_Same_1  (L : Nat) (a0 : (List Int)) (a1 : (List Int)) : List Int → Nat → Bool → Option (Nat × (Bool × Int))
  | [], i, v1_2 => (some (1, (v1_2, (i : Int))))
  | x :: k, i, v1_2 => (if ((i : Int) < ((a1.length : Nat) : Int)) then (bif (x != (a1.getD (Int.toNat (i : Int)) default)) then (some (0, (false, (i : Int))))
 else (lq_R51_Same_1 L a0 a1 k (i + 1) v1_2)) else none)
theorem lqe_R51_Same_1  (L : Nat) (a0 : (List Int)) (a1 : (List Int)) (hl : a0.length ≤ maxLen) : ∀ (k : List Int) (i n : Nat) (v1_2 : Bool), a0.drop i = k → k.length < n → lp_R51_Same_1  L a0 a1 n v1_2 (i : Int) = lq_R51_Same_1 L a0 a1 k i v1_2 := by
  intro k
  induction k with
  | nil =>
    intro i n v1_2 hk hn
    obtain ⟨n, rfl⟩ : ∃ m, n = m + 1 := ⟨n - 1, by simp at hn; omega⟩
    simp only [lp_R51_Same_1, lb_R51_Same_1, lq_R51_Same_1, d_ge (drop_nil hk), anO_bd, anO_fl, anO_cn, anO_gd, anO_fk, anO_sl, anO_lf, anO_jb, anO_jp, anO_ap, anO_nj, cond_false]
  | cons x k ih =>
    intro i n v1_2 hk hn
    obtain ⟨n, rfl⟩ : ∃ m, n = m + 1 := ⟨n - 1, by simp at hn; omega⟩
    obtain ⟨hlt, hx, hk'⟩ := drop_cons hk
    have hih := fun v1_2 => ih (i + 1) n v1_2 hk' (by simpa using hn)
    simp only [lp_R51_Same_1, lb_R51_Same_1, lq_R51_Same_1, d_lt hlt, nn, ltI hlt, toN, hx, w64_succ hlt hl, hih, anO_bd, anO_fl, anO_cn, anO_gd, anO_fk, anO_sl, anO_lf, anO_jb, anO_jp, anO_ap, anO_nj, cond_true, if_true, decide_true, api_Expr.eta, api_Expr.cp_eq, api_Stmt.eta, api_Stmt.cp_eq]
theorem lq0_R51_Same_1  (L : Nat) (a0 : (List Int)) (a1 : (List Int)) (n : Nat) (hl : a0.length ≤ maxLen) (hn : a0.length < n) (v1_2 : Bool) : lp_R51_Same_1  L a0 a1 n v1_2 0 = lq_R51_Same_1 L a0 a1 a0 0 v1_2 := lqe_R51_Same_1  L a0 a1 hl _ 0 n v1_2 rfl hn
def lq_design_Near_1  (L : Nat) (a0 : (List api_Factor)) (a1 : (List Int)) : List Int → Nat → List (List Int) → Option (Nat × (List (List Int) × Int))
  | [], i, v1_4 => (some (0, (v1_4, (i : Int))))
  | x :: k, i, v1_4 => (Option.bind (lp_design_Near_2 L a0 a1 (i : Int) L v1_4 0) fun o2 =>
 (selo o2.1 [(lq_design_Near_1 L a0 a1 k (i + 1) o2.2.1)]))
theorem lqe_design_Near_1  (L : Nat) (a0 : (List api_Factor)) (a1 : (List Int)) (hl : a1.length ≤ maxLen) : ∀ (k : List Int) (i n : Nat) (v1_4 : List (List Int)), a1.drop i = k → k.length < n → lp_design_Near_1  L a0 a1 n v1_4 (i : Int) = lq_design_Near_1 L a0 a1 k i v1_4 := by
  intro k
  induction k with
  | nil =>
    intro i n v1_4 hk hn
    obtain ⟨n, rfl⟩ : ∃ m, n = m + 1 := ⟨n - 1, by simp at hn; omega⟩
    simp only [lp_design_Near_1, lb_design_Near_1, lq_design_Near_1, d_ge (drop_nil hk), anO_bd, anO_fl, anO_cn, anO_gd, anO_fk, anO_sl, anO_lf, anO_jb, anO_jp, anO_ap, anO_nj, cond_false]
  | cons x k ih =>
    intro i n v1_4 hk hn
    obtain ⟨n, rfl⟩ : ∃ m, n = m + 1 := ⟨n - 1, by simp at hn; omega⟩
    obtain ⟨hlt, hx, hk'⟩ := drop_cons hk
    have hih := fun v1_4 => ih (i + 1) n v1_4 hk' (by simpa using hn)
    simp only [lp_design_Near_1, lb_design_Near_1, lq_design_Near_1, d_lt hlt, nn, ltI hlt, toN, hx, w64_succ hlt hl, hih, anO_bd, anO_fl, anO_cn, anO_gd, anO_fk, anO_sl, anO_lf, anO_jb, anO_jp, anO_ap, anO_nj, cond_true, if_true, decide_true, api_Expr.eta, api_Expr.cp_eq, api_Stmt.eta, api_Stmt.cp_eq]
theorem lq0_design_Near_1  (L : Nat) (a0 : (List api_Factor)) (a1 : (List Int)) (n : Nat) (hl : a1.length ≤ maxLen) (hn : a1.length < n) (v1_4 : List (List Int)) : lp_design_Near_1  L a0 a1 n v1_4 0 = lq_design_Near_1 L a0 a1 a1 0 v1_4 := lqe_design_Near_1  L a0 a1 hl _ 0 n v1_4 rfl hn
def lq_R51_Near_1  (L : Nat) (a0 : (List api_Factor)) (a1 : (List Int)) : List api_Factor → Nat → List (List Int) → Option (Nat × (List (List Int) × Int))
  | [], i, v1_4 => (some (0, (v1_4, (i : Int))))
  | x :: k, i, v1_4 => (if ((i : Int) < ((a1.length : Nat) : Int)) then (bif (decide ((a1.getD (Int.toNat (i : Int)) default) > 0)) then (if ((i : Int) < ((a1.length : Nat) : Int)) then (Option.bind (F_R51_with L a1 (i : Int) (w64 ((a1.getD (Int.toNat (i : Int)) default) - 1))) fun r2 =>
 (if ((v1_4.length + [r2].length) * 24 ≤ 140737488355328) then (if (v1_4.length + [r2].length ≤ maxLen) then (if ((i : Int) < ((a1.length : Nat) : Int)) then (bif (decide ((a1.getD (Int.toNat (i : Int)) default) < (w64 (((x.Levels).length : Int) - 1)))) then (if ((i : Int) < ((a1.length : Nat) : Int)) then (Option.bind (F_R51_with L a1 (i : Int) (w64 ((a1.getD (Int.toNat (i : Int)) default) + 1))) fun r3 =>
 (if (((v1_4 ++ [r2]).length + [r3].length) * 24 ≤ 140737488355328) then (if ((v1_4 ++ [r2]).length + [r3].length ≤ maxLen) then (lq_R51_Near_1 L a0 a1 k (i + 1) ((v1_4 ++ [r2]) ++ [r3])) else none) else none)) else none)
 else (lq_R51_Near_1 L a0 a1 k (i + 1) (v1_4 ++ [r2]))) else none) else none) else none)) else none)
 else (if ((i : Int) < ((a1.length : Nat) : Int)) then (bif (decide ((a1.getD (Int.toNat (i : Int)) default) < (w64 (((x.Levels).length : Int) - 1)))) then (if ((i : Int) < ((a1.length : Nat) : Int)) then (Option.bind (F_R51_with L a1 (i : Int) (w64 ((a1.getD (Int.toNat (i : Int)) default) + 1))) fun r4 =>
 (if ((v1_4.length + [r4].length) * 24 ≤ 140737488355328) then (if (v1_4.length + [r4].length ≤ maxLen) then (lq_R51_Near_1 L a0 a1 k (i + 1) (v1_4 ++ [r4])) else none) else none)) else none)
 else (lq_R51_Near_1 L a0 a1 k (i + 1) v1_4)) else none)) else none)
theorem lqe_R51_Near_1  (L : Nat) (a0 : (List api_Factor)) (a1 : (List Int)) (hl : a0.length ≤ maxLen) : ∀ (k : List api_Factor) (i n : Nat) (v1_4 : List (List Int)), a0.drop i = k → k.length < n → lp_R51_Near_1  L a0 a1 n v1_4 (i : Int) = lq_R51_Near_1 L a0 a1 k i v1_4 := by
  intro k
  induction k with
  | nil =>
    intro i n v1_4 hk hn
    obtain ⟨n, rfl⟩ : ∃ m, n = m + 1 := ⟨n - 1, by simp at hn; omega⟩
    simp only [lp_R51_Near_1, lb_R51_Near_1, lq_R51_Near_1, d_ge (drop_nil hk), anO_bd, anO_fl, anO_cn, anO_gd, anO_fk, anO_sl, anO_lf, anO_jb, anO_jp, anO_ap, anO_nj, cond_false]
  | cons x k ih =>
    intro i n v1_4 hk hn
    obtain ⟨n, rfl⟩ : ∃ m, n = m + 1 := ⟨n - 1, by simp at hn; omega⟩
    obtain ⟨hlt, hx, hk'⟩ := drop_cons hk
    have hih := fun v1_4 => ih (i + 1) n v1_4 hk' (by simpa using hn)
    simp only [lp_R51_Near_1, lb_R51_Near_1, lq_R51_Near_1, d_lt hlt, nn, ltI hlt, toN, hx, w64_succ hlt hl, hih, anO_bd, anO_fl, anO_cn, anO_gd, anO_fk, anO_sl, anO_lf, anO_jb, anO_jp, anO_ap, anO_nj, cond_true, if_true, decide_true, api_Expr.eta, api_Expr.cp_eq, api_Stmt.eta, api_Stmt.cp_eq]
theorem lq0_R51_Near_1  (L : Nat) (a0 : (List api_Factor)) (a1 : (List Int)) (n : Nat) (hl : a0.length ≤ maxLen) (hn : a0.length < n) (v1_4 : List (List Int)) : lp_R51_Near_1  L a0 a1 n v1_4 0 = lq_R51_Near_1 L a0 a1 a0 0 v1_4 := lqe_R51_Near_1  L a0 a1 hl _ 0 n v1_4 rfl hn
def lq_R51_SamePoints_1  (L : Nat) (a0 : (List (List Int))) (a1 : (List (List Int))) : List ((List Int)) → Nat → Bool → Option (Nat × (Bool × Int))
  | [], i, v1_2 => (some (1, (v1_2, (i : Int))))
  | x :: k, i, v1_2 => (if ((i : Int) < ((a1.length : Nat) : Int)) then (Option.bind (F_R51_Same L x (a1.getD (Int.toNat (i : Int)) default)) fun r1 =>
 (bif (!r1) then (some (0, (false, (i : Int))))
 else (lq_R51_SamePoints_1 L a0 a1 k (i + 1) v1_2))) else none)
theorem lqe_R51_SamePoints_1  (L : Nat) (a0 : (List (List Int))) (a1 : (List (List Int))) (hl : a0.length ≤ maxLen) : ∀ (k : List ((List Int))) (i n : Nat) (v1_2 : Bool), a0.drop i = k → k.length < n → lp_R51_SamePoints_1  L a0 a1 n v1_2 (i : Int) = lq_R51_SamePoints_1 L a0 a1 k i v1_2 := by
  intro k
  induction k with
  | nil =>
    intro i n v1_2 hk hn
    obtain ⟨n, rfl⟩ : ∃ m, n = m + 1 := ⟨n - 1, by simp at hn; omega⟩
    simp only [lp_R51_SamePoints_1, lb_R51_SamePoints_1, lq_R51_SamePoints_1, d_ge (drop_nil hk), anO_bd, anO_fl, anO_cn, anO_gd, anO_fk, anO_sl, anO_lf, anO_jb, anO_jp, anO_ap, anO_nj, cond_false]
  | cons x k ih =>
    intro i n v1_2 hk hn
    obtain ⟨n, rfl⟩ : ∃ m, n = m + 1 := ⟨n - 1, by simp at hn; omega⟩
    obtain ⟨hlt, hx, hk'⟩ := drop_cons hk
    have hih := fun v1_2 => ih (i + 1) n v1_2 hk' (by simpa using hn)
    simp only [lp_R51_SamePoints_1, lb_R51_SamePoints_1, lq_R51_SamePoints_1, d_lt hlt, nn, ltI hlt, toN, hx, w64_succ hlt hl, hih, anO_bd, anO_fl, anO_cn, anO_gd, anO_fk, anO_sl, anO_lf, anO_jb, anO_jp, anO_ap, anO_nj, cond_true, if_true, decide_true, api_Expr.eta, api_Expr.cp_eq, api_Stmt.eta, api_Stmt.cp_eq]
theorem lq0_R51_SamePoints_1  (L : Nat) (a0 : (List (List Int))) (a1 : (List (List Int))) (n : Nat) (hl : a0.length ≤ maxLen) (hn : a0.length < n) (v1_2 : Bool) : lp_R51_SamePoints_1  L a0 a1 n v1_2 0 = lq_R51_SamePoints_1 L a0 a1 a0 0 v1_2 := lqe_R51_SamePoints_1  L a0 a1 hl _ 0 n v1_2 rfl hn
end Go.Proofs.YtaaiehkfndibkaaGreat.Ev
