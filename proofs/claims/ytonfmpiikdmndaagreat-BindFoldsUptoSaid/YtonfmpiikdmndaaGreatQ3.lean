import Derived.Test.YtonfmpiikdmndaaGreatG3
import Derived.Test.YtonfmpiikdmndaaGreatPa
namespace Go.Proofs.YtonfmpiikdmndaaGreat.Ev
open Go
set_option maxRecDepth 100000
set_option linter.unusedVariables false
set_option linter.unusedSimpArgs false
set_option linter.unnecessarySimpa false
def lq_R16_fold_1 (rec26 : api_Expr → Option api_Expr) (L : Nat) (a0 : api_Expr) : List api_Expr → Nat → List api_Expr → Option (Nat × (Int × List api_Expr))
  | [], i, v1_12 => (some (0, ((i : Int), v1_12)))
  | x :: k, i, v1_12 => (Option.bind (rec26 x) fun r1 =>
 (if ((v1_12.length + [r1].length) * 56 ≤ 140737488355328) then (if (v1_12.length + [r1].length ≤ maxLen) then (lq_R16_fold_1 rec26 L a0 k (i + 1) (v1_12 ++ [r1])) else none) else none))
theorem lqe_R16_fold_1 (rec26 : api_Expr → Option api_Expr) (L : Nat) (a0 : api_Expr) (hl : a0.Kids.length ≤ maxLen) : ∀ (k : List api_Expr) (i n : Nat) (v1_12 : List api_Expr), a0.Kids.drop i = k → k.length < n → lp_R16_fold_1 rec26 L a0 n (i : Int) v1_12 = lq_R16_fold_1 rec26 L a0 k i v1_12 := by
  intro k
  induction k with
  | nil =>
    intro i n v1_12 hk hn
    obtain ⟨n, rfl⟩ : ∃ m, n = m + 1 := ⟨n - 1, by simp at hn; omega⟩
    simp only [lp_R16_fold_1, lb_R16_fold_1, lq_R16_fold_1, d_ge (drop_nil hk), anO_bd, anO_fl, anO_cn, anO_gd, anO_fk, anO_sl, anO_lf, anO_jb, anO_jp, anO_ap, anO_nj, cond_false]
  | cons x k ih =>
    intro i n v1_12 hk hn
    obtain ⟨n, rfl⟩ : ∃ m, n = m + 1 := ⟨n - 1, by simp at hn; omega⟩
    obtain ⟨hlt, hx, hk'⟩ := drop_cons hk
    have hih := fun v1_12 => ih (i + 1) n v1_12 hk' (by simpa using hn)
    simp only [lp_R16_fold_1, lb_R16_fold_1, lq_R16_fold_1, d_lt hlt, nn, ltI hlt, toN, hx, w64_succ hlt hl, hih, anO_bd, anO_fl, anO_cn, anO_gd, anO_fk, anO_sl, anO_lf, anO_jb, anO_jp, anO_ap, anO_nj, cond_true, if_true, decide_true, api_Expr.eta, api_Expr.cp_eq, api_Stmt.eta, api_Stmt.cp_eq]
theorem lq0_R16_fold_1 (rec26 : api_Expr → Option api_Expr) (L : Nat) (a0 : api_Expr) (n : Nat) (hl : a0.Kids.length ≤ maxLen) (hn : a0.Kids.length < n) (v1_12 : List api_Expr) : lp_R16_fold_1 rec26 L a0 n 0 v1_12 = lq_R16_fold_1 rec26 L a0 a0.Kids 0 v1_12 := lqe_R16_fold_1 rec26 L a0 hl _ 0 n v1_12 rfl hn
def lq_R09_SameAll_1 (rec9 : api_Expr → api_Expr → Option Bool) (rec25 : (List api_Expr) → (List api_Expr) → Option Bool) (L : Nat) (a0 : (List api_Expr)) (a1 : (List api_Expr)) : List api_Expr → Nat → Bool → Option (Nat × (Bool × Int))
  | [], i, v1_2 => (some (1, (v1_2, (i : Int))))
  | x :: k, i, v1_2 => (if ((i : Int) < ((a1.length : Nat) : Int)) then (Option.bind (rec9 x (a1.getD (Int.toNat (i : Int)) default)) fun r1 =>
 (bif (!r1) then (some (0, (false, (i : Int))))
 else (lq_R09_SameAll_1 rec9 rec25 L a0 a1 k (i + 1) v1_2))) else none)
theorem lqe_R09_SameAll_1 (rec9 : api_Expr → api_Expr → Option Bool) (rec25 : (List api_Expr) → (List api_Expr) → Option Bool) (L : Nat) (a0 : (List api_Expr)) (a1 : (List api_Expr)) (hl : a0.length ≤ maxLen) : ∀ (k : List api_Expr) (i n : Nat) (v1_2 : Bool), a0.drop i = k → k.length < n → lp_R09_SameAll_1 rec9 rec25 L a0 a1 n v1_2 (i : Int) = lq_R09_SameAll_1 rec9 rec25 L a0 a1 k i v1_2 := by
  intro k
  induction k with
  | nil =>
    intro i n v1_2 hk hn
    obtain ⟨n, rfl⟩ : ∃ m, n = m + 1 := ⟨n - 1, by simp at hn; omega⟩
    simp only [lp_R09_SameAll_1, lb_R09_SameAll_1, lq_R09_SameAll_1, d_ge (drop_nil hk), anO_bd, anO_fl, anO_cn, anO_gd, anO_fk, anO_sl, anO_lf, anO_jb, anO_jp, anO_ap, anO_nj, cond_false]
  | cons x k ih =>
    intro i n v1_2 hk hn
    obtain ⟨n, rfl⟩ : ∃ m, n = m + 1 := ⟨n - 1, by simp at hn; omega⟩
    obtain ⟨hlt, hx, hk'⟩ := drop_cons hk
    have hih := fun v1_2 => ih (i + 1) n v1_2 hk' (by simpa using hn)
    simp only [lp_R09_SameAll_1, lb_R09_SameAll_1, lq_R09_SameAll_1, d_lt hlt, nn, ltI hlt, toN, hx, w64_succ hlt hl, hih, anO_bd, anO_fl, anO_cn, anO_gd, anO_fk, anO_sl, anO_lf, anO_jb, anO_jp, anO_ap, anO_nj, cond_true, if_true, decide_true, api_Expr.eta, api_Expr.cp_eq, api_Stmt.eta, api_Stmt.cp_eq]
theorem lq0_R09_SameAll_1 (rec9 : api_Expr → api_Expr → Option Bool) (rec25 : (List api_Expr) → (List api_Expr) → Option Bool) (L : Nat) (a0 : (List api_Expr)) (a1 : (List api_Expr)) (n : Nat) (hl : a0.length ≤ maxLen) (hn : a0.length < n) (v1_2 : Bool) : lp_R09_SameAll_1 rec9 rec25 L a0 a1 n v1_2 0 = lq_R09_SameAll_1 rec9 rec25 L a0 a1 a0 0 v1_2 := lqe_R09_SameAll_1 rec9 rec25 L a0 a1 hl _ 0 n v1_2 rfl hn
end Go.Proofs.YtonfmpiikdmndaaGreat.Ev
