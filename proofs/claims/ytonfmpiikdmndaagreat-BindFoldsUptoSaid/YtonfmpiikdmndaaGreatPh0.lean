/-  Chapters 9 and 14, plainly: sizes of expressions without overflow; kids of well typed expressions. -/
import Derived.Test.YtonfmpiikdmndaaGreatPg
namespace Go.Proofs.YtonfmpiikdmndaaGreat.Ev
open Go
set_option maxRecDepth 100000
set_option linter.unusedVariables false
set_option linter.unusedSimpArgs false
set_option linter.unnecessarySimpa false
mutual
theorem dE_bk : ∀ e : api_Expr, dE e ≤ bk_api_Expr e
  | .mk a b c k => by
    rw [dE, bk_api_Expr]
    have := dEs_bk k
    omega
theorem dEs_bk : ∀ k : List api_Expr, dEs k ≤ bkL_api_Expr k
  | [] => by simp [dEs]
  | x :: k => by
    rw [dEs, bkL_api_Expr]
    have := dE_bk x
    have := dEs_bk k
    omega
end
mutual
/-- the number of nodes -/
def nE : api_Expr → Nat
  | .mk _ _ _ k => nEs k + 1
def nEs : List api_Expr → Nat
  | [] => 0
  | x :: k => nE x + nEs k
end
mutual
theorem nE_bk : ∀ e : api_Expr, nE e ≤ bk_api_Expr e
  | .mk a b c k => by
    rw [nE, bk_api_Expr]
    have := nEs_bk k
    omega
theorem nEs_bk : ∀ k : List api_Expr, nEs k ≤ bkL_api_Expr k
  | [] => by simp [nEs]
  | x :: k => by
    rw [nEs, bkL_api_Expr]
    have := nE_bk x
    have := nEs_bk k
    omega
end
mutual
theorem nodesE_eq : ∀ e : api_Expr, nE e ≤ 1152921504606846976 → nodesE e = (nE e : Int)
  | .mk a b c k, h => by
    rw [nE] at h
    rw [nodesE, nE, nodesL_eq k 1 (by omega) (by omega)]
    omega
theorem nodesL_eq : ∀ (k : List api_Expr) (n : Int), 1 ≤ n → n + nEs k ≤ 1152921504606846977 → nodesL k n = n + (nEs k : Int)
  | [], n, _, _ => by simp [nodesL, nEs]
  | x :: k, n, h0, h => by
    rw [nEs] at h
    rw [nodesL, nodesE_eq x (by omega), w64_id (by omega) (by omega), nodesL_eq k _ (by omega) (by omega), nEs]
    omega
end
mutual
theorem depthE_eq : ∀ e : api_Expr, dE e ≤ 1152921504606846976 → depthE e = (dE e : Int)
  | .mk a b c k, h => by
    rw [dE] at h
    rw [depthE, dE, show depthL k 0 = ((max 0 (dEs k) : Nat) : Int) from depthL_eq k 0 (by omega) (by omega)]
    rw [w64_id (by omega) (by omega)]
    omega
theorem depthL_eq : ∀ (k : List api_Expr) (n : Nat), n ≤ 1152921504606846976 → dEs k ≤ 1152921504606846976 → depthL k (n : Int) = ((max n (dEs k) : Nat) : Int)
  | [], n, _, _ => by simp [depthL, dEs]
  | x :: k, n, h0, h => by
    rw [dEs] at h
    rw [depthL, depthE_eq x (by omega), dEs]
    by_cases hx : (dE x : Int) > (n : Int)
    · rw [if_pos hx, depthL_eq k (dE x) (by omega) (by omega)]
      omega
    · rw [if_neg hx, depthL_eq k n (by omega) (by omega)]
      omega
end
theorem nEs_mem {x : api_Expr} {k : List api_Expr} (h : x ∈ k) : nE x ≤ nEs k := by
  induction k with
  | nil => cases h
  | cons a k ih =>
    rw [nEs]
    rcases List.mem_cons.1 h with rfl | h
    · omega
    · have := ih h; omega
end Go.Proofs.YtonfmpiikdmndaaGreat.Ev
