/-  What is read: its bulk. -/
import Derived.Test.YtonfmpiikdmndaaGreatR0
import Derived.Test.YtonfmpiikdmndaaGreatFz
namespace Go.Proofs.YtonfmpiikdmndaaGreat.Ev
open Go
set_option maxRecDepth 100000
set_option linter.unusedVariables false
set_option linter.unusedSimpArgs false
set_option linter.unnecessarySimpa false
mutual
def bk_api_Expr : api_Expr → Nat
  | .mk a0 a1 a2 a3 => 1 + (a1.size + 1) + 1 + (bkL_api_Expr a3 + 1) + 1
def bkL_api_Expr : List api_Expr → Nat
  | [] => 0
  | x :: k => bk_api_Expr x + bkL_api_Expr k
end
theorem bkL_api_Expr_eq (l : List api_Expr) : bkL_api_Expr l = sumL bk_api_Expr l := by
  induction l with
  | nil => rw [bkL_api_Expr]; rfl
  | cons x k ih => rw [bkL_api_Expr, ih]; rfl
theorem bk_api_Expr_eq (x : api_Expr) : bk_api_Expr x = 1 + (x.Name.size + 1) + 1 + (sumL bk_api_Expr x.Kids + 1) + 1 := by
  cases x with | mk a0 a1 a2 a3 => simp only [bk_api_Expr, bkL_api_Expr_eq, api_Expr.Op, api_Expr.Name, api_Expr.N, api_Expr.Kids]
theorem bkg25 : ∀ n, (∀ (y : api_Expr) (b : Nat), ShpB Tryz.prog n 25 (enapi_Expr y) b → bk_api_Expr y ≤ b) := by
  intro n
  induction n using Nat.strongRecOn with
  | _ n ih =>
  refine ?_
  · intro y b h
    obtain ⟨m, b0, hm, hb, h⟩ := shpB_st Tryz.underlying25 h
    change ShpsB (ShpB Tryz.prog m) [22, 9, 3, 23] (enapi_Expr y) b0 at h
    rw [bk_api_Expr_eq]
    cases y with
    | mk a0 a1 a2 a3 =>
    obtain ⟨c0, d0, e0, g0, h⟩ := shpsB_cons (w_int Tryz.underlying22 m) h
    obtain ⟨c1, d1, e1, g1, h⟩ := shpsB_cons (w_str Tryz.underlying9 m) h
    obtain ⟨c2, d2, e2, g2, h⟩ := shpsB_cons (w_int Tryz.underlying3 m) h
    obtain ⟨c3, d3, e3, g3, h⟩ := shpsB_cons (w_sl Tryz.underlying23 m) h
    have q0 : 1 ≤ c0 := shpB_one g0
    have q1 : (a1.size + 1) ≤ c1 := shpB_str Tryz.underlying9 g1
    have q2 : 1 ≤ c2 := shpB_one g2
    have q3 : sumL bk_api_Expr a3 + 1 ≤ c3 := by
      obtain ⟨m2, f, hm2, h1, h2⟩ := shpB_sl Tryz.underlying23 g3
      have := bulk_rows (row := row25) (Q := ShpB Tryz.prog m2 25) (g := bk_api_Expr) (fun y b h => (ih m2 (by omega)) y b h) (l := a3) (f := f) h2
      change sumTo f a3.length + 1 ≤ c3 at h1
      omega
    simp only [api_Expr.Op, api_Expr.Name, api_Expr.N, api_Expr.Kids]
    omega
theorem bkp25 (n : Nat) (y : api_Expr) (b : Nat) (h : ShpB Tryz.prog n 25 (enapi_Expr y) b) : bk_api_Expr y ≤ b := (bkg25 n) y b h
end Go.Proofs.YtonfmpiikdmndaaGreat.Ev
