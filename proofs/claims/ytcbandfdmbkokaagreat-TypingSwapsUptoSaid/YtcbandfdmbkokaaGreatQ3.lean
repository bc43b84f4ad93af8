import Derived.Test.YtcbandfdmbkokaaGreatG3
import Derived.Test.YtcbandfdmbkokaaGreatPa
namespace Go.Proofs.YtcbandfdmbkokaaGreat.Ev
open Go
set_option maxRecDepth 100000
set_option linter.unusedVariables false
set_option linter.unusedSimpArgs false
set_option linter.unnecessarySimpa false
def lq_R09_node_1 (rec77 : api_Expr → Bool → Option Int) (L : Nat) (a1 : Bool) (a0 : api_Expr) : List api_Expr → Nat → Int → Option (Nat × (Int × Int))
  | [], i, v1_1 => (some (1, (v1_1, (i : Int))))
  | x :: k, i, v1_1 => (Option.bind (rec77 x a1) fun r20 =>
 (bif (r20 != 0) then (some (0, (r20, (i : Int))))
 else (lq_R09_node_1 rec77 L a1 a0 k (i + 1) v1_1)))
theorem lqe_R09_node_1 (rec77 : api_Expr → Bool → Option Int) (L : Nat) (a1 : Bool) (a0 : api_Expr) (hl : a0.Kids.length ≤ maxLen) : ∀ (k : List api_Expr) (i n : Nat) (v1_1 : Int), a0.Kids.drop i = k → k.length < n → lp_R09_node_1 rec77 L a1 a0 n v1_1 (i : Int) = lq_R09_node_1 rec77 L a1 a0 k i v1_1 := by
  intro k
  induction k with
  | nil =>
    intro i n v1_1 hk hn
    obtain ⟨n, rfl⟩ : ∃ m, n = m + 1 := ⟨n - 1, by simp at hn; omega⟩
    simp only [lp_R09_node_1, lb_R09_node_1, lq_R09_node_1, d_ge (drop_nil hk), anO_bd, anO_fl, anO_cn, anO_gd, anO_fk, anO_sl, anO_lf, anO_jb, anO_jp, anO_ap, anO_nj, cond_false]
  | cons x k ih =>
    intro i n v1_1 hk hn
    obtain ⟨n, rfl⟩ : ∃ m, n = m + 1 := ⟨n - 1, by simp at hn; omega⟩
    obtain ⟨hlt, hx, hk'⟩ := drop_cons hk
    have hih := fun v1_1 => ih (i + 1) n v1_1 hk' (by simpa using hn)
    simp only [lp_R09_node_1, lb_R09_node_1, lq_R09_node_1, d_lt hlt, nn, ltI hlt, toN, hx, w64_succ hlt hl, hih, anO_bd, anO_fl, anO_cn, anO_gd, anO_fk, anO_sl, anO_lf, anO_jb, anO_jp, anO_ap, anO_nj, cond_true, if_true, decide_true, api_Expr.eta, api_Expr.cp_eq, api_Stmt.eta, api_Stmt.cp_eq]
theorem lq0_R09_node_1 (rec77 : api_Expr → Bool → Option Int) (L : Nat) (a1 : Bool) (a0 : api_Expr) (n : Nat) (hl : a0.Kids.length ≤ maxLen) (hn : a0.Kids.length < n) (v1_1 : Int) : lp_R09_node_1 rec77 L a1 a0 n v1_1 0 = lq_R09_node_1 rec77 L a1 a0 a0.Kids 0 v1_1 := lqe_R09_node_1 rec77 L a1 a0 hl _ 0 n v1_1 rfl hn


end Go.Proofs.YtcbandfdmbkokaaGreat.Ev
