import Derived.Test.YtonfmpiikdmndaaGreatG2
import Derived.Test.YtonfmpiikdmndaaGreatPa
namespace Go.Proofs.YtonfmpiikdmndaaGreat.Ev
open Go
set_option maxRecDepth 100000
set_option linter.unusedVariables false
set_option linter.unusedSimpArgs false
set_option linter.unnecessarySimpa false
def lq_typing_node_1 (rec28 : api_Env → api_Expr → Option (Int × Int)) (L : Nat) (a1 : api_Expr) (a0 : api_Env) : List api_Expr → Nat → Int → Int → List Int → Option (Nat × (Int × Int × List Int × Int))
  | [], i, v1_0, v1_1, v1_2 => (some (1, (v1_0, v1_1, v1_2, (i : Int))))
  | x :: k, i, v1_0, v1_1, v1_2 => (Option.bind (rec28 a0 x) fun r1 =>
 (bif (r1.2 != 0) then (some (0, (0, r1.2, v1_2, (i : Int))))
 else (if ((v1_2.length + [r1.1].length) * 8 ≤ 140737488355328) then (if (v1_2.length + [r1.1].length ≤ maxLen) then (lq_typing_node_1 rec28 L a1 a0 k (i + 1) v1_0 v1_1 (v1_2 ++ [r1.1])) else none) else none)))
theorem lqe_typing_node_1 (rec28 : api_Env → api_Expr → Option (Int × Int)) (L : Nat) (a1 : api_Expr) (a0 : api_Env) (hl : a1.Kids.length ≤ maxLen) : ∀ (k : List api_Expr) (i n : Nat) (v1_0 : Int) (v1_1 : Int) (v1_2 : List Int), a1.Kids.drop i = k → k.length < n → lp_typing_node_1 rec28 L a1 a0 n v1_0 v1_1 v1_2 (i : Int) = lq_typing_node_1 rec28 L a1 a0 k i v1_0 v1_1 v1_2 := by
  intro k
  induction k with
  | nil =>
    intro i n v1_0 v1_1 v1_2 hk hn
    obtain ⟨n, rfl⟩ : ∃ m, n = m + 1 := ⟨n - 1, by simp at hn; omega⟩
    simp only [lp_typing_node_1, lb_typing_node_1, lq_typing_node_1, d_ge (drop_nil hk), anO_bd, anO_fl, anO_cn, anO_gd, anO_fk, anO_sl, anO_lf, anO_jb, anO_jp, anO_ap, anO_nj, cond_false]
  | cons x k ih =>
    intro i n v1_0 v1_1 v1_2 hk hn
    obtain ⟨n, rfl⟩ : ∃ m, n = m + 1 := ⟨n - 1, by simp at hn; omega⟩
    obtain ⟨hlt, hx, hk'⟩ := drop_cons hk
    have hih := fun v1_0 v1_1 v1_2 => ih (i + 1) n v1_0 v1_1 v1_2 hk' (by simpa using hn)
    simp only [lp_typing_node_1, lb_typing_node_1, lq_typing_node_1, d_lt hlt, nn, ltI hlt, toN, hx, w64_succ hlt hl, hih, anO_bd, anO_fl, anO_cn, anO_gd, anO_fk, anO_sl, anO_lf, anO_jb, anO_jp, anO_ap, anO_nj, cond_true, if_true, decide_true, api_Expr.eta, api_Expr.cp_eq, api_Stmt.eta, api_Stmt.cp_eq]
theorem lq0_typing_node_1 (rec28 : api_Env → api_Expr → Option (Int × Int)) (L : Nat) (a1 : api_Expr) (a0 : api_Env) (n : Nat) (hl : a1.Kids.length ≤ maxLen) (hn : a1.Kids.length < n) (v1_0 : Int) (v1_1 : Int) (v1_2 : List Int) : lp_typing_node_1 rec28 L a1 a0 n v1_0 v1_1 v1_2 0 = lq_typing_node_1 rec28 L a1 a0 a1.Kids 0 v1_0 v1_1 v1_2 := lqe_typing_node_1 rec28 L a1 a0 hl _ 0 n v1_0 v1_1 v1_2 rfl hn
def lq_bind_fold_1 (rec24 : api_Expr → Option api_Expr) (L : Nat) (a0 : api_Expr) : List api_Expr → Nat → List api_Expr → List Int → Option (Nat × (List api_Expr × List Int × Int))
  | [], i, v1_0, v1_1 => (some (0, (v1_0, v1_1, (i : Int))))
  | x :: k, i, v1_0, v1_1 => (Option.bind (rec24 x) fun r1 =>
 (if ((v1_0.length + [r1].length) * 56 ≤ 140737488355328) then (if (v1_0.length + [r1].length ≤ maxLen) then (Option.bind (F_bind_value L r1) fun r2 =>
 (bif r2.2 then (if ((v1_1.length + [r2.1].length) * 8 ≤ 140737488355328) then (if (v1_1.length + [r2.1].length ≤ maxLen) then (lq_bind_fold_1 rec24 L a0 k (i + 1) (v1_0 ++ [r1]) (v1_1 ++ [r2.1])) else none) else none)
 else (lq_bind_fold_1 rec24 L a0 k (i + 1) (v1_0 ++ [r1]) v1_1))) else none) else none))
theorem lqe_bind_fold_1 (rec24 : api_Expr → Option api_Expr) (L : Nat) (a0 : api_Expr) (hl : a0.Kids.length ≤ maxLen) : ∀ (k : List api_Expr) (i n : Nat) (v1_0 : List api_Expr) (v1_1 : List Int), a0.Kids.drop i = k → k.length < n → lp_bind_fold_1 rec24 L a0 n v1_0 v1_1 (i : Int) = lq_bind_fold_1 rec24 L a0 k i v1_0 v1_1 := by
  intro k
  induction k with
  | nil =>
    intro i n v1_0 v1_1 hk hn
    obtain ⟨n, rfl⟩ : ∃ m, n = m + 1 := ⟨n - 1, by simp at hn; omega⟩
    simp only [lp_bind_fold_1, lb_bind_fold_1, lq_bind_fold_1, d_ge (drop_nil hk), anO_bd, anO_fl, anO_cn, anO_gd, anO_fk, anO_sl, anO_lf, anO_jb, anO_jp, anO_ap, anO_nj, cond_false]
  | cons x k ih =>
    intro i n v1_0 v1_1 hk hn
    obtain ⟨n, rfl⟩ : ∃ m, n = m + 1 := ⟨n - 1, by simp at hn; omega⟩
    obtain ⟨hlt, hx, hk'⟩ := drop_cons hk
    have hih := fun v1_0 v1_1 => ih (i + 1) n v1_0 v1_1 hk' (by simpa using hn)
    simp only [lp_bind_fold_1, lb_bind_fold_1, lq_bind_fold_1, d_lt hlt, nn, ltI hlt, toN, hx, w64_succ hlt hl, hih, anO_bd, anO_fl, anO_cn, anO_gd, anO_fk, anO_sl, anO_lf, anO_jb, anO_jp, anO_ap, anO_nj, cond_true, if_true, decide_true, api_Expr.eta, api_Expr.cp_eq, api_Stmt.eta, api_Stmt.cp_eq]
theorem lq0_bind_fold_1 (rec24 : api_Expr → Option api_Expr) (L : Nat) (a0 : api_Expr) (n : Nat) (hl : a0.Kids.length ≤ maxLen) (hn : a0.Kids.length < n) (v1_0 : List api_Expr) (v1_1 : List Int) : lp_bind_fold_1 rec24 L a0 n v1_0 v1_1 0 = lq_bind_fold_1 rec24 L a0 a0.Kids 0 v1_0 v1_1 := lqe_bind_fold_1 rec24 L a0 hl _ 0 n v1_0 v1_1 rfl hn
def lq_R09_Depth_1 (rec45 : api_Expr → Option Int) (L : Nat) (a0 : api_Expr) : List api_Expr → Nat → Int → Option (Nat × (Int × Int))
  | [], i, v1_1 => (some (0, (v1_1, (i : Int))))
  | x :: k, i, v1_1 => (Option.bind (rec45 x) fun r1 =>
 (lq_R09_Depth_1 rec45 L a0 k (i + 1) (if r1 > v1_1 then r1 else v1_1)))
theorem lqe_R09_Depth_1 (rec45 : api_Expr → Option Int) (L : Nat) (a0 : api_Expr) (hl : a0.Kids.length ≤ maxLen) : ∀ (k : List api_Expr) (i n : Nat) (v1_1 : Int), a0.Kids.drop i = k → k.length < n → lp_R09_Depth_1 rec45 L a0 n v1_1 (i : Int) = lq_R09_Depth_1 rec45 L a0 k i v1_1 := by
  intro k
  induction k with
  | nil =>
    intro i n v1_1 hk hn
    obtain ⟨n, rfl⟩ : ∃ m, n = m + 1 := ⟨n - 1, by simp at hn; omega⟩
    simp only [lp_R09_Depth_1, lb_R09_Depth_1, lq_R09_Depth_1, d_ge (drop_nil hk), anO_bd, anO_fl, anO_cn, anO_gd, anO_fk, anO_sl, anO_lf, anO_jb, anO_jp, anO_ap, anO_nj, cond_false]
  | cons x k ih =>
    intro i n v1_1 hk hn
    obtain ⟨n, rfl⟩ : ∃ m, n = m + 1 := ⟨n - 1, by simp at hn; omega⟩
    obtain ⟨hlt, hx, hk'⟩ := drop_cons hk
    have hih := fun v1_1 => ih (i + 1) n v1_1 hk' (by simpa using hn)
    simp only [lp_R09_Depth_1, lb_R09_Depth_1, lq_R09_Depth_1, d_lt hlt, nn, ltI hlt, toN, hx, w64_succ hlt hl, hih, anO_bd, anO_fl, anO_cn, anO_gd, anO_fk, anO_sl, anO_lf, anO_jb, anO_jp, anO_ap, anO_nj, cond_true, if_true, decide_true, api_Expr.eta, api_Expr.cp_eq, api_Stmt.eta, api_Stmt.cp_eq]
theorem lq0_R09_Depth_1 (rec45 : api_Expr → Option Int) (L : Nat) (a0 : api_Expr) (n : Nat) (hl : a0.Kids.length ≤ maxLen) (hn : a0.Kids.length < n) (v1_1 : Int) : lp_R09_Depth_1 rec45 L a0 n v1_1 0 = lq_R09_Depth_1 rec45 L a0 a0.Kids 0 v1_1 := lqe_R09_Depth_1 rec45 L a0 hl _ 0 n v1_1 rfl hn
def lq_R07_Find_1  (L : Nat) (a0 : (List ByteArray)) (a1 : ByteArray) : List ByteArray → Nat → Int → Option (Nat × (Int × Int))
  | [], i, v1_2 => (some (1, (v1_2, (i : Int))))
  | x :: k, i, v1_2 => (bif (x.toList == a1.toList) then (some (0, ((i : Int), (i : Int))))
 else (lq_R07_Find_1 L a0 a1 k (i + 1) v1_2))
theorem lqe_R07_Find_1  (L : Nat) (a0 : (List ByteArray)) (a1 : ByteArray) (hl : a0.length ≤ maxLen) : ∀ (k : List ByteArray) (i n : Nat) (v1_2 : Int), a0.drop i = k → k.length < n → lp_R07_Find_1  L a0 a1 n v1_2 (i : Int) = lq_R07_Find_1 L a0 a1 k i v1_2 := by
  intro k
  induction k with
  | nil =>
    intro i n v1_2 hk hn
    obtain ⟨n, rfl⟩ : ∃ m, n = m + 1 := ⟨n - 1, by simp at hn; omega⟩
    simp only [lp_R07_Find_1, lb_R07_Find_1, lq_R07_Find_1, d_ge (drop_nil hk), anO_bd, anO_fl, anO_cn, anO_gd, anO_fk, anO_sl, anO_lf, anO_jb, anO_jp, anO_ap, anO_nj, cond_false]
  | cons x k ih =>
    intro i n v1_2 hk hn
    obtain ⟨n, rfl⟩ : ∃ m, n = m + 1 := ⟨n - 1, by simp at hn; omega⟩
    obtain ⟨hlt, hx, hk'⟩ := drop_cons hk
    have hih := fun v1_2 => ih (i + 1) n v1_2 hk' (by simpa using hn)
    simp only [lp_R07_Find_1, lb_R07_Find_1, lq_R07_Find_1, d_lt hlt, nn, ltI hlt, toN, hx, w64_succ hlt hl, hih, anO_bd, anO_fl, anO_cn, anO_gd, anO_fk, anO_sl, anO_lf, anO_jb, anO_jp, anO_ap, anO_nj, cond_true, if_true, decide_true, api_Expr.eta, api_Expr.cp_eq, api_Stmt.eta, api_Stmt.cp_eq]
theorem lq0_R07_Find_1  (L : Nat) (a0 : (List ByteArray)) (a1 : ByteArray) (n : Nat) (hl : a0.length ≤ maxLen) (hn : a0.length < n) (v1_2 : Int) : lp_R07_Find_1  L a0 a1 n v1_2 0 = lq_R07_Find_1 L a0 a1 a0 0 v1_2 := lqe_R07_Find_1  L a0 a1 hl _ 0 n v1_2 rfl hn
def lq_R09_node_1 (rec46 : api_Expr → Bool → Option Int) (L : Nat) (a1 : Bool) (a0 : api_Expr) : List api_Expr → Nat → Int → Option (Nat × (Int × Int))
  | [], i, v1_1 => (some (1, (v1_1, (i : Int))))
  | x :: k, i, v1_1 => (Option.bind (rec46 x a1) fun r25 =>
 (bif (r25 != 0) then (some (0, (r25, (i : Int))))
 else (lq_R09_node_1 rec46 L a1 a0 k (i + 1) v1_1)))
theorem lqe_R09_node_1 (rec46 : api_Expr → Bool → Option Int) (L : Nat) (a1 : Bool) (a0 : api_Expr) (hl : a0.Kids.length ≤ maxLen) : ∀ (k : List api_Expr) (i n : Nat) (v1_1 : Int), a0.Kids.drop i = k → k.length < n → lp_R09_node_1 rec46 L a1 a0 n v1_1 (i : Int) = lq_R09_node_1 rec46 L a1 a0 k i v1_1 := by
  intro k
  induction k with
  | nil =>
    intro i n v1_1 hk hn
    obtain ⟨n, rfl⟩ : ∃ m, n = m + 1 := ⟨n - 1, by simp at hn; omega⟩
    simp only [lp_R09_node_1, lb_R09_node_1, lq_R09_node_1, d_ge (drop_nil hk), anO_bd, anO_fl, anO_cn, anO_gd, anO_fk, anO_sl, anO_lf, anO_jb, anO_jp, anO_ap, anO_nj, cond_false]
  | cons x k ih =>
    intro i n v1_1 hk hn
    obtain ⟨n, rfl⟩ : ∃ m, n = m + 1 := ⟨n - 1, by simp at hn; omega⟩
    obtain ⟨hlt, hx, hk'⟩ := drop_cons hk
    have hih := fun v1_1 => ih (i + 1) n v1_1 hk' (by simpa using hn)
    simp only [lp_R09_node_1, lb_R09_node_1, lq_R09_node_1, d_lt hlt, nn, ltI hlt, toN, hx, w64_succ hlt hl, hih, anO_bd, anO_fl, anO_cn, anO_gd, anO_fk, anO_sl, anO_lf, anO_jb, anO_jp, anO_ap, anO_nj, cond_true, if_true, decide_true, api_Expr.eta, api_Expr.cp_eq, api_Stmt.eta, api_Stmt.cp_eq]
theorem lq0_R09_node_1 (rec46 : api_Expr → Bool → Option Int) (L : Nat) (a1 : Bool) (a0 : api_Expr) (n : Nat) (hl : a0.Kids.length ≤ maxLen) (hn : a0.Kids.length < n) (v1_1 : Int) : lp_R09_node_1 rec46 L a1 a0 n v1_1 0 = lq_R09_node_1 rec46 L a1 a0 a0.Kids 0 v1_1 := lqe_R09_node_1 rec46 L a1 a0 hl _ 0 n v1_1 rfl hn
end Go.Proofs.YtonfmpiikdmndaaGreat.Ev
