import Derived.Test.YtonfmpiikdmndaaGreatG1
import Derived.Test.YtonfmpiikdmndaaGreatPa
namespace Go.Proofs.YtonfmpiikdmndaaGreat.Ev
open Go
set_option maxRecDepth 100000
set_option linter.unusedVariables false
set_option linter.unusedSimpArgs false
set_option linter.unnecessarySimpa false
def lq_R09_Nodes_1 (rec6 : api_Expr → Option Int) (L : Nat) (a0 : api_Expr) : List api_Expr → Nat → Int → Option (Nat × (Int × Int))
  | [], i, v1_1 => (some (0, (v1_1, (i : Int))))
  | x :: k, i, v1_1 => (Option.bind (rec6 x) fun r1 =>
 (lq_R09_Nodes_1 rec6 L a0 k (i + 1) (w64 (v1_1 + r1))))
theorem lqe_R09_Nodes_1 (rec6 : api_Expr → Option Int) (L : Nat) (a0 : api_Expr) (hl : a0.Kids.length ≤ maxLen) : ∀ (k : List api_Expr) (i n : Nat) (v1_1 : Int), a0.Kids.drop i = k → k.length < n → lp_R09_Nodes_1 rec6 L a0 n v1_1 (i : Int) = lq_R09_Nodes_1 rec6 L a0 k i v1_1 := by
  intro k
  induction k with
  | nil =>
    intro i n v1_1 hk hn
    obtain ⟨n, rfl⟩ : ∃ m, n = m + 1 := ⟨n - 1, by simp at hn; omega⟩
    simp only [lp_R09_Nodes_1, lb_R09_Nodes_1, lq_R09_Nodes_1, d_ge (drop_nil hk), anO_bd, anO_fl, anO_cn, anO_gd, anO_fk, anO_sl, anO_lf, anO_jb, anO_jp, anO_ap, anO_nj, cond_false]
  | cons x k ih =>
    intro i n v1_1 hk hn
    obtain ⟨n, rfl⟩ : ∃ m, n = m + 1 := ⟨n - 1, by simp at hn; omega⟩
    obtain ⟨hlt, hx, hk'⟩ := drop_cons hk
    have hih := fun v1_1 => ih (i + 1) n v1_1 hk' (by simpa using hn)
    simp only [lp_R09_Nodes_1, lb_R09_Nodes_1, lq_R09_Nodes_1, d_lt hlt, nn, ltI hlt, toN, hx, w64_succ hlt hl, hih, anO_bd, anO_fl, anO_cn, anO_gd, anO_fk, anO_sl, anO_lf, anO_jb, anO_jp, anO_ap, anO_nj, cond_true, if_true, decide_true, api_Expr.eta, api_Expr.cp_eq, api_Stmt.eta, api_Stmt.cp_eq]
theorem lq0_R09_Nodes_1 (rec6 : api_Expr → Option Int) (L : Nat) (a0 : api_Expr) (n : Nat) (hl : a0.Kids.length ≤ maxLen) (hn : a0.Kids.length < n) (v1_1 : Int) : lp_R09_Nodes_1 rec6 L a0 n v1_1 0 = lq_R09_Nodes_1 rec6 L a0 a0.Kids 0 v1_1 := lqe_R09_Nodes_1 rec6 L a0 hl _ 0 n v1_1 rfl hn
def lq_expr_Nodes_1 (rec61 : api_Expr → Option Int) (L : Nat) (a0 : api_Expr) : List api_Expr → Nat → Int → Option (Nat × (Int × Int))
  | [], i, v1_1 => (some (0, (v1_1, (i : Int))))
  | x :: k, i, v1_1 => (Option.bind (rec61 x) fun r1 =>
 (lq_expr_Nodes_1 rec61 L a0 k (i + 1) (w64 (v1_1 + r1))))
theorem lqe_expr_Nodes_1 (rec61 : api_Expr → Option Int) (L : Nat) (a0 : api_Expr) (hl : a0.Kids.length ≤ maxLen) : ∀ (k : List api_Expr) (i n : Nat) (v1_1 : Int), a0.Kids.drop i = k → k.length < n → lp_expr_Nodes_1 rec61 L a0 n v1_1 (i : Int) = lq_expr_Nodes_1 rec61 L a0 k i v1_1 := by
  intro k
  induction k with
  | nil =>
    intro i n v1_1 hk hn
    obtain ⟨n, rfl⟩ : ∃ m, n = m + 1 := ⟨n - 1, by simp at hn; omega⟩
    simp only [lp_expr_Nodes_1, lb_expr_Nodes_1, lq_expr_Nodes_1, d_ge (drop_nil hk), anO_bd, anO_fl, anO_cn, anO_gd, anO_fk, anO_sl, anO_lf, anO_jb, anO_jp, anO_ap, anO_nj, cond_false]
  | cons x k ih =>
    intro i n v1_1 hk hn
    obtain ⟨n, rfl⟩ : ∃ m, n = m + 1 := ⟨n - 1, by simp at hn; omega⟩
    obtain ⟨hlt, hx, hk'⟩ := drop_cons hk
    have hih := fun v1_1 => ih (i + 1) n v1_1 hk' (by simpa using hn)
    simp only [lp_expr_Nodes_1, lb_expr_Nodes_1, lq_expr_Nodes_1, d_lt hlt, nn, ltI hlt, toN, hx, w64_succ hlt hl, hih, anO_bd, anO_fl, anO_cn, anO_gd, anO_fk, anO_sl, anO_lf, anO_jb, anO_jp, anO_ap, anO_nj, cond_true, if_true, decide_true, api_Expr.eta, api_Expr.cp_eq, api_Stmt.eta, api_Stmt.cp_eq]
theorem lq0_expr_Nodes_1 (rec61 : api_Expr → Option Int) (L : Nat) (a0 : api_Expr) (n : Nat) (hl : a0.Kids.length ≤ maxLen) (hn : a0.Kids.length < n) (v1_1 : Int) : lp_expr_Nodes_1 rec61 L a0 n v1_1 0 = lq_expr_Nodes_1 rec61 L a0 a0.Kids 0 v1_1 := lqe_expr_Nodes_1 rec61 L a0 hl _ 0 n v1_1 rfl hn
def lq_expr_Depth_1 (rec62 : api_Expr → Option Int) (L : Nat) (a0 : api_Expr) : List api_Expr → Nat → Int → Option (Nat × (Int × Int))
  | [], i, v1_1 => (some (0, (v1_1, (i : Int))))
  | x :: k, i, v1_1 => (Option.bind (rec62 x) fun r1 =>
 (lq_expr_Depth_1 rec62 L a0 k (i + 1) (if r1 > v1_1 then r1 else v1_1)))
theorem lqe_expr_Depth_1 (rec62 : api_Expr → Option Int) (L : Nat) (a0 : api_Expr) (hl : a0.Kids.length ≤ maxLen) : ∀ (k : List api_Expr) (i n : Nat) (v1_1 : Int), a0.Kids.drop i = k → k.length < n → lp_expr_Depth_1 rec62 L a0 n v1_1 (i : Int) = lq_expr_Depth_1 rec62 L a0 k i v1_1 := by
  intro k
  induction k with
  | nil =>
    intro i n v1_1 hk hn
    obtain ⟨n, rfl⟩ : ∃ m, n = m + 1 := ⟨n - 1, by simp at hn; omega⟩
    simp only [lp_expr_Depth_1, lb_expr_Depth_1, lq_expr_Depth_1, d_ge (drop_nil hk), anO_bd, anO_fl, anO_cn, anO_gd, anO_fk, anO_sl, anO_lf, anO_jb, anO_jp, anO_ap, anO_nj, cond_false]
  | cons x k ih =>
    intro i n v1_1 hk hn
    obtain ⟨n, rfl⟩ : ∃ m, n = m + 1 := ⟨n - 1, by simp at hn; omega⟩
    obtain ⟨hlt, hx, hk'⟩ := drop_cons hk
    have hih := fun v1_1 => ih (i + 1) n v1_1 hk' (by simpa using hn)
    simp only [lp_expr_Depth_1, lb_expr_Depth_1, lq_expr_Depth_1, d_lt hlt, nn, ltI hlt, toN, hx, w64_succ hlt hl, hih, anO_bd, anO_fl, anO_cn, anO_gd, anO_fk, anO_sl, anO_lf, anO_jb, anO_jp, anO_ap, anO_nj, cond_true, if_true, decide_true, api_Expr.eta, api_Expr.cp_eq, api_Stmt.eta, api_Stmt.cp_eq]
theorem lq0_expr_Depth_1 (rec62 : api_Expr → Option Int) (L : Nat) (a0 : api_Expr) (n : Nat) (hl : a0.Kids.length ≤ maxLen) (hn : a0.Kids.length < n) (v1_1 : Int) : lp_expr_Depth_1 rec62 L a0 n v1_1 0 = lq_expr_Depth_1 rec62 L a0 a0.Kids 0 v1_1 := lqe_expr_Depth_1 rec62 L a0 hl _ 0 n v1_1 rfl hn
def lq_expr_kind_nodes_1 (rec63 : expr_kind → api_Expr → Option Int) (L : Nat) (a1 : api_Expr) (a0 : expr_kind) : List api_Expr → Nat → Int → Option (Nat × (Int × Int))
  | [], i, v1_0 => (some (1, (v1_0, (i : Int))))
  | x :: k, i, v1_0 => (Option.bind (rec63 a0 x) fun r2 =>
 (bif (r2 != 0) then (some (0, (r2, (i : Int))))
 else (lq_expr_kind_nodes_1 rec63 L a1 a0 k (i + 1) v1_0)))
theorem lqe_expr_kind_nodes_1 (rec63 : expr_kind → api_Expr → Option Int) (L : Nat) (a1 : api_Expr) (a0 : expr_kind) (hl : a1.Kids.length ≤ maxLen) : ∀ (k : List api_Expr) (i n : Nat) (v1_0 : Int), a1.Kids.drop i = k → k.length < n → lp_expr_kind_nodes_1 rec63 L a1 a0 n v1_0 (i : Int) = lq_expr_kind_nodes_1 rec63 L a1 a0 k i v1_0 := by
  intro k
  induction k with
  | nil =>
    intro i n v1_0 hk hn
    obtain ⟨n, rfl⟩ : ∃ m, n = m + 1 := ⟨n - 1, by simp at hn; omega⟩
    simp only [lp_expr_kind_nodes_1, lb_expr_kind_nodes_1, lq_expr_kind_nodes_1, d_ge (drop_nil hk), anO_bd, anO_fl, anO_cn, anO_gd, anO_fk, anO_sl, anO_lf, anO_jb, anO_jp, anO_ap, anO_nj, cond_false]
  | cons x k ih =>
    intro i n v1_0 hk hn
    obtain ⟨n, rfl⟩ : ∃ m, n = m + 1 := ⟨n - 1, by simp at hn; omega⟩
    obtain ⟨hlt, hx, hk'⟩ := drop_cons hk
    have hih := fun v1_0 => ih (i + 1) n v1_0 hk' (by simpa using hn)
    simp only [lp_expr_kind_nodes_1, lb_expr_kind_nodes_1, lq_expr_kind_nodes_1, d_lt hlt, nn, ltI hlt, toN, hx, w64_succ hlt hl, hih, anO_bd, anO_fl, anO_cn, anO_gd, anO_fk, anO_sl, anO_lf, anO_jb, anO_jp, anO_ap, anO_nj, cond_true, if_true, decide_true, api_Expr.eta, api_Expr.cp_eq, api_Stmt.eta, api_Stmt.cp_eq]
theorem lq0_expr_kind_nodes_1 (rec63 : expr_kind → api_Expr → Option Int) (L : Nat) (a1 : api_Expr) (a0 : expr_kind) (n : Nat) (hl : a1.Kids.length ≤ maxLen) (hn : a1.Kids.length < n) (v1_0 : Int) : lp_expr_kind_nodes_1 rec63 L a1 a0 n v1_0 0 = lq_expr_kind_nodes_1 rec63 L a1 a0 a1.Kids 0 v1_0 := lqe_expr_kind_nodes_1 rec63 L a1 a0 hl _ 0 n v1_0 rfl hn
def lq_typing_Find_1  (L : Nat) (a1 : ByteArray) (a0 : api_Env) : List api_Value → Nat → Int → Bool → Option (Nat × (Int × Bool × Int))
  | [], i, v1_1, v1_2 => (some (1, (v1_1, v1_2, (i : Int))))
  | x :: k, i, v1_1, v1_2 => (bif ((x.Name).toList == a1.toList) then (some (0, ((x.Type_), true, (i : Int))))
 else (lq_typing_Find_1 L a1 a0 k (i + 1) v1_1 v1_2))
theorem lqe_typing_Find_1  (L : Nat) (a1 : ByteArray) (a0 : api_Env) (hl : a0.Site.Vars.length ≤ maxLen) : ∀ (k : List api_Value) (i n : Nat) (v1_1 : Int) (v1_2 : Bool), a0.Site.Vars.drop i = k → k.length < n → lp_typing_Find_1  L a1 a0 n v1_1 v1_2 (i : Int) = lq_typing_Find_1 L a1 a0 k i v1_1 v1_2 := by
  intro k
  induction k with
  | nil =>
    intro i n v1_1 v1_2 hk hn
    obtain ⟨n, rfl⟩ : ∃ m, n = m + 1 := ⟨n - 1, by simp at hn; omega⟩
    simp only [lp_typing_Find_1, lb_typing_Find_1, lq_typing_Find_1, d_ge (drop_nil hk), anO_bd, anO_fl, anO_cn, anO_gd, anO_fk, anO_sl, anO_lf, anO_jb, anO_jp, anO_ap, anO_nj, cond_false]
  | cons x k ih =>
    intro i n v1_1 v1_2 hk hn
    obtain ⟨n, rfl⟩ : ∃ m, n = m + 1 := ⟨n - 1, by simp at hn; omega⟩
    obtain ⟨hlt, hx, hk'⟩ := drop_cons hk
    have hih := fun v1_1 v1_2 => ih (i + 1) n v1_1 v1_2 hk' (by simpa using hn)
    simp only [lp_typing_Find_1, lb_typing_Find_1, lq_typing_Find_1, d_lt hlt, nn, ltI hlt, toN, hx, w64_succ hlt hl, hih, anO_bd, anO_fl, anO_cn, anO_gd, anO_fk, anO_sl, anO_lf, anO_jb, anO_jp, anO_ap, anO_nj, cond_true, if_true, decide_true, api_Expr.eta, api_Expr.cp_eq, api_Stmt.eta, api_Stmt.cp_eq]
theorem lq0_typing_Find_1  (L : Nat) (a1 : ByteArray) (a0 : api_Env) (n : Nat) (hl : a0.Site.Vars.length ≤ maxLen) (hn : a0.Site.Vars.length < n) (v1_1 : Int) (v1_2 : Bool) : lp_typing_Find_1  L a1 a0 n v1_1 v1_2 0 = lq_typing_Find_1 L a1 a0 a0.Site.Vars 0 v1_1 v1_2 := lqe_typing_Find_1  L a1 a0 hl _ 0 n v1_1 v1_2 rfl hn
def lq_typing_Find_2  (L : Nat) (a1 : ByteArray) (a0 : api_Env) : List api_Value → Nat → Int → Bool → Option (Nat × (Int × Bool × Int))
  | [], i, v2_1, v2_2 => (some (1, (v2_1, v2_2, (i : Int))))
  | x :: k, i, v2_1, v2_2 => (bif ((x.Name).toList == a1.toList) then (some (0, ((x.Type_), true, (i : Int))))
 else (lq_typing_Find_2 L a1 a0 k (i + 1) v2_1 v2_2))
theorem lqe_typing_Find_2  (L : Nat) (a1 : ByteArray) (a0 : api_Env) (hl : a0.Params.length ≤ maxLen) : ∀ (k : List api_Value) (i n : Nat) (v2_1 : Int) (v2_2 : Bool), a0.Params.drop i = k → k.length < n → lp_typing_Find_2  L a1 a0 n v2_1 v2_2 (i : Int) = lq_typing_Find_2 L a1 a0 k i v2_1 v2_2 := by
  intro k
  induction k with
  | nil =>
    intro i n v2_1 v2_2 hk hn
    obtain ⟨n, rfl⟩ : ∃ m, n = m + 1 := ⟨n - 1, by simp at hn; omega⟩
    simp only [lp_typing_Find_2, lb_typing_Find_2, lq_typing_Find_2, d_ge (drop_nil hk), anO_bd, anO_fl, anO_cn, anO_gd, anO_fk, anO_sl, anO_lf, anO_jb, anO_jp, anO_ap, anO_nj, cond_false]
  | cons x k ih =>
    intro i n v2_1 v2_2 hk hn
    obtain ⟨n, rfl⟩ : ∃ m, n = m + 1 := ⟨n - 1, by simp at hn; omega⟩
    obtain ⟨hlt, hx, hk'⟩ := drop_cons hk
    have hih := fun v2_1 v2_2 => ih (i + 1) n v2_1 v2_2 hk' (by simpa using hn)
    simp only [lp_typing_Find_2, lb_typing_Find_2, lq_typing_Find_2, d_lt hlt, nn, ltI hlt, toN, hx, w64_succ hlt hl, hih, anO_bd, anO_fl, anO_cn, anO_gd, anO_fk, anO_sl, anO_lf, anO_jb, anO_jp, anO_ap, anO_nj, cond_true, if_true, decide_true, api_Expr.eta, api_Expr.cp_eq, api_Stmt.eta, api_Stmt.cp_eq]
theorem lq0_typing_Find_2  (L : Nat) (a1 : ByteArray) (a0 : api_Env) (n : Nat) (hl : a0.Params.length ≤ maxLen) (hn : a0.Params.length < n) (v2_1 : Int) (v2_2 : Bool) : lp_typing_Find_2  L a1 a0 n v2_1 v2_2 0 = lq_typing_Find_2 L a1 a0 a0.Params 0 v2_1 v2_2 := lqe_typing_Find_2  L a1 a0 hl _ 0 n v2_1 v2_2 rfl hn
def lq_slices_Index_string_1  (L : Nat) (a0 : (List ByteArray)) (a1 : ByteArray) : List ByteArray → Nat → Int → Option (Nat × (Int × Int))
  | [], i, v1_2 => (some (1, (v1_2, (i : Int))))
  | x :: k, i, v1_2 => (bif (a1.toList == x.toList) then (some (0, ((i : Int), (i : Int))))
 else (lq_slices_Index_string_1 L a0 a1 k (i + 1) v1_2))
theorem lqe_slices_Index_string_1  (L : Nat) (a0 : (List ByteArray)) (a1 : ByteArray) (hl : a0.length ≤ maxLen) : ∀ (k : List ByteArray) (i n : Nat) (v1_2 : Int), a0.drop i = k → k.length < n → lp_slices_Index_string_1  L a0 a1 n v1_2 (i : Int) = lq_slices_Index_string_1 L a0 a1 k i v1_2 := by
  intro k
  induction k with
  | nil =>
    intro i n v1_2 hk hn
    obtain ⟨n, rfl⟩ : ∃ m, n = m + 1 := ⟨n - 1, by simp at hn; omega⟩
    simp only [lp_slices_Index_string_1, lb_slices_Index_string_1, lq_slices_Index_string_1, d_ge (drop_nil hk), anO_bd, anO_fl, anO_cn, anO_gd, anO_fk, anO_sl, anO_lf, anO_jb, anO_jp, anO_ap, anO_nj, cond_false]
  | cons x k ih =>
    intro i n v1_2 hk hn
    obtain ⟨n, rfl⟩ : ∃ m, n = m + 1 := ⟨n - 1, by simp at hn; omega⟩
    obtain ⟨hlt, hx, hk'⟩ := drop_cons hk
    have hih := fun v1_2 => ih (i + 1) n v1_2 hk' (by simpa using hn)
    simp only [lp_slices_Index_string_1, lb_slices_Index_string_1, lq_slices_Index_string_1, d_lt hlt, nn, ltI hlt, toN, hx, w64_succ hlt hl, hih, anO_bd, anO_fl, anO_cn, anO_gd, anO_fk, anO_sl, anO_lf, anO_jb, anO_jp, anO_ap, anO_nj, cond_true, if_true, decide_true, api_Expr.eta, api_Expr.cp_eq, api_Stmt.eta, api_Stmt.cp_eq]
theorem lq0_slices_Index_string_1  (L : Nat) (a0 : (List ByteArray)) (a1 : ByteArray) (n : Nat) (hl : a0.length ≤ maxLen) (hn : a0.length < n) (v1_2 : Int) : lp_slices_Index_string_1  L a0 a1 n v1_2 0 = lq_slices_Index_string_1 L a0 a1 a0 0 v1_2 := lqe_slices_Index_string_1  L a0 a1 hl _ 0 n v1_2 rfl hn
def lq_model_Routine_1  (L : Nat) (p1_0 : List api_Routine) (p1_1 : api_SiteDecl) (p1_2 : ByteArray) : List api_Routine → Nat → Int → Option (Nat × (Int × Int))
  | [], i, v1_1 => (some (1, (v1_1, (i : Int))))
  | x :: k, i, v1_1 => (bif ((x.Name).toList == p1_2.toList) then (some (0, ((i : Int), (i : Int))))
 else (lq_model_Routine_1 L p1_0 p1_1 p1_2 k (i + 1) v1_1))
theorem lqe_model_Routine_1  (L : Nat) (p1_0 : List api_Routine) (p1_1 : api_SiteDecl) (p1_2 : ByteArray) (hl : p1_0.length ≤ maxLen) : ∀ (k : List api_Routine) (i n : Nat) (v1_1 : Int), p1_0.drop i = k → k.length < n → lp_model_Routine_1  L p1_0 p1_1 p1_2 n v1_1 (i : Int) = lq_model_Routine_1 L p1_0 p1_1 p1_2 k i v1_1 := by
  intro k
  induction k with
  | nil =>
    intro i n v1_1 hk hn
    obtain ⟨n, rfl⟩ : ∃ m, n = m + 1 := ⟨n - 1, by simp at hn; omega⟩
    simp only [lp_model_Routine_1, lb_model_Routine_1, lq_model_Routine_1, d_ge (drop_nil hk), anO_bd, anO_fl, anO_cn, anO_gd, anO_fk, anO_sl, anO_lf, anO_jb, anO_jp, anO_ap, anO_nj, cond_false]
  | cons x k ih =>
    intro i n v1_1 hk hn
    obtain ⟨n, rfl⟩ : ∃ m, n = m + 1 := ⟨n - 1, by simp at hn; omega⟩
    obtain ⟨hlt, hx, hk'⟩ := drop_cons hk
    have hih := fun v1_1 => ih (i + 1) n v1_1 hk' (by simpa using hn)
    simp only [lp_model_Routine_1, lb_model_Routine_1, lq_model_Routine_1, d_lt hlt, nn, ltI hlt, toN, hx, w64_succ hlt hl, hih, anO_bd, anO_fl, anO_cn, anO_gd, anO_fk, anO_sl, anO_lf, anO_jb, anO_jp, anO_ap, anO_nj, cond_true, if_true, decide_true, api_Expr.eta, api_Expr.cp_eq, api_Stmt.eta, api_Stmt.cp_eq]
theorem lq0_model_Routine_1  (L : Nat) (p1_0 : List api_Routine) (p1_1 : api_SiteDecl) (p1_2 : ByteArray) (n : Nat) (hl : p1_0.length ≤ maxLen) (hn : p1_0.length < n) (v1_1 : Int) : lp_model_Routine_1  L p1_0 p1_1 p1_2 n v1_1 0 = lq_model_Routine_1 L p1_0 p1_1 p1_2 p1_0 0 v1_1 := lqe_model_Routine_1  L p1_0 p1_1 p1_2 hl _ 0 n v1_1 rfl hn
def lq_model_place_1  (L : Nat) (p1_0 : List api_Value) (p1_1 : api_SiteDecl) (p1_2 : ByteArray) : List api_Value → Nat → Int → Option (Nat × (Int × Int))
  | [], i, v1_1 => (some (1, (v1_1, (i : Int))))
  | x :: k, i, v1_1 => (bif ((x.Name).toList == p1_2.toList) then (some (0, ((i : Int), (i : Int))))
 else (lq_model_place_1 L p1_0 p1_1 p1_2 k (i + 1) v1_1))
theorem lqe_model_place_1  (L : Nat) (p1_0 : List api_Value) (p1_1 : api_SiteDecl) (p1_2 : ByteArray) (hl : p1_0.length ≤ maxLen) : ∀ (k : List api_Value) (i n : Nat) (v1_1 : Int), p1_0.drop i = k → k.length < n → lp_model_place_1  L p1_0 p1_1 p1_2 n v1_1 (i : Int) = lq_model_place_1 L p1_0 p1_1 p1_2 k i v1_1 := by
  intro k
  induction k with
  | nil =>
    intro i n v1_1 hk hn
    obtain ⟨n, rfl⟩ : ∃ m, n = m + 1 := ⟨n - 1, by simp at hn; omega⟩
    simp only [lp_model_place_1, lb_model_place_1, lq_model_place_1, d_ge (drop_nil hk), anO_bd, anO_fl, anO_cn, anO_gd, anO_fk, anO_sl, anO_lf, anO_jb, anO_jp, anO_ap, anO_nj, cond_false]
  | cons x k ih =>
    intro i n v1_1 hk hn
    obtain ⟨n, rfl⟩ : ∃ m, n = m + 1 := ⟨n - 1, by simp at hn; omega⟩
    obtain ⟨hlt, hx, hk'⟩ := drop_cons hk
    have hih := fun v1_1 => ih (i + 1) n v1_1 hk' (by simpa using hn)
    simp only [lp_model_place_1, lb_model_place_1, lq_model_place_1, d_lt hlt, nn, ltI hlt, toN, hx, w64_succ hlt hl, hih, anO_bd, anO_fl, anO_cn, anO_gd, anO_fk, anO_sl, anO_lf, anO_jb, anO_jp, anO_ap, anO_nj, cond_true, if_true, decide_true, api_Expr.eta, api_Expr.cp_eq, api_Stmt.eta, api_Stmt.cp_eq]
theorem lq0_model_place_1  (L : Nat) (p1_0 : List api_Value) (p1_1 : api_SiteDecl) (p1_2 : ByteArray) (n : Nat) (hl : p1_0.length ≤ maxLen) (hn : p1_0.length < n) (v1_1 : Int) : lp_model_place_1  L p1_0 p1_1 p1_2 n v1_1 0 = lq_model_place_1 L p1_0 p1_1 p1_2 p1_0 0 v1_1 := lqe_model_place_1  L p1_0 p1_1 p1_2 hl _ 0 n v1_1 rfl hn
def lq_model_place_2  (L : Nat) (p2_0 : List api_ResourceDecl) (p2_1 : api_SiteDecl) (p2_2 : ByteArray) : List api_ResourceDecl → Nat → Int → Option (Nat × (Int × Int))
  | [], i, v2_1 => (some (1, (v2_1, (i : Int))))
  | x :: k, i, v2_1 => (bif ((x.Name).toList == p2_2.toList) then (some (0, ((i : Int), (i : Int))))
 else (lq_model_place_2 L p2_0 p2_1 p2_2 k (i + 1) v2_1))
theorem lqe_model_place_2  (L : Nat) (p2_0 : List api_ResourceDecl) (p2_1 : api_SiteDecl) (p2_2 : ByteArray) (hl : p2_0.length ≤ maxLen) : ∀ (k : List api_ResourceDecl) (i n : Nat) (v2_1 : Int), p2_0.drop i = k → k.length < n → lp_model_place_2  L p2_0 p2_1 p2_2 n v2_1 (i : Int) = lq_model_place_2 L p2_0 p2_1 p2_2 k i v2_1 := by
  intro k
  induction k with
  | nil =>
    intro i n v2_1 hk hn
    obtain ⟨n, rfl⟩ : ∃ m, n = m + 1 := ⟨n - 1, by simp at hn; omega⟩
    simp only [lp_model_place_2, lb_model_place_2, lq_model_place_2, d_ge (drop_nil hk), anO_bd, anO_fl, anO_cn, anO_gd, anO_fk, anO_sl, anO_lf, anO_jb, anO_jp, anO_ap, anO_nj, cond_false]
  | cons x k ih =>
    intro i n v2_1 hk hn
    obtain ⟨n, rfl⟩ : ∃ m, n = m + 1 := ⟨n - 1, by simp at hn; omega⟩
    obtain ⟨hlt, hx, hk'⟩ := drop_cons hk
    have hih := fun v2_1 => ih (i + 1) n v2_1 hk' (by simpa using hn)
    simp only [lp_model_place_2, lb_model_place_2, lq_model_place_2, d_lt hlt, nn, ltI hlt, toN, hx, w64_succ hlt hl, hih, anO_bd, anO_fl, anO_cn, anO_gd, anO_fk, anO_sl, anO_lf, anO_jb, anO_jp, anO_ap, anO_nj, cond_true, if_true, decide_true, api_Expr.eta, api_Expr.cp_eq, api_Stmt.eta, api_Stmt.cp_eq]
theorem lq0_model_place_2  (L : Nat) (p2_0 : List api_ResourceDecl) (p2_1 : api_SiteDecl) (p2_2 : ByteArray) (n : Nat) (hl : p2_0.length ≤ maxLen) (hn : p2_0.length < n) (v2_1 : Int) : lp_model_place_2  L p2_0 p2_1 p2_2 n v2_1 0 = lq_model_place_2 L p2_0 p2_1 p2_2 p2_0 0 v2_1 := lqe_model_place_2  L p2_0 p2_1 p2_2 hl _ 0 n v2_1 rfl hn
def lq_model_place_3  (L : Nat) (p3_0 : List api_StoreDecl) (p3_1 : api_SiteDecl) (p3_2 : ByteArray) : List api_StoreDecl → Nat → Int → Option (Nat × (Int × Int))
  | [], i, v3_1 => (some (1, (v3_1, (i : Int))))
  | x :: k, i, v3_1 => (bif ((x.Name).toList == p3_2.toList) then (some (0, ((i : Int), (i : Int))))
 else (lq_model_place_3 L p3_0 p3_1 p3_2 k (i + 1) v3_1))
theorem lqe_model_place_3  (L : Nat) (p3_0 : List api_StoreDecl) (p3_1 : api_SiteDecl) (p3_2 : ByteArray) (hl : p3_0.length ≤ maxLen) : ∀ (k : List api_StoreDecl) (i n : Nat) (v3_1 : Int), p3_0.drop i = k → k.length < n → lp_model_place_3  L p3_0 p3_1 p3_2 n v3_1 (i : Int) = lq_model_place_3 L p3_0 p3_1 p3_2 k i v3_1 := by
  intro k
  induction k with
  | nil =>
    intro i n v3_1 hk hn
    obtain ⟨n, rfl⟩ : ∃ m, n = m + 1 := ⟨n - 1, by simp at hn; omega⟩
    simp only [lp_model_place_3, lb_model_place_3, lq_model_place_3, d_ge (drop_nil hk), anO_bd, anO_fl, anO_cn, anO_gd, anO_fk, anO_sl, anO_lf, anO_jb, anO_jp, anO_ap, anO_nj, cond_false]
  | cons x k ih =>
    intro i n v3_1 hk hn
    obtain ⟨n, rfl⟩ : ∃ m, n = m + 1 := ⟨n - 1, by simp at hn; omega⟩
    obtain ⟨hlt, hx, hk'⟩ := drop_cons hk
    have hih := fun v3_1 => ih (i + 1) n v3_1 hk' (by simpa using hn)
    simp only [lp_model_place_3, lb_model_place_3, lq_model_place_3, d_lt hlt, nn, ltI hlt, toN, hx, w64_succ hlt hl, hih, anO_bd, anO_fl, anO_cn, anO_gd, anO_fk, anO_sl, anO_lf, anO_jb, anO_jp, anO_ap, anO_nj, cond_true, if_true, decide_true, api_Expr.eta, api_Expr.cp_eq, api_Stmt.eta, api_Stmt.cp_eq]
theorem lq0_model_place_3  (L : Nat) (p3_0 : List api_StoreDecl) (p3_1 : api_SiteDecl) (p3_2 : ByteArray) (n : Nat) (hl : p3_0.length ≤ maxLen) (hn : p3_0.length < n) (v3_1 : Int) : lp_model_place_3  L p3_0 p3_1 p3_2 n v3_1 0 = lq_model_place_3 L p3_0 p3_1 p3_2 p3_0 0 v3_1 := lqe_model_place_3  L p3_0 p3_1 p3_2 hl _ 0 n v3_1 rfl hn
def lq_model_place_4  (L : Nat) (p4_0 : List api_BeltDecl) (p4_1 : api_SiteDecl) (p4_2 : ByteArray) : List api_BeltDecl → Nat → Int → Option (Nat × (Int × Int))
  | [], i, v4_1 => (some (1, (v4_1, (i : Int))))
  | x :: k, i, v4_1 => (bif ((x.Name).toList == p4_2.toList) then (some (0, ((i : Int), (i : Int))))
 else (lq_model_place_4 L p4_0 p4_1 p4_2 k (i + 1) v4_1))
theorem lqe_model_place_4  (L : Nat) (p4_0 : List api_BeltDecl) (p4_1 : api_SiteDecl) (p4_2 : ByteArray) (hl : p4_0.length ≤ maxLen) : ∀ (k : List api_BeltDecl) (i n : Nat) (v4_1 : Int), p4_0.drop i = k → k.length < n → lp_model_place_4  L p4_0 p4_1 p4_2 n v4_1 (i : Int) = lq_model_place_4 L p4_0 p4_1 p4_2 k i v4_1 := by
  intro k
  induction k with
  | nil =>
    intro i n v4_1 hk hn
    obtain ⟨n, rfl⟩ : ∃ m, n = m + 1 := ⟨n - 1, by simp at hn; omega⟩
    simp only [lp_model_place_4, lb_model_place_4, lq_model_place_4, d_ge (drop_nil hk), anO_bd, anO_fl, anO_cn, anO_gd, anO_fk, anO_sl, anO_lf, anO_jb, anO_jp, anO_ap, anO_nj, cond_false]
  | cons x k ih =>
    intro i n v4_1 hk hn
    obtain ⟨n, rfl⟩ : ∃ m, n = m + 1 := ⟨n - 1, by simp at hn; omega⟩
    obtain ⟨hlt, hx, hk'⟩ := drop_cons hk
    have hih := fun v4_1 => ih (i + 1) n v4_1 hk' (by simpa using hn)
    simp only [lp_model_place_4, lb_model_place_4, lq_model_place_4, d_lt hlt, nn, ltI hlt, toN, hx, w64_succ hlt hl, hih, anO_bd, anO_fl, anO_cn, anO_gd, anO_fk, anO_sl, anO_lf, anO_jb, anO_jp, anO_ap, anO_nj, cond_true, if_true, decide_true, api_Expr.eta, api_Expr.cp_eq, api_Stmt.eta, api_Stmt.cp_eq]
theorem lq0_model_place_4  (L : Nat) (p4_0 : List api_BeltDecl) (p4_1 : api_SiteDecl) (p4_2 : ByteArray) (n : Nat) (hl : p4_0.length ≤ maxLen) (hn : p4_0.length < n) (v4_1 : Int) : lp_model_place_4  L p4_0 p4_1 p4_2 n v4_1 0 = lq_model_place_4 L p4_0 p4_1 p4_2 p4_0 0 v4_1 := lqe_model_place_4  L p4_0 p4_1 p4_2 hl _ 0 n v4_1 rfl hn
end Go.Proofs.YtonfmpiikdmndaaGreat.Ev
