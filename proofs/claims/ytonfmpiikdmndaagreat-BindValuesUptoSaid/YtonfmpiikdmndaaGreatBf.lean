/-  Chapter 15, plainly: values of expressions. -/
import Derived.Test.YtonfmpiikdmndaaGreatQ5
import Derived.Test.YtonfmpiikdmndaaGreatBd
namespace Go.Proofs.YtonfmpiikdmndaaGreat.Ev
open Go
set_option maxRecDepth 100000
set_option linter.unusedVariables false
set_option linter.unusedSimpArgs false
set_option linter.unnecessarySimpa false
theorem ok_expr_CheckCode {e : api_Expr} (h : Ok_api_Expr e) (L : Nat) (hL : maxLen + dE e < L) : F_expr_CheckCode L e = some (checkE true e) := by
  simp only [T_expr_CheckCode, F_expr_CheckCode, anO_bd, anO_fl, anO_cn, anO_gd, anO_fk, anO_sl, anO_lf, anO_jb, anO_jp, anO_ap, anO_nj, api_Expr.cp_eq, ok_expr_kind_check h _ L hL, Option.bind_some]
theorem ok_R09_CheckCode {e : api_Expr} (h : Ok_api_Expr e) (L : Nat) (hL : maxLen + dE e < L) : F_R09_CheckCode L e = some (checkE true e) := by
  simp only [T_R09_CheckCode, F_R09_CheckCode, anO_bd, anO_fl, anO_cn, anO_gd, anO_fk, anO_sl, anO_lf, anO_jb, anO_jp, anO_ap, anO_nj, api_Expr.cp_eq, ok_R09_check h _ L hL, Option.bind_some]
theorem ok_eval_element (L : Nat) (i : Int) : F_eval_element L [] i = some 0 := by
  simp only [T_eval_element, F_eval_element, anO_bd, anO_fl, anO_cn, anO_gd, anO_fk, anO_sl, anO_lf, anO_jb, anO_jp, anO_ap, anO_nj, bor_c, List.length_nil]
  by_cases h : i < 0
  · simp [h]
  · have : i ≥ 0 := by omega
    simp [h, this]
def vw (now : Int) : api_View := ⟨now, [], [], [], [], []⟩
theorem ok_eval_leaf (L : Nat) (now : Int) (e : api_Expr) : F_eval_leaf L (vw now) e = some (leafV e.Op e.N now) := by
  simp only [T_eval_leaf, F_eval_leaf, anO_bd, anO_fl, anO_cn, anO_gd, anO_fk, anO_sl, anO_lf, anO_jb, anO_jp, anO_ap, anO_nj, vw, ok_eval_element, Option.bind_some, leafV, cond_ss]
  congr 1
  generalize e.Op = op
  by_cases h1 : op = 1
  · subst h1; rfl
  by_cases h2 : op = 2
  · subst h2; rfl
  by_cases h4 : op = 4
  · subst h4; rfl
  simp [h1, h2, h4, beq_false_of_ne h1, beq_false_of_ne h2, beq_false_of_ne h4]
theorem ok_eval_value (now : Int) {e : api_Expr} (h : Ok_api_Expr e) : ∀ L, dE e < L → chkE true e = 0 → F_eval_value L (vw now) e = some (valE now e) := by
  induction h with
  | mk a0 a1 a2 a3 h0 h1 h2 h3 h4 ih =>
    intro L hL hc
    obtain ⟨L, rfl⟩ : ∃ k, L = k + 1 := ⟨L - 1, by omega⟩
    rw [dE] at hL
    obtain ⟨hnode, hk⟩ := chk_node hc
    have hr : ∀ x ∈ a3, F_eval_value L (vw now) x = some (valE now x) := fun x hx => ih x hx L (by have := dEs_mem hx; omega) (chkL_mem hk x hx)
    have ha : (a3.length : Int) = arity a0 := by
      have := hnode
      unfold nodeE at this
      split at this
      · cases this
      · rename_i hb
        have hb : badForm true (.mk a0 a1 a2 a3) = false := by simpa using hb
        have hb2 : (!knownOp true a0 || decide ((a3.length : Int) ≠ arity a0) || (!decide (a1 = ⟨#[]⟩) && !namedOp true a0)) = false := hb
        by_cases hd : (a3.length : Int) = arity a0
        · exact hd
        · rw [decide_eq_true hd, Bool.or_true, Bool.true_or] at hb2; cases hb2
    have ha2 := arity_le a0
    rcases two_l (show a3.length ≤ 2 by omega) with rfl | ⟨x, rfl⟩ | ⟨x, y, rfl⟩
    · simp only [T_eval_value, B_eval_value, F_eval_value, anO_bd, anO_fl, anO_cn, anO_gd, anO_fk, anO_sl, anO_lf, anO_jb, anO_jp, anO_ap, anO_nj, api_Expr.cp_eq, api_Expr.Op, api_Expr.Name, api_Expr.N, api_Expr.Kids, api_Expr.eta, ok_eval_leaf, valE, valL, opV, Option.bind_some]
      rfl
    · simp only [T_eval_value, B_eval_value, F_eval_value, anO_bd, anO_fl, anO_cn, anO_gd, anO_fk, anO_sl, anO_lf, anO_jb, anO_jp, anO_ap, anO_nj, api_Expr.cp_eq, api_Expr.Op, api_Expr.Name, api_Expr.N, api_Expr.Kids, api_Expr.eta, valE, valL, opV]
      simp [hr x (by simp), ok_eval_Unary]
    · simp only [T_eval_value, B_eval_value, F_eval_value, anO_bd, anO_fl, anO_cn, anO_gd, anO_fk, anO_sl, anO_lf, anO_jb, anO_jp, anO_ap, anO_nj, api_Expr.cp_eq, api_Expr.Op, api_Expr.Name, api_Expr.N, api_Expr.Kids, api_Expr.eta, valE, valL, opV]
      simp [hr x (by simp), hr y (by simp), ok_eval_Binary]
theorem ok_eval_Expr (now : Int) {e : api_Expr} (h : Ok_api_Expr e) (L : Nat) (hL : maxLen + dE e < L) : F_eval_Expr L (vw now) e = some (if checkE true e = 0 then valE now e else 0) := by
  simp only [T_eval_Expr, F_eval_Expr, anO_bd, anO_fl, anO_cn, anO_gd, anO_fk, anO_sl, anO_lf, anO_jb, anO_jp, anO_ap, anO_nj, api_Expr.cp_eq, ok_expr_CheckCode h L hL, Option.bind_some]
  by_cases hc : checkE true e = 0
  · have h3 : chkE true e = 0 := by
      unfold checkE at hc
      split at hc
      · cases hc
      · split at hc
        · cases hc
        · exact hc
    simp [hc, ok_eval_value now h L (by omega) h3]
  · simp [hc, ne0 hc]
end Go.Proofs.YtonfmpiikdmndaaGreat.Ev
