/-  Chapter 16, plainly: Fold in the program. -/
import Derived.Test.YtonfmpiikdmndaaGreatQ2
import Derived.Test.YtonfmpiikdmndaaGreatBc
import Derived.Test.YtonfmpiikdmndaaGreatBb
namespace Go.Proofs.YtonfmpiikdmndaaGreat.Ev
open Go
set_option maxRecDepth 100000
set_option linter.unusedVariables false
set_option linter.unusedSimpArgs false
set_option linter.unnecessarySimpa false
theorem okI_of {n : Int} (h1 : -9223372036854775808 ≤ n) (h2 : n ≤ 9223372036854775807) : okI .i64 n := by
  unfold okI Lit.wf
  simp only [Bool.and_eq_true, decide_eq_true_eq]
  have e1 : IntKind.i64.min = -9223372036854775808 := by decide +kernel
  have e2 : IntKind.i64.max = 9223372036854775807 := by decide +kernel
  rw [e1, e2]
  exact ⟨h1, h2⟩
theorem okS_e : okS eS := Nat.zero_le _
theorem ok_cst {t n : Int} (h : t = 1 ∨ t = 2 ∨ t = 3) (hn : inZ n = true) : Ok_api_Expr (cstE t n) := by
  have hz := (inZ_iff n).1 hn
  have h1 : Ok_api_Expr (.mk 1 eS n []) := .mk _ _ _ _ (okI_of (by decide) (by decide)) okS_e (okI_of (by omega) (by omega)) (Nat.zero_le _) (fun y hy => by cases hy)
  rcases h with rfl | rfl | rfl
  · exact h1
  · show Ok_api_Expr (.mk 2 eS (if n = 0 then 0 else 1) [])
    exact .mk _ _ _ _ (okI_of (by decide) (by decide)) okS_e (by split <;> exact okI_of (by decide) (by decide)) (Nat.zero_le _) (fun y hy => by cases hy)
  · exact .mk _ _ _ _ (okI_of (by decide) (by decide)) okS_e (okI_of (by decide) (by decide)) (by show 1 ≤ maxLen; rw [maxLen_eq]; decide) (fun y hy => by
      rw [List.mem_singleton.1 hy]; exact h1)
mutual
theorem ok_fold : ∀ e : api_Expr, Ok_api_Expr e → chkE false e = 0 → Ok_api_Expr (foldE e)
  | .mk op nm n k, h, hc => by
    obtain ⟨h0, h1, h2, h3, h4⟩ : okI .i64 op ∧ okS nm ∧ okI .i64 n ∧ k.length ≤ maxLen ∧ ∀ y ∈ k, Ok_api_Expr y := by
      cases h with | mk a0 a1 a2 a3 h0 h1 h2 h3 h4 => exact ⟨h0, h1, h2, h3, h4⟩
    have hk := okL_fold k h4 (chk_node hc).2
    have h5 := chkL_fold false k (chk_node hc).2
    rw [foldE]
    rcases nodeF_or op nm n (foldL k) with h | ⟨_, a, t, x, e, e1, h5', h6⟩ | ⟨_, a, b, t, u, x, y, e, e1, e2, h5', h6⟩
    · rw [h]
      exact .mk _ _ _ _ h0 h1 h2 (by rw [foldL_len]; exact h3) hk
    · rw [h6]
      have hx := cv_ok e1 (chkL_mem h5 a (by rw [e]; simp))
      exact ok_cst ((unT_123 op t).resolve_left h5') (unV_in hx.2.1 h5').1
    · rw [h6]
      have hx := cv_ok e1 (chkL_mem h5 a (by rw [e]; simp))
      have hy := cv_ok e2 (chkL_mem h5 b (by rw [e]; simp))
      exact ok_cst ((binT_123 op t u).resolve_left h5') (binV_in hx.2.1 hy.2.1 h5').1
theorem okL_fold : ∀ k : List api_Expr, (∀ y ∈ k, Ok_api_Expr y) → chkL false k = 0 → ∀ y ∈ foldL k, Ok_api_Expr y
  | [], _, _, y, hy => by rw [foldL] at hy; cases hy
  | x :: k, h, hc, y, hy => by
    have hx := chkL_mem hc x (by simp)
    have hk : chkL false k = 0 := by
      rw [chkL, if_neg (by simp [hx])] at hc; exact hc
    rw [foldL] at hy
    rcases List.mem_cons.1 hy with rfl | hy
    · exact ok_fold x (h x (by simp)) hx
    · exact okL_fold k (fun y hy => h y (by simp [hy])) hk y hy
end
/-- what Check says, by sizes -/
theorem checkE_of {c : Bool} {e : api_Expr} (h1 : nE e ≤ 60) (h2 : dE e ≤ 12) (h3 : chkE c e = 0) : checkE c e = 0 := by
  unfold checkE
  rw [nodesE_eq e (by omega), depthE_eq e (by omega), if_neg (by omega), if_neg (by omega), h3]
theorem check_parts {c : Bool} {e : api_Expr} (hb : bk_api_Expr e ≤ 1048576) (h : checkE c e = 0) : nE e ≤ 60 ∧ dE e ≤ 12 ∧ chkE c e = 0 := by
  have h1 := nE_bk e
  have h2 := dE_bk e
  unfold checkE at h
  rw [nodesE_eq e (by omega), depthE_eq e (by omega)] at h
  split at h
  · cases h
  · split at h
    · cases h
    · exact ⟨by omega, by omega, h⟩
theorem check_fold {c : Bool} {e : api_Expr} (hb : bk_api_Expr e ≤ 1048576) (h : checkE c e = 0) : checkE c (foldE e) = 0 := by
  obtain ⟨h1, h2, h3⟩ := check_parts hb h
  have h4 := fold_size e
  exact checkE_of (by omega) (by omega) (chk_fold c e h3)
/-- what Fold says -/
def foldT (e : api_Expr) : api_Expr := if checkE false e = 0 then foldE e else e
theorem two_l {α : Type} {l : List α} (h : l.length ≤ 2) : l = [] ∨ (∃ a, l = [a]) ∨ ∃ a b, l = [a, b] := by
  match l, h with
  | [], _ => exact .inl rfl
  | [a], _ => exact .inr (.inl ⟨a, rfl⟩)
  | [a, b], _ => exact .inr (.inr ⟨a, b, rfl⟩)
theorem ok_bind_value (L : Nat) (e : api_Expr) : F_bind_value L e = some (match cvO e with | some p => (p.2, true) | none => (0, false)) := by
  obtain ⟨op, nm, n, k⟩ := e
  rw [cvO_mk]
  simp only [T_bind_value, F_bind_value, anO_bd, anO_fl, anO_cn, anO_gd, anO_fk, anO_sl, anO_lf, anO_jb, anO_jp, anO_ap, anO_nj, bor_c, band_c, api_Expr.cp_eq, api_Expr.Op, api_Expr.Name, api_Expr.N, api_Expr.Kids, api_Expr.eta]
  by_cases h1 : op = 1
  · subst h1; rfl
  by_cases h2 : op = 2
  · subst h2; rfl
  by_cases h7 : op = 7
  · subst h7
    match k with
    | [] => rfl
    | [x] =>
      obtain ⟨xop, xnm, xn, xk⟩ := x
      by_cases hx : xop = 1
      · subst hx; rfl
      · simp [hx, beq_false_of_ne hx, api_Expr.cp_eq, api_Expr.Op, api_Expr.Name, api_Expr.N, api_Expr.Kids, api_Expr.eta]
    | x :: y :: r =>
      have : (((x :: y :: r).length : Int) == 1) = false := beq_false_of_ne (by simp only [List.length_cons]; omega)
      rw [this]
      rfl
  simp [h1, h2, h7, beq_false_of_ne h1, beq_false_of_ne h2, beq_false_of_ne h7]
theorem ok_expr_Const (L : Nat) (t n : Int) : F_expr_Const L t n = some (cstE t n) := by
  simp only [T_expr_Const, F_expr_Const, anO_bd, anO_fl, anO_cn, anO_gd, anO_fk, anO_sl, anO_lf, anO_jb, anO_jp, anO_ap, anO_nj, cstE, eS]
  by_cases h1 : t = 1
  · subst h1; rfl
  by_cases h2 : t = 2
  · subst h2
    by_cases hn : n = 0
    · subst hn; rfl
    · simp [hn, ne0 hn]
  by_cases h3 : t = 3
  · subst h3; rfl
  simp [h1, h2, h3, beq_false_of_ne h1, beq_false_of_ne h2, beq_false_of_ne h3]
def v0 : api_Env := (⟨[], [], (⟨(⟨#[]⟩ : ByteArray), [], [], [], [], [], [], [], [], [], [], [], []⟩ : api_SiteDecl)⟩ : api_Env)
theorem ok_nil {α : Type} {P : α → Prop} : ([] : List α).length ≤ maxLen ∧ ∀ y ∈ ([] : List α), P y := ⟨Nat.zero_le _, fun _ h => by cases h⟩
theorem ok_v0 : Ok_api_Env v0 := ⟨ok_nil, ok_nil, okS_e, ok_nil, ok_nil, ok_nil, ok_nil, ok_nil, ok_nil, ok_nil, ok_nil, ok_nil, ok_nil, ok_nil, ok_nil⟩
theorem ty_node1 (v : api_Env) {op n t : Int} {nm : ByteArray} {a : api_Expr} (h : tyE v a = (t, 0)) : tyE v (.mk op nm n [a]) = nodeT v op nm [t] := by
  rw [tyE, tyL, h, tyL]; rfl
theorem ty_node2 (v : api_Env) {op n t u : Int} {nm : ByteArray} {a b : api_Expr} (h : tyE v a = (t, 0)) (h' : tyE v b = (u, 0)) : tyE v (.mk op nm n [a, b]) = nodeT v op nm [t, u] := by
  rw [tyE, tyL, h, tyL, h', tyL]; rfl
theorem node_un (v : api_Env) {op t : Int} {nm : ByteArray} (h : arity op = 1) (hz : unT op t = 0) : nodeT v op nm [t] = (0, 10) := by
  have h5 : op ≠ 3 ∧ ¬ 22 ≤ op := by unfold arity at h; grind
  unfold nodeT
  rw [if_neg h5.1, if_neg h5.2]
  show (if unT op t = 0 then _ else _) = _
  rw [if_pos hz]
theorem node_bin (v : api_Env) {op t u : Int} {nm : ByteArray} (h : arity op = 2) (hz : binT op t u = 0) : nodeT v op nm [t, u] = (0, 10) := by
  have h5 : op ≠ 3 ∧ ¬ 22 ≤ op := by unfold arity at h; grind
  unfold nodeT
  rw [if_neg h5.1, if_neg h5.2]
  show (if binT op t u = 0 then _ else _) = _
  rw [if_pos hz]
theorem ok_bind_fold {e : api_Expr} (h : Ok_api_Expr e) : ∀ L, 2 * maxLen + dE e < L → chkE false e = 0 → nE e ≤ 60 → dE e ≤ 12 → F_bind_fold L e = some (foldE e) := by
  induction h with
  | mk a0 a1 a2 a3 h0 h1 h2 h3 h4 ih =>
    intro L hL hc hn hd
    obtain ⟨L, rfl⟩ : ∃ k, L = k + 1 := ⟨L - 1, by omega⟩
    rw [dE] at hL hd
    rw [nE] at hn
    obtain ⟨hnode, hk⟩ := chk_node hc
    have hr : ∀ x ∈ a3, F_bind_fold L x = some (foldE x) := fun x hx => ih x hx L (by have := dEs_mem hx; omega) (chkL_mem hk x hx) (by have := nEs_mem hx; omega) (by have := dEs_mem hx; omega)
    obtain ⟨ha, hop1, hop2⟩ := node_len hnode
    have ha2 := arity_le a0
    have h5 : a3.length ≤ 2 := by omega
    have hM := maxLen_eq
    have hz := foldL_size a3
    have hck := chkL_fold false a3 hk
    have hcn : checkE false (.mk a0 a1 a2 (foldL a3)) = 0 := checkE_of (by rw [nE]; omega) (by rw [dE]; omega) (by rw [chkE, nodeE_len (foldL_len a3), hnode, hck]; rfl)
    have hOK : Ok_api_Expr (.mk a0 a1 a2 (foldL a3)) := .mk _ _ _ _ h0 h1 h2 (by rw [foldL_len]; exact h3) (okL_fold a3 h4 hk)
    have hty := ok_typing_Expr hOK v0 ok_v0 L (by rw [dE]; omega)
    have hex : exprT v0 (.mk a0 a1 a2 (foldL a3)) = tyE v0 (.mk a0 a1 a2 (foldL a3)) := by unfold exprT; rw [hcn]; rfl
    rw [hex] at hty
    have hlq := lq0_bind_fold_1 (F_bind_fold L) L (.mk a0 a1 a2 a3) L h3 (show a3.length < L by omega)
    unfold v0 at hty
    rcases two_l h5 with rfl | ⟨x, rfl⟩ | ⟨x, y, rfl⟩
    · have e : foldE (.mk a0 a1 a2 []) = .mk a0 a1 a2 [] := by
        rw [foldE, foldL]; unfold nodeF; split <;> rfl
      rw [e]; rfl
    · have hx := hr x (by simp)
      have hcx := chkL_mem hck (foldE x) (by simp [foldL])
      have hv0 : tyE v0 (foldE x) = tyE v0 (foldE x) := rfl
      simp only [foldL] at hty
      simp only [api_Expr.cp_eq, api_Expr.Op, api_Expr.Name, api_Expr.N, api_Expr.Kids, api_Expr.eta] at hlq
      simp only [T_bind_fold, B_bind_fold, F_bind_fold, anO_bd, anO_fl, anO_cn, anO_gd, anO_fk, anO_sl, anO_lf, anO_jb, anO_jp, anO_ap, anO_nj, api_Expr.cp_eq, api_Expr.Op, api_Expr.Name, api_Expr.N, api_Expr.Kids, api_Expr.eta, hlq, lq_bind_fold_1, hx, Option.bind_some, ok_bind_value, foldE, foldL, nodeF, List.nil_append]
      cases hv : cvO (foldE x) with
      | none => simp [maxLen_eq, hv, sel0]
      | some p =>
        obtain ⟨t, z⟩ := p
        have ht := ty_node1 v0 (op := a0) (n := a2) (nm := a1) (cv_ty v0 hv hcx)
        unfold v0 at ht
        rw [ht] at hty
        by_cases h7 : a0 = 7
        · simp [maxLen_eq, sel0, h7]
        · by_cases hu : unT a0 t = 0
          · rw [node_un _ (by simpa using ha.symm) hu] at hty
            simp [maxLen_eq, sel0, h7, beq_false_of_ne h7, hty, hu]
          · rw [nodeT_un _ hu] at hty
            simp [maxLen_eq, sel0, h7, beq_false_of_ne h7, hty, hu, ok_eval_Unary, ok_expr_Const]
    · have hx := hr x (by simp)
      have hy := hr y (by simp)
      have hcx := chkL_mem hck (foldE x) (by simp [foldL])
      have hcy := chkL_mem hck (foldE y) (by simp [foldL])
      simp only [foldL] at hty
      simp only [api_Expr.cp_eq, api_Expr.Op, api_Expr.Name, api_Expr.N, api_Expr.Kids, api_Expr.eta] at hlq
      simp only [T_bind_fold, B_bind_fold, F_bind_fold, anO_bd, anO_fl, anO_cn, anO_gd, anO_fk, anO_sl, anO_lf, anO_jb, anO_jp, anO_ap, anO_nj, api_Expr.cp_eq, api_Expr.Op, api_Expr.Name, api_Expr.N, api_Expr.Kids, api_Expr.eta, hlq, lq_bind_fold_1, hx, hy, Option.bind_some, ok_bind_value, foldE, foldL, nodeF, List.nil_append]
      cases hv : cvO (foldE x) with
      | none =>
        cases hw : cvO (foldE y) with
        | none => simp [maxLen_eq, sel0]
        | some p => simp [maxLen_eq, sel0]
      | some p =>
        obtain ⟨t, z⟩ := p
        cases hw : cvO (foldE y) with
        | none => simp [maxLen_eq, sel0]
        | some q =>
          obtain ⟨u, w⟩ := q
          have ht := ty_node2 v0 (op := a0) (n := a2) (nm := a1) (cv_ty v0 hv hcx) (cv_ty v0 hw hcy)
          unfold v0 at ht
          rw [ht] at hty
          by_cases h7 : a0 = 7
          · simp [maxLen_eq, sel0, h7]
          · by_cases hu : binT a0 t u = 0
            · rw [node_bin _ (by simpa using ha.symm) hu] at hty
              simp [maxLen_eq, sel0, h7, beq_false_of_ne h7, hty, hu]
            · rw [nodeT_bin _ hu] at hty
              simp [maxLen_eq, sel0, h7, beq_false_of_ne h7, hty, hu, ok_eval_Binary, ok_expr_Const]
theorem ok_bind_Fold {e : api_Expr} (h : Ok_api_Expr e) (hb : bk_api_Expr e ≤ 1048576) (L : Nat) (hL : 2 * maxLen + dE e < L) : F_bind_Fold L e = some (foldT e) := by
  simp only [T_bind_Fold, F_bind_Fold, anO_bd, anO_fl, anO_cn, anO_gd, anO_fk, anO_sl, anO_lf, anO_jb, anO_jp, anO_ap, anO_nj, api_Expr.cp_eq, ok_expr_Check h L (by omega), Option.bind_some, foldT]
  by_cases hc : checkE false e = 0
  · obtain ⟨h1, h2, h3⟩ := check_parts hb hc
    have h4 := fold_size e
    simp only [hc, ok_bind_fold h L hL h3 h1 h2, ok_expr_Check (ok_fold e h h3) L (by omega), check_fold hb hc, Option.bind_some]
    rfl
  · simp [hc, ne0 hc]
end Go.Proofs.YtonfmpiikdmndaaGreat.Ev
