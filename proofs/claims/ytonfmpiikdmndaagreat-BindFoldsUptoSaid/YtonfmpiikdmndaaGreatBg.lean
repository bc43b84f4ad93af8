/-  Chapter 16, plainly: Fold in the reference. -/
import Derived.Test.YtonfmpiikdmndaaGreatQ3
import Derived.Test.YtonfmpiikdmndaaGreatBd
namespace Go.Proofs.YtonfmpiikdmndaaGreat.Ev
open Go
set_option maxRecDepth 100000
set_option linter.unusedVariables false
set_option linter.unusedSimpArgs false
set_option linter.unnecessarySimpa false
theorem ok_R16_constant_some (L : Nat) {e : api_Expr} {t x : Int} (h : cvO e = some (t, x)) : F_R16_constant L e = some (t, x, true) := by
  rcases cv_cases h with ⟨nm, k, rfl, rfl⟩ | ⟨nm, k, rfl, rfl⟩ | ⟨nm, n, nm', k, rfl, rfl⟩ <;> rfl
theorem ok_R16_constant_none (L : Nat) {e : api_Expr} (h : cvO e = none) (hk : e.Op = 7 → e.Kids.length = 1) : ∃ t x, F_R16_constant L e = some (t, x, false) := by
  obtain ⟨op, nm, n, k⟩ := e
  rw [cvO_mk] at h
  by_cases h1 : op = 1
  · rw [if_pos h1] at h; cases h
  by_cases h2 : op = 2
  · rw [if_neg h1, if_pos h2] at h; cases h
  by_cases h7 : op = 7
  · have hl : k.length = 1 := hk h7
    match k, hl with
    | [⟨yop, ynm, yn, yk⟩], _ =>
      rw [if_neg h1, if_neg h2, if_pos h7] at h
      have h : (if yop = 1 then some ((3 : Int), yn) else none) = none := h
      by_cases hy : yop = 1
      · rw [if_pos hy] at h; cases h
      · subst h7
        exact ⟨3, yn, by simp [T_R16_constant, F_R16_constant, anO_bd, anO_fl, anO_cn, anO_gd, anO_fk, anO_sl, anO_lf, anO_jb, anO_jp, anO_ap, anO_nj, api_Expr.cp_eq, api_Expr.Op, api_Expr.Name, api_Expr.N, api_Expr.Kids, api_Expr.eta, hy, beq_false_of_ne hy]⟩
  · exact ⟨0, 0, by simp [T_R16_constant, F_R16_constant, anO_bd, anO_fl, anO_cn, anO_gd, anO_fk, anO_sl, anO_lf, anO_jb, anO_jp, anO_ap, anO_nj, api_Expr.cp_eq, api_Expr.Op, api_Expr.Name, api_Expr.N, api_Expr.Kids, api_Expr.eta, h1, h2, h7, beq_false_of_ne h1, beq_false_of_ne h2, beq_false_of_ne h7]⟩
theorem ok_R16_single (L : Nat) {op t : Int} (ht : t = 1 ∨ t = 2 ∨ t = 3) (h7 : op ≠ 7) : ∃ w, F_R16_single L op t = some (w, decide (unT op t ≠ 0)) ∧ (unT op t ≠ 0 → w = unT op t) := by
  by_cases h5 : op = 5
  · subst h5; rcases ht with rfl | rfl | rfl <;> exact ⟨_, rfl, by decide⟩
  by_cases h6 : op = 6
  · subst h6; rcases ht with rfl | rfl | rfl <;> exact ⟨_, rfl, by decide⟩
  by_cases h8 : op = 8
  · subst h8; rcases ht with rfl | rfl | rfl <;> exact ⟨_, rfl, by decide⟩
  have hu : unT op t = 0 := by unfold unT; simp [h5, h6, h7, h8]
  refine ⟨0, ?_, fun h => absurd hu h⟩
  simp [T_R16_single, F_R16_single, anO_bd, anO_fl, anO_cn, anO_gd, anO_fk, anO_sl, anO_lf, anO_jb, anO_jp, anO_ap, anO_nj, hu, beq_false_of_ne h5, beq_false_of_ne h6, beq_false_of_ne h8]
theorem ok_R16_double (L : Nat) {op t u : Int} (ht : t = 1 ∨ t = 2 ∨ t = 3) (hu : u = 1 ∨ u = 2 ∨ u = 3) (ho : 9 ≤ op ∧ op ≤ 21) : ∃ w, F_R16_double L op t u = some (w, decide (binT op t u ≠ 0)) ∧ (binT op t u ≠ 0 → w = binT op t u) := by
  have h : op = 9 ∨ op = 10 ∨ op = 11 ∨ op = 12 ∨ op = 13 ∨ op = 14 ∨ op = 15 ∨ op = 16 ∨ op = 17 ∨ op = 18 ∨ op = 19 ∨ op = 20 ∨ op = 21 := by omega
  rcases h with rfl | rfl | rfl | rfl | rfl | rfl | rfl | rfl | rfl | rfl | rfl | rfl | rfl <;> rcases ht with rfl | rfl | rfl <;> rcases hu with rfl | rfl | rfl <;> exact ⟨_, rfl, by decide⟩
theorem ok_R16_constant_any (L : Nat) (e : api_Expr) (hk : e.Op = 7 → e.Kids.length = 1) : ∃ t x b, F_R16_constant L e = some (t, x, b) ∧ (b = true → cvO e = some (t, x)) ∧ (b = false → cvO e = none) := by
  cases h : cvO e with
  | none =>
    obtain ⟨t, x, e⟩ := ok_R16_constant_none L h hk
    exact ⟨t, x, false, e, fun h => (by cases h), fun _ => rfl⟩
  | some p => exact ⟨p.1, p.2, true, ok_R16_constant_some L h, fun _ => rfl, fun h => (by cases h)⟩
theorem ok_R09_Const (L : Nat) (t n : Int) (hL : 2 ≤ L) : F_R09_Const L t n = some (cstE t n) := by
  obtain ⟨L, rfl⟩ : ∃ k, L = k + 2 := ⟨L - 2, by omega⟩
  unfold cstE eS
  by_cases h1 : t = 1
  · subst h1; rfl
  by_cases h2 : t = 2
  · subst h2
    by_cases hn : n = 0
    · subst hn; rfl
    · simp [T_R09_Const, B_R09_Const, F_R09_Const, anO_bd, anO_fl, anO_cn, anO_gd, anO_fk, anO_sl, anO_lf, anO_jb, anO_jp, anO_ap, anO_nj, hn, ne0 hn]
  by_cases h3 : t = 3
  · subst h3; rfl
  simp [T_R09_Const, B_R09_Const, F_R09_Const, anO_bd, anO_fl, anO_cn, anO_gd, anO_fk, anO_sl, anO_lf, anO_jb, anO_jp, anO_ap, anO_nj, h1, h2, h3, beq_false_of_ne h1, beq_false_of_ne h2, beq_false_of_ne h3]
theorem kid7 {k : List api_Expr} (h : chkL false k = 0) : ∀ x ∈ k, x.Op = 7 → x.Kids.length = 1 := by
  intro x hx h7
  have hc := chkL_mem h x hx
  obtain ⟨op, nm, n, kk⟩ := x
  have := (node_len (chk_node hc).1).1
  have h7 : op = 7 := h7
  subst h7
  have e : arity 7 = 1 := by decide
  rw [e] at this
  show kk.length = 1
  omega
theorem ok_R16_node (L : Nat) {op n : Int} {nm : ByteArray} {k : List api_Expr} (hL : 2 ≤ L) (ha : (k.length : Int) = arity op) (hk : chkL false k = 0) : F_R16_node L (.mk op nm n k) = some (nodeF op nm n k) := by
  have h7k := kid7 hk
  have ha2 := arity_le op
  have ha9 : arity op = 2 → 9 ≤ op ∧ op ≤ 21 := by unfold arity; grind
  by_cases h7 : op = 7
  · simp [T_R16_node, F_R16_node, anO_bd, anO_fl, anO_cn, anO_gd, anO_fk, anO_sl, anO_lf, anO_jb, anO_jp, anO_ap, anO_nj, api_Expr.cp_eq, api_Expr.Op, api_Expr.Name, api_Expr.N, api_Expr.Kids, api_Expr.eta, h7, nodeF]
  rcases two_l (show k.length ≤ 2 by omega) with rfl | ⟨x, rfl⟩ | ⟨x, y, rfl⟩
  · simp [T_R16_node, F_R16_node, anO_bd, anO_fl, anO_cn, anO_gd, anO_fk, anO_sl, anO_lf, anO_jb, anO_jp, anO_ap, anO_nj, api_Expr.cp_eq, api_Expr.Op, api_Expr.Name, api_Expr.N, api_Expr.Kids, api_Expr.eta, h7, beq_false_of_ne h7, nodeF]
  · obtain ⟨t, z, b, e1, e2, e3⟩ := ok_R16_constant_any L x (h7k x (by simp))
    simp only [T_R16_node, F_R16_node, anO_bd, anO_fl, anO_cn, anO_gd, anO_fk, anO_sl, anO_lf, anO_jb, anO_jp, anO_ap, anO_nj, api_Expr.cp_eq, api_Expr.Op, api_Expr.Name, api_Expr.N, api_Expr.Kids, api_Expr.eta, nodeF]
    cases b with
    | false => simp [h7, beq_false_of_ne h7, e1, e3 rfl]
    | true =>
      have hv := cv_ok (e2 rfl) (chkL_mem hk x (by simp))
      obtain ⟨w, f1, f2⟩ := ok_R16_single L hv.1 h7
      by_cases hu : unT op t = 0
      · simp [h7, beq_false_of_ne h7, e1, e2 rfl, f1, hu]
      · have := f2 hu; subst this
        simp [h7, beq_false_of_ne h7, e1, e2 rfl, f1, hu, ok_R15_Unary, ok_R09_Const L _ _ hL]
  · obtain ⟨t, z, b, e1, e2, e3⟩ := ok_R16_constant_any L x (h7k x (by simp))
    obtain ⟨u, z', b', e1', e2', e3'⟩ := ok_R16_constant_any L y (h7k y (by simp))
    simp only [T_R16_node, F_R16_node, anO_bd, anO_fl, anO_cn, anO_gd, anO_fk, anO_sl, anO_lf, anO_jb, anO_jp, anO_ap, anO_nj, api_Expr.cp_eq, api_Expr.Op, api_Expr.Name, api_Expr.N, api_Expr.Kids, api_Expr.eta, nodeF]
    have ho := ha9 (by rw [← ha]; rfl)
    cases b with
    | false => simp [h7, beq_false_of_ne h7, e1, e3 rfl]
    | true =>
      have hv := cv_ok (e2 rfl) (chkL_mem hk x (by simp))
      cases b' with
      | false =>
        obtain ⟨w, hw⟩ : ∃ w, F_R16_double L op t u = some w := Option.isSome_iff_exists.1 (by
          simp only [tx_R16_double_4, sx_R16_double_3, tx_R16_double_3, sx_R16_double_2, tx_R16_double_2, sx_R16_double_1, tx_R16_double_1, sx_R16_double_0, T_R16_double, F_R16_double, anO_bd, anO_fl, anO_cn, anO_gd, anO_fk, anO_sl, anO_lf, anO_jb, anO_jp, anO_ap, anO_nj, cond_ss]
          rfl)
        simp [h7, beq_false_of_ne h7, e1, e2 rfl, e1', e3' rfl, hw]
      | true =>
        have hv' := cv_ok (e2' rfl) (chkL_mem hk y (by simp))
        obtain ⟨w, f1, f2⟩ := ok_R16_double L hv.1 hv'.1 ho
        by_cases hu : binT op t u = 0
        · simp [h7, beq_false_of_ne h7, e1, e2 rfl, e1', e2' rfl, f1, hu]
        · have := f2 hu; subst this
          simp [h7, beq_false_of_ne h7, e1, e2 rfl, e1', e2' rfl, f1, hu, ok_R15_Binary, ok_R09_Const L _ _ hL]
theorem ok_R16_fold {e : api_Expr} (h : Ok_api_Expr e) : ∀ L, maxLen + dE e < L → chkE false e = 0 → F_R16_fold L e = some (foldE e) := by
  induction h with
  | mk a0 a1 a2 a3 h0 h1 h2 h3 h4 ih =>
    intro L hL hc
    obtain ⟨L, rfl⟩ : ∃ k, L = k + 1 := ⟨L - 1, by omega⟩
    rw [dE] at hL
    obtain ⟨hnode, hk⟩ := chk_node hc
    have hM := maxLen_eq
    have hr : ∀ x ∈ a3, F_R16_fold L x = some (foldE x) := fun x hx => ih x hx L (by have := dEs_mem hx; omega) (chkL_mem hk x hx)
    obtain ⟨ha, hop1, hop2⟩ := node_len hnode
    have ha2 := arity_le a0
    have h5 : a3.length ≤ 2 := by omega
    have hnd := ok_R16_node L (op := a0) (nm := a1) (n := a2) (k := foldL a3) (by omega) (by rw [foldL_len]; exact ha) (chkL_fold false a3 hk)
    have hlq := lq0_R16_fold_1 (F_R16_fold L) L (.mk a0 a1 a2 a3) L h3 (show a3.length < L by omega)
    simp only [api_Expr.cp_eq, api_Expr.Op, api_Expr.Name, api_Expr.N, api_Expr.Kids, api_Expr.eta] at hlq
    rcases two_l h5 with rfl | ⟨x, rfl⟩ | ⟨x, y, rfl⟩
    · simp only [foldL] at hnd
      simp only [T_R16_fold, B_R16_fold, F_R16_fold, anO_bd, anO_fl, anO_cn, anO_gd, anO_fk, anO_sl, anO_lf, anO_jb, anO_jp, anO_ap, anO_nj, api_Expr.cp_eq, api_Expr.Op, api_Expr.Name, api_Expr.N, api_Expr.Kids, api_Expr.eta, hlq, lq_R16_fold_1, Option.bind_some, foldE, foldL, sel0, hnd]
    · have hx := hr x (by simp)
      simp only [foldL] at hnd
      simp only [T_R16_fold, B_R16_fold, F_R16_fold, anO_bd, anO_fl, anO_cn, anO_gd, anO_fk, anO_sl, anO_lf, anO_jb, anO_jp, anO_ap, anO_nj, api_Expr.cp_eq, api_Expr.Op, api_Expr.Name, api_Expr.N, api_Expr.Kids, api_Expr.eta, hlq, lq_R16_fold_1, hx, Option.bind_some, foldE, foldL]
      simp [maxLen_eq, sel0, hnd, api_Expr.cp_eq, api_Expr.Op, api_Expr.Name, api_Expr.N, api_Expr.Kids, api_Expr.eta]
    · have hx := hr x (by simp)
      have hy := hr y (by simp)
      simp only [foldL] at hnd
      simp only [T_R16_fold, B_R16_fold, F_R16_fold, anO_bd, anO_fl, anO_cn, anO_gd, anO_fk, anO_sl, anO_lf, anO_jb, anO_jp, anO_ap, anO_nj, api_Expr.cp_eq, api_Expr.Op, api_Expr.Name, api_Expr.N, api_Expr.Kids, api_Expr.eta, hlq, lq_R16_fold_1, hx, hy, Option.bind_some, foldE, foldL]
      simp [maxLen_eq, sel0, hnd, api_Expr.cp_eq, api_Expr.Op, api_Expr.Name, api_Expr.N, api_Expr.Kids, api_Expr.eta]
theorem ok_R16_Fold {e : api_Expr} (h : Ok_api_Expr e) (hb : bk_api_Expr e ≤ 1048576) (L : Nat) (hL : maxLen + dE e < L) : F_R16_Fold L e = some (foldT e) := by
  simp only [T_R16_Fold, F_R16_Fold, anO_bd, anO_fl, anO_cn, anO_gd, anO_fk, anO_sl, anO_lf, anO_jb, anO_jp, anO_ap, anO_nj, api_Expr.cp_eq, ok_R09_Check h L (by omega), Option.bind_some, foldT]
  by_cases hc : checkE false e = 0
  · obtain ⟨h1, h2, h3⟩ := check_parts hb hc
    have h4 := fold_size e
    simp only [hc, ok_R16_fold h L hL h3, ok_R09_Check (ok_fold e h h3) L (by omega), check_fold hb hc, Option.bind_some]
    rfl
  · simp [hc, ne0 hc]
theorem ok_bind_Fold2 {e : api_Expr} (h : Ok_api_Expr e) (h1 : nE e ≤ 60) (h2 : dE e ≤ 12) (h3 : chkE false e = 0) (L : Nat) (hL : 2 * maxLen + dE e < L) : F_bind_Fold L e = some (foldE e) := by
  have h4 := fold_size e
  have hc : checkE false e = 0 := checkE_of h1 h2 h3
  have hf : checkE false (foldE e) = 0 := checkE_of (by omega) (by omega) (chk_fold false e h3)
  simp only [T_bind_Fold, F_bind_Fold, anO_bd, anO_fl, anO_cn, anO_gd, anO_fk, anO_sl, anO_lf, anO_jb, anO_jp, anO_ap, anO_nj, api_Expr.cp_eq, ok_expr_Check h L (by omega), Option.bind_some, hc, ok_bind_fold h L hL h3 h1 h2, ok_expr_Check (ok_fold e h h3) L (by omega), hf]
  rfl
theorem q_R09_SameAll_1 (rec9 : api_Expr → api_Expr → Option Bool) (rec25 : (List api_Expr) → (List api_Expr) → Option Bool) (L : Nat) (l : List api_Expr) (hl : ∀ x ∈ l, rec9 x x = some true) : ∀ (k : List api_Expr) (i : Nat) (v : Bool), l.drop i = k → ∃ j, lq_R09_SameAll_1 rec9 rec25 L l l k i v = some (1, (v, j)) := by
  intro k
  induction k with
  | nil => intro i v _; exact ⟨i, rfl⟩
  | cons x k ih =>
    intro i v h
    obtain ⟨h1, h2, h3⟩ := drop_cons h
    obtain ⟨j, hj⟩ := ih (i + 1) v h3
    have hx : x ∈ l := List.mem_of_mem_drop (by rw [h]; simp)
    refine ⟨j, ?_⟩
    rw [lq_R09_SameAll_1, if_pos (by omega), toN, h2, hl x hx]
    exact hj
theorem ok_R09_Same {e : api_Expr} (h : Ok_api_Expr e) : ∀ L, maxLen + 2 * dE e < L → F_R09_Same L e e = some true := by
  induction h with
  | mk a0 a1 a2 a3 h0 h1 h2 h3 h4 ih =>
    intro L hL
    have hM := maxLen_eq
    obtain ⟨L, rfl⟩ : ∃ k, L = k + 2 := ⟨L - 2, by omega⟩
    rw [dE] at hL
    have hr : ∀ x ∈ a3, F_R09_Same L x x = some true := fun x hx => ih x hx L (by have := dEs_mem hx; omega)
    obtain ⟨j, hj⟩ := q_R09_SameAll_1 (F_R09_Same L) (F_R09_SameAll L) L a3 hr a3 0 false rfl
    have hA : F_R09_SameAll (L + 1) a3 a3 = some true := by
      show B_R09_SameAll (F_R09_Same L) (F_R09_SameAll L) L a3 a3 = some true
      simp only [B_R09_SameAll, T_R09_SameAll, anO_bd, anO_fl, anO_cn, anO_gd, anO_fk, anO_sl, anO_lf, anO_jb, anO_jp, anO_ap, anO_nj, lq0_R09_SameAll_1 (F_R09_Same L) (F_R09_SameAll L) L a3 a3 L h3 (by omega), hj, Option.bind_some, sel1]
      simp
    show B_R09_Same (F_R09_Same (L + 1)) (F_R09_SameAll (L + 1)) (L + 1) (.mk a0 a1 a2 a3) (.mk a0 a1 a2 a3) = some true
    simp only [B_R09_Same, T_R09_Same, anO_bd, anO_fl, anO_cn, anO_gd, anO_fk, anO_sl, anO_lf, anO_jb, anO_jp, anO_ap, anO_nj, api_Expr.cp_eq, api_Expr.Op, api_Expr.Name, api_Expr.N, api_Expr.Kids, api_Expr.eta, hA, Option.bind_some]
    simp
end Go.Proofs.YtonfmpiikdmndaaGreat.Ev
