/-  Chapters 9 and 14, plainly: sizes of expressions without overflow; kids of well typed expressions; replacing. -/
import Derived.Test.YtcbandfdmbkokaaGreatQ4
import Derived.Test.YtcbandfdmbkokaaGreatPg
namespace Go.Proofs.YtcbandfdmbkokaaGreat.Ev
open Go
set_option linter.unusedVariables false
set_option linter.unusedSimpArgs false
set_option linter.unnecessarySimpa false

theorem ne0' {a b : Int} (h : ¬ a = b) : (a != b) = true := bne_iff_ne.2 h
mutual
theorem dE_bk : ∀ e : api_Expr, dE e ≤ bk_api_Expr e
  | .mk a b c k => by
    rw [dE, bk_api_Expr]
    have := dEs_bk k
    omega
theorem dEs_bk : ∀ k : List api_Expr, dEs k ≤ bkL_api_Expr k
  | [] => by simp [dEs]
  | x :: k => by
    rw [dEs, bkL_api_Expr]
    have := dE_bk x
    have := dEs_bk k
    omega
end
mutual
/-- the number of nodes -/
def nE : api_Expr → Nat
  | .mk _ _ _ k => nEs k + 1
def nEs : List api_Expr → Nat
  | [] => 0
  | x :: k => nE x + nEs k
end
mutual
theorem nE_bk : ∀ e : api_Expr, nE e ≤ bk_api_Expr e
  | .mk a b c k => by
    rw [nE, bk_api_Expr]
    have := nEs_bk k
    omega
theorem nEs_bk : ∀ k : List api_Expr, nEs k ≤ bkL_api_Expr k
  | [] => by simp [nEs]
  | x :: k => by
    rw [nEs, bkL_api_Expr]
    have := nE_bk x
    have := nEs_bk k
    omega
end
mutual
theorem nodesE_eq : ∀ e : api_Expr, nE e ≤ 1152921504606846976 → nodesE e = (nE e : Int)
  | .mk a b c k, h => by
    rw [nE] at h
    rw [nodesE, nE, nodesL_eq k 1 (by omega) (by omega)]
    omega
theorem nodesL_eq : ∀ (k : List api_Expr) (n : Int), 1 ≤ n → n + nEs k ≤ 1152921504606846977 → nodesL k n = n + (nEs k : Int)
  | [], n, _, _ => by simp [nodesL, nEs]
  | x :: k, n, h0, h => by
    rw [nEs] at h
    rw [nodesL, nodesE_eq x (by omega), w64_id (by omega) (by omega), nodesL_eq k _ (by omega) (by omega), nEs]
    omega
end
mutual
theorem depthE_eq : ∀ e : api_Expr, dE e ≤ 1152921504606846976 → depthE e = (dE e : Int)
  | .mk a b c k, h => by
    rw [dE] at h
    rw [depthE, dE, show depthL k 0 = ((max 0 (dEs k) : Nat) : Int) from depthL_eq k 0 (by omega) (by omega)]
    rw [w64_id (by omega) (by omega)]
    omega
theorem depthL_eq : ∀ (k : List api_Expr) (n : Nat), n ≤ 1152921504606846976 → dEs k ≤ 1152921504606846976 → depthL k (n : Int) = ((max n (dEs k) : Nat) : Int)
  | [], n, _, _ => by simp [depthL, dEs]
  | x :: k, n, h0, h => by
    rw [dEs] at h
    rw [depthL, depthE_eq x (by omega), dEs]
    by_cases hx : (dE x : Int) > (n : Int)
    · rw [if_pos hx, depthL_eq k (dE x) (by omega) (by omega)]
      omega
    · rw [if_neg hx, depthL_eq k n (by omega) (by omega)]
      omega
end
theorem nEs_mem {x : api_Expr} {k : List api_Expr} (h : x ∈ k) : nE x ≤ nEs k := by
  induction k with
  | nil => cases h
  | cons a k ih =>
    rw [nEs]
    rcases List.mem_cons.1 h with rfl | h
    · omega
    · have := ih h; omega
/-- of an accepted expression each part is accepted -/
theorem check_kid {op : Int} {nm : ByteArray} {n : Int} {k : List api_Expr} {c : Bool} (hb : bk_api_Expr (.mk op nm n k) ≤ 1048576) (h : checkE c (.mk op nm n k) = 0) : ∀ x ∈ k, checkE c x = 0 := by
  intro x hx
  have h1 := nE_bk (.mk op nm n k)
  have h2 := dE_bk (.mk op nm n k)
  have h3 := nEs_mem hx
  have h4 := dEs_mem hx
  rw [nE] at h1
  rw [dE] at h2
  unfold checkE at h ⊢
  rw [nodesE_eq _ (by rw [nE]; omega), depthE_eq _ (by rw [dE]; omega)] at h
  rw [nE, dE] at h
  rw [nodesE_eq x (by omega), depthE_eq x (by omega)]
  split at h
  · cases h
  · split at h
    · cases h
    · rw [if_neg (by omega), if_neg (by omega)]
      exact chkL_mem (chk_node h).2 x hx
theorem tyL_mem {v : api_Env} : ∀ {k : List api_Expr}, (tyL v k).2 = 0 → (∀ x ∈ k, (tyE v x).2 = 0) ∧ (tyL v k).1 = k.map fun x => (tyE v x).1 := by
  intro k
  induction k with
  | nil => intro _; exact ⟨fun x hx => (by cases hx), by rw [tyL]; rfl⟩
  | cons y k ih =>
    intro h
    rw [tyL] at h ⊢
    by_cases h1 : (tyE v y).2 = 0
    · by_cases h2 : (tyL v k).2 = 0
      · obtain ⟨i1, i2⟩ := ih h2
        refine ⟨fun x hx => ?_, ?_⟩
        · rcases List.mem_cons.1 hx with rfl | hx
          · exact h1
          · exact i1 x hx
        · simp [h1, h2, i2]
      · simp [h1, h2] at h
    · simp [h1] at h
theorem tyE_ok {v : api_Env} {op : Int} {nm : ByteArray} {n : Int} {k : List api_Expr} (h : (tyE v (.mk op nm n k)).2 = 0) : (tyL v k).2 = 0 ∧ tyE v (.mk op nm n k) = nodeT v op nm (tyL v k).1 := by
  rw [tyE] at h ⊢
  by_cases h1 : (tyL v k).2 = 0
  · simp [h1]
  · simp [h1] at h
theorem exprT_ok {v : api_Env} {e : api_Expr} (h : (exprT v e).2 = 0) : checkE false e = 0 ∧ exprT v e = tyE v e := by
  unfold exprT at h ⊢
  by_cases hc : checkE false e = 0
  · simp [hc]
  · simp [hc] at h
theorem nodeT_err {v : api_Env} {op : Int} {nm : ByteArray} {l : List Int} (h : (nodeT v op nm l).2 ≠ 0) : (nodeT v op nm l).1 = 0 := by
  unfold nodeT at h ⊢
  by_cases h3 : op = 3
  · simp only [h3, if_true] at h ⊢
    cases hf : findT v nm with
    | some t => rw [hf] at h; exact absurd rfl h
    | none => rfl
  · by_cases h22 : 22 ≤ op
    · simp only [h3, h22, if_true, if_false] at h ⊢
      cases hk : objK op (kindS v.Site nm) with
      | true => rw [hk] at h; exact absurd rfl h
      | false => rfl
    · by_cases hz : kidT op l = 0
      · simp [h3, h22, hz]
      · simp [h3, h22, hz] at h
theorem exprT_err {v : api_Env} {e : api_Expr} (h : (exprT v e).2 ≠ 0) : (exprT v e).1 = 0 := by
  unfold exprT at h ⊢
  by_cases hc : checkE false e = 0
  · simp only [hc, ne_eq, not_true_eq_false, if_false] at h ⊢
    cases e with
    | mk op nm n k =>
      rw [tyE] at h ⊢
      by_cases h1 : (tyL v k).2 = 0
      · simp only [h1, ne_eq, not_true_eq_false, if_false] at h ⊢
        exact nodeT_err h
      · simp [h1]
  · simp [hc]
mutual
/-- another expression in place of a name -/
def replE (s : ByteArray) (y : api_Expr) : api_Expr → api_Expr
  | .mk op nm n k => if op = 3 ∧ nm = s then y else .mk op nm n (replL s y k)
def replL (s : ByteArray) (y : api_Expr) : List api_Expr → List api_Expr
  | [] => []
  | x :: k => replE s y x :: replL s y k
end
theorem replL_len (s : ByteArray) (y : api_Expr) (k : List api_Expr) : (replL s y k).length = k.length := by
  induction k with
  | nil => rw [replL]
  | cons x k ih => rw [replL, List.length_cons, ih, List.length_cons]
theorem replL_mem {s : ByteArray} {y : api_Expr} {k : List api_Expr} {z : api_Expr} (h : z ∈ replL s y k) : ∃ x ∈ k, z = replE s y x := by
  induction k with
  | nil => rw [replL] at h; cases h
  | cons x k ih =>
    rw [replL] at h
    rcases List.mem_cons.1 h with rfl | h
    · exact ⟨x, by simp, rfl⟩
    · obtain ⟨w, h1, h2⟩ := ih h; exact ⟨w, by simp [h1], h2⟩
theorem replE_Ok {s : ByteArray} {y : api_Expr} (hy : Ok_api_Expr y) {e : api_Expr} (h : Ok_api_Expr e) : Ok_api_Expr (replE s y e) := by
  induction h with
  | mk a0 a1 a2 a3 h0 h1 h2 h3 h4 ih =>
    rw [replE]
    split
    · exact hy
    · refine .mk _ _ _ _ h0 h1 h2 (by rw [replL_len]; exact h3) ?_
      intro z hz
      obtain ⟨x, h5, rfl⟩ := replL_mem hz
      exact ih x h5
mutual
theorem tyE_repl {v : api_Env} {s : ByteArray} {y : api_Expr} {w : Int} (hf : findT v s = some w) (hy : tyE v y = (w, 0)) : ∀ e : api_Expr, (tyE v e).2 = 0 → tyE v (replE s y e) = tyE v e
  | .mk op nm n k, h => by
    obtain ⟨h1, h2⟩ := tyE_ok h
    rw [replE]
    by_cases hc : op = 3 ∧ nm = s
    · obtain ⟨rfl, rfl⟩ := hc
      rw [if_pos ⟨rfl, rfl⟩, h2, hy]
      simp [nodeT, hf]
    · rw [if_neg hc, tyE, tyE, tyL_repl hf hy k h1]
theorem tyL_repl {v : api_Env} {s : ByteArray} {y : api_Expr} {w : Int} (hf : findT v s = some w) (hy : tyE v y = (w, 0)) : ∀ k : List api_Expr, (tyL v k).2 = 0 → tyL v (replL s y k) = tyL v k
  | [], _ => by rw [replL]
  | x :: k, h => by
    obtain ⟨h1, _⟩ := tyL_mem h
    have hk : (tyL v k).2 = 0 := by
      rw [tyL] at h
      have := h1 x (by simp)
      by_cases h2 : (tyL v k).2 = 0
      · exact h2
      · simp [this, h2] at h
    rw [replL, tyL, tyL, tyE_repl hf hy x (h1 x (by simp)), tyL_repl hf hy k hk]
end
theorem q_expr_Replace_1 (rec22 : api_Expr → ByteArray → api_Expr → Option api_Expr) (L : Nat) (s : ByteArray) (a0 y : api_Expr) : ∀ (k : List api_Expr) (i : Nat) (acc : List api_Expr), acc.length + k.length ≤ 1099511627776 → (∀ x ∈ k, rec22 x s y = some (replE s y x)) →
    ∃ j, lq_expr_Replace_1 rec22 L s a0 y k i acc = some (0, (acc ++ replL s y k, j)) := by
  intro k
  induction k with
  | nil => intro i acc _ _; exact ⟨i, by rw [lq_expr_Replace_1, replL, List.append_nil]⟩
  | cons x k ih =>
    intro i acc hlen h
    rw [List.length_cons] at hlen
    obtain ⟨j, hj⟩ := ih (i + 1) (acc ++ [replE s y x]) (by simp only [List.length_append, List.length_cons, List.length_nil]; omega) fun z hz => h z (by simp [hz])
    have hM := maxLen_eq
    refine ⟨j, ?_⟩
    rw [lq_expr_Replace_1, h x (by simp), Option.bind_some]
    simp only [List.length_cons, List.length_nil]
    rw [ifp (show (acc.length + (0 + 1)) * 56 ≤ 140737488355328 by omega), ifp (show acc.length + (0 + 1) ≤ maxLen by omega), hj, replL, List.append_assoc]
    rfl
theorem bkL_mem {x : api_Expr} {k : List api_Expr} (h : x ∈ k) : bk_api_Expr x ≤ bkL_api_Expr k := by
  rw [bkL_api_Expr_eq]; exact sumL_mem h
theorem bkL_len (k : List api_Expr) : k.length ≤ bkL_api_Expr k := by
  rw [bkL_api_Expr_eq]
  exact sumL_len fun x => by cases x with | mk a b c d => rw [bk_api_Expr]; omega
theorem ok_expr_Replace {e : api_Expr} (h : Ok_api_Expr e) (s : ByteArray) (y : api_Expr) : ∀ L, maxLen + dE e < L → bk_api_Expr e ≤ 1048576 → F_expr_Replace L e s y = some (replE s y e) := by
  induction h with
  | mk a0 a1 a2 a3 h0 h1 h2 h3 h4 ih =>
    intro L hL hb
    obtain ⟨L, rfl⟩ : ∃ k, L = k + 1 := ⟨L - 1, by omega⟩
    rw [dE] at hL
    rw [bk_api_Expr] at hb
    have hr : ∀ x ∈ a3, F_expr_Replace L x s y = some (replE s y x) := fun x hx => ih x hx L (by have := dEs_mem hx; omega) (by have := bkL_mem hx; omega)
    have h5 := bkL_len a3
    obtain ⟨j, hj⟩ := q_expr_Replace_1 (F_expr_Replace L) L s (.mk a0 a1 a2 a3) y a3 0 [] (by simp; omega) hr
    simp only [F_expr_Replace, B_expr_Replace, T_expr_Replace, anO_bd, anO_fl, anO_cn, anO_gd, anO_fk, anO_sl, anO_lf, anO_jb, anO_jp, anO_ap, anO_nj, api_Expr.cp_eq, api_Expr.Op, api_Expr.Name, api_Expr.N, api_Expr.Kids, api_Expr.eta, str_eq, lq0_expr_Replace_1 _ _ _ (.mk a0 a1 a2 a3) _ _ h3 (show a3.length < L by omega), hj, Option.bind_some, sel0, replE, band_c, List.nil_append]
    by_cases hc : a0 = 3 ∧ a1 = s
    · simp [hc]
    · rw [if_neg hc]
      have : (a0 == 3 && decide (a1 = s)) = false := by
        cases hd : (a0 == 3 && decide (a1 = s)) with
        | false => rfl
        | true =>
          simp at hd
          exact absurd hd hc
      rw [this]; rfl
end Go.Proofs.YtcbandfdmbkokaaGreat.Ev
