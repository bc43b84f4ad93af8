/-  Chapter 14, plainly: the types of expressions, in the program and in the reference. -/
import Derived.Test.YtonfmpiikdmndaaGreatR1
import Derived.Test.YtonfmpiikdmndaaGreatPf
namespace Go.Proofs.YtonfmpiikdmndaaGreat.Ev
open Go
set_option maxRecDepth 100000
set_option linter.unusedVariables false
set_option linter.unusedSimpArgs false
set_option linter.unnecessarySimpa false
def leafT (op : Int) : Int := if op = 1 then 1 else if op = 2 then 2 else if op = 4 then 3 else 0
def kidT (op : Int) : List Int → Int
  | [a] => unT op a
  | [a, b] => binT op a b
  | _ => leafT op
/-- the type of a node, by the types of its Kids -/
def nodeT (v : api_Env) (op : Int) (nm : ByteArray) (kids : List Int) : Int × Int :=
  if op = 3 then match findT v nm with
    | some t => (t, 0)
    | none => (0, 5)
  else if 22 ≤ op then if objK op (kindS v.Site nm) = true then (1, 0) else (0, 5)
  else if kidT op kids = 0 then (0, 10) else (kidT op kids, 0)
mutual
def tyE (v : api_Env) : api_Expr → Int × Int
  | .mk op nm _ k => if (tyL v k).2 ≠ 0 then (0, (tyL v k).2) else nodeT v op nm (tyL v k).1
def tyL (v : api_Env) : List api_Expr → List Int × Int
  | [] => ([], 0)
  | x :: k => if (tyE v x).2 ≠ 0 then ([], (tyE v x).2) else if (tyL v k).2 ≠ 0 then ([], (tyL v k).2) else ((tyE v x).1 :: (tyL v k).1, 0)
end
/-- the type of an expression, or its error -/
def exprT (v : api_Env) (e : api_Expr) : Int × Int := if checkE false e ≠ 0 then (0, checkE false e) else tyE v e
theorem tyL_len (v : api_Env) : ∀ k : List api_Expr, (tyL v k).2 = 0 → (tyL v k).1.length = k.length := by
  intro k
  induction k with
  | nil => intro _; rw [tyL]; rfl
  | cons x k ih =>
    rw [tyL]
    intro h
    split at h
    · contradiction
    · split at h
      · contradiction
      · rename_i h1 h2
        have h2 : (tyL v k).2 = 0 := Decidable.not_not.1 h2
        rw [if_neg h1, if_neg (by simp [h2])]
        simp [ih h2]
theorem chk_node {c : Bool} {op : Int} {nm : ByteArray} {n : Int} {k : List api_Expr} (h : chkE c (.mk op nm n k) = 0) : nodeE c (.mk op nm n k) = 0 ∧ chkL c k = 0 := by
  rw [chkE] at h
  split at h
  · contradiction
  · rename_i h1; exact ⟨Decidable.not_not.1 h1, h⟩
theorem chkL_mem {c : Bool} : ∀ {k : List api_Expr}, chkL c k = 0 → ∀ x ∈ k, chkE c x = 0 := by
  intro k
  induction k with
  | nil => intro _ x hx; cases hx
  | cons y k ih =>
    intro h x hx
    rw [chkL] at h
    split at h
    · contradiction
    · rename_i h1
      rcases List.mem_cons.1 hx with rfl | hx
      · exact Decidable.not_not.1 h1
      · exact ih h x hx
theorem node_len {op : Int} {nm : ByteArray} {n : Int} {k : List api_Expr} (h : nodeE false (.mk op nm n k) = 0) : (k.length : Int) = arity op ∧ 1 ≤ op ∧ op ≤ 24 := by
  have h1 : badForm false (.mk op nm n k) = false := by
    cases hb : badForm false (.mk op nm n k) with
    | false => rfl
    | true => unfold nodeE at h; rw [if_pos hb] at h; cases h
  unfold badForm at h1
  simp only [api_Expr.cp_eq, api_Expr.Op, api_Expr.Name, api_Expr.N, api_Expr.Kids, api_Expr.eta, Bool.or_eq_false_iff, decide_eq_false_iff_not, Decidable.not_not, Bool.not_eq_false'] at h1
  obtain ⟨⟨h2, h3⟩, _⟩ := h1
  refine ⟨Decidable.not_not.1 (of_decide_eq_false h3), ?_⟩
  unfold knownOp at h2
  by_cases h3 : op = 3
  · omega
  · rw [if_neg h3] at h2
    by_cases h4 : op = 25 ∨ op = 26
    · rw [if_pos h4] at h2; cases h2
    · rw [if_neg h4] at h2
      have h5 := of_decide_eq_true h2
      unfold arity at h5
      grind
theorem arity_le (op : Int) : arity op ≤ 2 := by unfold arity; grind
theorem q_typing_node_1 (rec27 : api_Env → api_Expr → Option (Int × Int)) (L : Nat) (a1 : api_Expr) (v : api_Env) : ∀ (k : List api_Expr) (i : Nat) (v0 v1 : Int) (acc : List Int), acc.length + k.length ≤ 1099511627776 → (∀ x ∈ k, rec27 v x = some (tyE v x)) →
    ∃ j acc', lq_typing_node_1 rec27 L a1 v k i v0 v1 acc = some (if (tyL v k).2 ≠ 0 then (0, (0, (tyL v k).2, acc', j)) else (1, (v0, v1, acc ++ (tyL v k).1, j))) := by
  intro k
  induction k with
  | nil => intro i v0 v1 acc _ _; exact ⟨i, acc, by rw [lq_typing_node_1, tyL]; simp⟩
  | cons x k ih =>
    intro i v0 v1 acc hlen h
    rw [List.length_cons] at hlen
    obtain ⟨j, acc', hj⟩ := ih (i + 1) v0 v1 (acc ++ [(tyE v x).1]) (by simp only [List.length_append, List.length_cons, List.length_nil]; omega) fun y hy => h y (by simp [hy])
    have hM := maxLen_eq
    rw [lq_typing_node_1, h x (by simp), Option.bind_some, tyL]
    simp only [List.length_cons, List.length_nil]
    by_cases hx : (tyE v x).2 = 0
    · refine ⟨j, acc', ?_⟩
      rw [ifp (show (acc.length + (0 + 1)) * 8 ≤ 140737488355328 by omega), ifp (show acc.length + (0 + 1) ≤ maxLen by omega), hj]
      by_cases hk : (tyL v k).2 = 0 <;> simp [hx, hk]
    · refine ⟨i, acc, ?_⟩
      simp [hx, ne0 hx]
theorem two_lists {l : List Int} (h : l.length ≤ 2) : l = [] ∨ (∃ a, l = [a]) ∨ ∃ a b, l = [a, b] := by
  match l, h with
  | [], _ => exact .inl rfl
  | [a], _ => exact .inr (.inl ⟨a, rfl⟩)
  | [a, b], _ => exact .inr (.inr ⟨a, b, rfl⟩)
theorem ok_typing_node {e : api_Expr} (h : Ok_api_Expr e) (v : api_Env) (hv : Ok_api_Env v) : ∀ L, maxLen + dE e < L → chkE false e = 0 → F_typing_node L v e = some (tyE v e) := by
  induction h with
  | mk a0 a1 a2 a3 h0 h1 h2 h3 h4 ih =>
    intro L hL hc
    obtain ⟨L, rfl⟩ : ∃ k, L = k + 1 := ⟨L - 1, by omega⟩
    rw [dE] at hL
    obtain ⟨hn, hk⟩ := chk_node hc
    have hr : ∀ x ∈ a3, F_typing_node L v x = some (tyE v x) := fun x hx => ih x hx L (by have := dEs_mem hx; omega) (chkL_mem hk x hx)
    obtain ⟨ha, hop1, hop2⟩ := node_len hn
    have ha2 := arity_le a0
    have h5 : a3.length ≤ 2 := by omega
    obtain ⟨j, acc', hj⟩ := q_typing_node_1 (F_typing_node L) L (.mk a0 a1 a2 a3) v a3 0 0 0 [] (by simp; omega) hr
    have hM := maxLen_eq
    simp only [T_typing_node, B_typing_node, F_typing_node, anO_bd, anO_fl, anO_cn, anO_gd, anO_fk, anO_sl, anO_lf, anO_jb, anO_jp, anO_ap, anO_nj, api_Expr.cp_eq, api_Expr.Op, api_Expr.Name, api_Expr.N, api_Expr.Kids, api_Expr.eta, lq0_typing_node_1 _ _ (.mk a0 a1 a2 a3) _ L h3 (show a3.length < L by omega), hj, Option.bind_some, tyE]
    by_cases hz : (tyL v a3).2 = 0
    · have hlen := tyL_len v a3 hz
      simp only [hz, ne_eq, not_true_eq_false, if_false, sel1, List.nil_append, ok_typing_Find L v a1 hv (by omega), ok_model_Kind L _ a1 hv.2.2.len (by omega), ok_typing_object, ok_typing_unary, ok_typing_binary, Option.bind_some, nodeT]
      generalize (tyL v a3).1 = l at hlen ⊢
      by_cases e3 : a0 = 3
      · subst e3; cases findT v a1 <;> rfl
      have b3 : (a0 == 3) = false := beq_false_of_ne e3
      by_cases e22 : a0 ≥ 22
      · simp only [e3, e22, b3, cond_false, if_false, decide_true, cond_true, if_true, ge_iff_le]
        cases objK a0 (kindS v.Site a1) <;> rfl
      simp only [e3, e22, b3, cond_false, if_false, decide_false]
      rcases two_lists (show l.length ≤ 2 by omega) with rfl | ⟨a, rfl⟩ | ⟨a, b, rfl⟩
      · simp only [kidT, leafT, List.length_nil]
        by_cases e1 : a0 = 1
        · subst e1; rfl
        by_cases e2 : a0 = 2
        · subst e2; rfl
        by_cases e4 : a0 = 4
        · subst e4; rfl
        simp [e1, e2, e4, beq_false_of_ne e1, beq_false_of_ne e2, beq_false_of_ne e4]
      · simp only [kidT]
        by_cases hu : unT a0 a = 0 <;> first | (simp [hu]; done) | simp [hu, beq_false_of_ne hu]
      · simp only [kidT]
        by_cases hu : binT a0 a b = 0 <;> first | (simp [hu]; done) | simp [hu, beq_false_of_ne hu]
    · simp [hz, sel0]
theorem ok_typing_Expr {e : api_Expr} (h : Ok_api_Expr e) (v : api_Env) (hv : Ok_api_Env v) (L : Nat) (hL : maxLen + dE e < L) : F_typing_Expr L v e = some (exprT v e) := by
  simp only [T_typing_Expr, F_typing_Expr, anO_bd, anO_fl, anO_cn, anO_gd, anO_fk, anO_sl, anO_lf, anO_jb, anO_jp, anO_ap, anO_nj, api_Expr.cp_eq, ok_expr_Check h L hL, Option.bind_some, exprT]
  by_cases hc : checkE false e = 0
  · have hc' : chkE false e = 0 := by
      unfold checkE at hc
      split at hc
      · cases hc
      · split at hc
        · cases hc
        · exact hc
    simp [hc, ok_typing_node h v hv L hL hc']
  · simp [hc, ne0 hc]
theorem lenS.mono {s : api_SiteDecl} {m n : Nat} (h : lenS s m) (hm : m ≤ n) : lenS s n := by
  obtain ⟨h0, h1, h2, h3, h4, h5, h6, h7, h8, h9⟩ := h
  exact ⟨by omega, by omega, by omega, by omega, by omega, by omega, by omega, by omega, by omega, by omega⟩
end Go.Proofs.YtonfmpiikdmndaaGreat.Ev
