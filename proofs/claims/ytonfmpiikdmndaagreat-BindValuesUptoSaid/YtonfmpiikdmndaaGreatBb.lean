/-  Chapter 16, plainly: the type and the value of a folded expression. -/
import Derived.Test.YtonfmpiikdmndaaGreatBa
namespace Go.Proofs.YtonfmpiikdmndaaGreat.Ev
open Go
set_option maxRecDepth 100000
set_option linter.unusedVariables false
set_option linter.unusedSimpArgs false
set_option linter.unnecessarySimpa false
theorem ty_cst (v : api_Env) {t : Int} (n : Int) (h : t = 1 ∨ t = 2 ∨ t = 3) : tyE v (cstE t n) = (t, 0) := by
  rcases h with rfl | rfl | rfl
  · show tyE v (.mk 1 eS n []) = _; rfl
  · show tyE v (.mk 2 eS _ []) = _; rfl
  · show tyE v (.mk 7 eS 0 [.mk 1 eS n []]) = _; rfl
theorem kids0 {op : Int} {nm : ByteArray} {n : Int} {k : List api_Expr} (h : chkE false (.mk op nm n k) = 0) (ha : arity op = 0) : k = [] := by
  have := (node_len (chk_node h).1).1
  rw [ha] at this
  exact List.length_eq_zero_iff.1 (by omega)
theorem cv_form {a : api_Expr} {t x : Int} (h : cvO a = some (t, x)) (hc : chkE false a = 0) :
    (∃ nm, a = .mk 1 nm x [] ∧ t = 1) ∨ (∃ nm, a = .mk 2 nm x [] ∧ t = 2) ∨ (∃ nm n nm', a = .mk 7 nm n [.mk 1 nm' x []] ∧ t = 3) := by
  rcases cv_cases h with ⟨nm, k, rfl, rfl⟩ | ⟨nm, k, rfl, rfl⟩ | ⟨nm, n, nm', k, rfl, rfl⟩
  · exact .inl ⟨nm, by rw [kids0 hc (by decide)], rfl⟩
  · exact .inr (.inl ⟨nm, by rw [kids0 hc (by decide)], rfl⟩)
  · have hx := chkL_mem (chk_node hc).2 (.mk 1 nm' x k) (by simp)
    exact .inr (.inr ⟨nm, n, nm', by rw [kids0 hx (by decide)], rfl⟩)
theorem cv_ty (v : api_Env) {a : api_Expr} {t x : Int} (h : cvO a = some (t, x)) (hc : chkE false a = 0) : tyE v a = (t, 0) := by
  rcases cv_form h hc with ⟨nm, rfl, rfl⟩ | ⟨nm, rfl, rfl⟩ | ⟨nm, n, nm', rfl, rfl⟩ <;> rfl
theorem nodeT_un (v : api_Env) {op t : Int} {nm : ByteArray} (h : unT op t ≠ 0) : nodeT v op nm [t] = (unT op t, 0) := by
  have h5 : op = 5 ∨ op = 6 ∨ op = 7 ∨ op = 8 := by unfold unT at h; grind
  unfold nodeT
  rw [if_neg (by omega), if_neg (by omega)]
  show (if unT op t = 0 then _ else _) = _
  rw [if_neg h]; rfl
theorem nodeT_bin (v : api_Env) {op t u : Int} {nm : ByteArray} (h : binT op t u ≠ 0) : nodeT v op nm [t, u] = (binT op t u, 0) := by
  have h5 : 9 ≤ op ∧ op ≤ 21 := by unfold binT at h; grind
  unfold nodeT
  rw [if_neg (by omega), if_neg (by omega)]
  show (if binT op t u = 0 then _ else _) = _
  rw [if_neg h]; rfl
mutual
theorem ty_fold (v : api_Env) : ∀ e : api_Expr, chkE false e = 0 → (tyE v e).2 = 0 → tyE v (foldE e) = tyE v e
  | .mk op nm n k, hc, ht => by
    obtain ⟨h1, h2⟩ := tyE_ok ht
    have hk := tyL_fold v k (chk_node hc).2 h1
    have h3 := chkL_fold false k (chk_node hc).2
    rw [foldE]
    rcases nodeF_or op nm n (foldL k) with h | ⟨_, a, t, x, e, e1, h5, h6⟩ | ⟨_, a, b, t, u, x, y, e, e1, e2, h5, h6⟩
    · rw [h, tyE, hk, tyE]
    · rw [h6, h2, ty_cst v _ ((unT_123 op t).resolve_left h5), ← hk, e]
      have hx := cv_ty v e1 (chkL_mem h3 a (by rw [e]; simp))
      rw [tyL, hx, tyL]
      exact (nodeT_un v h5).symm
    · rw [h6, h2, ty_cst v _ ((binT_123 op t u).resolve_left h5), ← hk, e]
      have hx := cv_ty v e1 (chkL_mem h3 a (by rw [e]; simp))
      have hy := cv_ty v e2 (chkL_mem h3 b (by rw [e]; simp))
      rw [tyL, hx, tyL, hy, tyL]
      exact (nodeT_bin v h5).symm
theorem tyL_fold (v : api_Env) : ∀ k : List api_Expr, chkL false k = 0 → (tyL v k).2 = 0 → tyL v (foldL k) = tyL v k
  | [], _, _ => rfl
  | x :: k, hc, ht => by
    have hx := chkL_mem hc x (by simp)
    have hk : chkL false k = 0 := by
      rw [chkL, if_neg (by simp [hx])] at hc; exact hc
    obtain ⟨m1, _⟩ := tyL_mem ht
    have t1 := m1 x (by simp)
    have t2 : (tyL v k).2 = 0 := by
      rw [tyL, if_neg (by simp [t1])] at ht
      split at ht
      · rename_i h; exact absurd ht h
      · rename_i h; exact Decidable.not_not.1 h
    rw [foldL, tyL, ty_fold v x hx t1, tyL_fold v k hk t2, tyL]
end
def leafV (op n now : Int) : Int := if op = 1 ∨ op = 2 then n else if op = 4 then now else 0
def opV (op n now : Int) : List Int → Int
  | [] => leafV op n now
  | [a] => unV op a
  | a :: b :: _ => binV op a b
mutual
def valE (now : Int) : api_Expr → Int
  | .mk op _ n k => opV op n now (valL now k)
def valL (now : Int) : List api_Expr → List Int
  | [] => []
  | x :: k => valE now x :: valL now k
end
theorem cv_val (now : Int) {a : api_Expr} {t x : Int} (h : cvO a = some (t, x)) (hc : chkE false a = 0) : valE now a = x := by
  rcases cv_form h hc with ⟨nm, rfl, rfl⟩ | ⟨nm, rfl, rfl⟩ | ⟨nm, n, nm', rfl, rfl⟩ <;> rfl
theorem val_cst (now : Int) {t n : Int} (h : t = 1 ∨ t = 2 ∨ t = 3) (h2 : t = 2 → n = 0 ∨ n = 1) : valE now (cstE t n) = n := by
  rcases h with rfl | rfl | rfl
  · rfl
  · show (if n = 0 then (0 : Int) else 1) = n
    rcases h2 rfl with rfl | rfl <;> rfl
  · rfl
mutual
theorem val_fold (now : Int) : ∀ e : api_Expr, chkE false e = 0 → valE now (foldE e) = valE now e
  | .mk op nm n k, hc => by
    have hk := valL_fold now k (chk_node hc).2
    have h3 := chkL_fold false k (chk_node hc).2
    rw [foldE]
    rcases nodeF_or op nm n (foldL k) with h | ⟨_, a, t, x, e, e1, h5, h6⟩ | ⟨_, a, b, t, u, x, y, e, e1, e2, h5, h6⟩
    · rw [h, valE, hk, valE]
    · have ha := chkL_mem h3 a (by rw [e]; simp)
      have hx := cv_ok e1 ha
      rw [h6, val_cst now ((unT_123 op t).resolve_left h5) (unV_in hx.2.1 h5).2, valE, ← hk, e, valL, cv_val now e1 ha, valL]; rfl
    · have ha := chkL_mem h3 a (by rw [e]; simp)
      have hb := chkL_mem h3 b (by rw [e]; simp)
      have hx := cv_ok e1 ha
      have hy := cv_ok e2 hb
      rw [h6, val_cst now ((binT_123 op t u).resolve_left h5) (binV_in hx.2.1 hy.2.1 h5).2, valE, ← hk, e, valL, cv_val now e1 ha, valL, cv_val now e2 hb, valL]; rfl
theorem valL_fold (now : Int) : ∀ k : List api_Expr, chkL false k = 0 → valL now (foldL k) = valL now k
  | [], _ => rfl
  | x :: k, hc => by
    have hx := chkL_mem hc x (by simp)
    have hk : chkL false k = 0 := by
      rw [chkL, if_neg (by simp [hx])] at hc; exact hc
    rw [foldL, valL, valL, val_fold now x hx, valL_fold now k hk]
end
end Go.Proofs.YtonfmpiikdmndaaGreat.Ev
