/-  Chapter 16, plainly: the type and the value of a folded expression. -/
import Derived.Test.YtonfmpiikdmndaaGreatBa
namespace Go.Proofs.YtonfmpiikdmndaaGreat.Ev
open Go
set_option maxRecDepth 100000
set_option linter.unusedVariables false
set_option linter.unusedSimpArgs false
set_option linter.unnecessarySimpa false
theorem kids0 {op : Int} {nm : ByteArray} {n : Int} {k : List api_Expr} (h : chkE false (.mk op nm n k) = 0) (ha : arity op = 0) : k = [] := by
  have := (node_len (chk_node h).1).1
  rw [ha] at this
  exact List.length_eq_zero_iff.1 (by omega)
theorem cv_form {a : api_Expr} {t x : Int} (h : cvO a = some (t, x)) (hc : chkE false a = 0) :
    (∃ nm, a = .mk 1 nm x [] ∧ t = 1) ∨ (∃ nm, a = .mk 2 nm x [] ∧ t = 2) ∨ (∃ nm n nm', a = .mk 7 nm n [.mk 1 nm' x []] ∧ t = 3) := by
  rcases cv_cases h with ⟨nm, k, rfl, rfl⟩ | ⟨nm, k, rfl, rfl⟩ | ⟨nm, n, nm', k, rfl, rfl⟩
  · exact .inl ⟨nm, by rw [kids0 hc (by decide)], rfl⟩
  · exact .inr (.inl ⟨nm, by rw [kids0 hc (by decide)], rfl⟩)
  · have hx := chkL_mem (chk_node hc).2 (.mk 1 nm' x k) (by simp)
    exact .inr (.inr ⟨nm, n, nm', by rw [kids0 hx (by decide)], rfl⟩)
theorem cv_ty (v : api_Env) {a : api_Expr} {t x : Int} (h : cvO a = some (t, x)) (hc : chkE false a = 0) : tyE v a = (t, 0) := by
  rcases cv_form h hc with ⟨nm, rfl, rfl⟩ | ⟨nm, rfl, rfl⟩ | ⟨nm, n, nm', rfl, rfl⟩ <;> rfl
theorem nodeT_un (v : api_Env) {op t : Int} {nm : ByteArray} (h : unT op t ≠ 0) : nodeT v op nm [t] = (unT op t, 0) := by
  have h5 : op = 5 ∨ op = 6 ∨ op = 7 ∨ op = 8 := by unfold unT at h; grind
  unfold nodeT
  rw [if_neg (by omega), if_neg (by omega)]
  show (if unT op t = 0 then _ else _) = _
  rw [if_neg h]; rfl
theorem nodeT_bin (v : api_Env) {op t u : Int} {nm : ByteArray} (h : binT op t u ≠ 0) : nodeT v op nm [t, u] = (binT op t u, 0) := by
  have h5 : 9 ≤ op ∧ op ≤ 21 := by unfold binT at h; grind
  unfold nodeT
  rw [if_neg (by omega), if_neg (by omega)]
  show (if binT op t u = 0 then _ else _) = _
  rw [if_neg h]; rfl
end Go.Proofs.YtonfmpiikdmndaaGreat.Ev
