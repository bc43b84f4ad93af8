/-  Chapter 51, plainly: points of a design and their numbers. -/
import Derived.Test.YtaaiehkfndibkaaGreatPa
namespace Go.Proofs.YtaaiehkfndibkaaGreat.Ev
open Go
set_option maxRecDepth 100000
set_option linter.unusedVariables false
set_option linter.unusedSimpArgs false
set_option linter.unnecessarySimpa false
def prodN : List Nat → Nat
  | [] => 1
  | l :: ls => l * prodN ls
/-- the point with a number, and what is left of the number -/
def ptN : List Nat → Nat → List Nat × Nat
  | [], i => ([], i)
  | l :: ls, i => ((ptN ls i).2 % l :: (ptN ls i).1, (ptN ls i).2 / l)
def ixN : List Nat → List Nat → Nat → Nat
  | l :: ls, x :: xs, n => ixN ls xs (n * l + x)
  | _, _, n => n
theorem ptN_snd (ls : List Nat) (i : Nat) : (ptN ls i).2 = i / prodN ls := by
  induction ls generalizing i with
  | nil => simp [ptN, prodN]
  | cons l ls ih => rw [ptN, ih, prodN, Nat.div_div_eq_div_mul, Nat.mul_comm]
theorem ptN_len (ls : List Nat) (i : Nat) : (ptN ls i).1.length = ls.length := by
  induction ls with
  | nil => rfl
  | cons l ls ih => simp [ptN, ih]
theorem ixN_acc : ∀ (ls xs : List Nat) (n : Nat), xs.length = ls.length → ixN ls xs n = n * prodN ls + ixN ls xs 0
  | [], [], n, _ => by simp [ixN, prodN]
  | [], x :: xs, n, h => by simp at h
  | l :: ls, [], n, h => by simp at h
  | l :: ls, x :: xs, n, h => by
    have h' : xs.length = ls.length := by simpa using h
    rw [ixN, ixN_acc ls xs _ h', ixN, ixN_acc ls xs (0 * l + x) h', prodN, Nat.add_mul, Nat.zero_mul, Nat.zero_add, Nat.mul_assoc]; omega
theorem ix_pt (ls : List Nat) (i : Nat) : ixN ls (ptN ls i).1 0 = i % prodN ls := by
  induction ls with
  | nil => simp [ixN, ptN, prodN, Nat.mod_one]
  | cons l ls ih => rw [ptN, ixN, ixN_acc _ _ _ (ptN_len ls i), ih, ptN_snd, prodN, Nat.zero_mul, Nat.zero_add, Nat.mul_comm l, Nat.mod_mul, Nat.add_comm, Nat.mul_comm]
/-- indices of levels -/
def okN : List Nat → List Nat → Prop
  | l :: ls, x :: xs => x < l ∧ okN ls xs
  | [], [] => True
  | _, _ => False
theorem okN_len : ∀ {ls xs : List Nat}, okN ls xs → xs.length = ls.length
  | [], [], _ => rfl
  | [], _ :: _, h => h.elim
  | _ :: _, [], h => h.elim
  | l :: ls, x :: xs, h => by simp [okN_len h.2]
theorem ix_lt : ∀ {ls xs : List Nat}, okN ls xs → ixN ls xs 0 < prodN ls
  | [], [], _ => by simp [ixN, prodN]
  | [], _ :: _, h => h.elim
  | _ :: _, [], h => h.elim
  | l :: ls, x :: xs, h => by
    have h1 := ix_lt h.2
    rw [ixN, ixN_acc _ _ _ (okN_len h.2), prodN, Nat.zero_mul, Nat.zero_add]
    have : (x + 1) * prodN ls ≤ l * prodN ls := Nat.mul_le_mul_right _ h.1
    rw [Nat.add_mul, Nat.one_mul] at this
    omega
theorem pt_ix : ∀ {ls xs : List Nat} (n : Nat), okN ls xs → (ptN ls (n * prodN ls + ixN ls xs 0)).1 = xs
  | [], [], _, _ => rfl
  | [], _ :: _, _, h => h.elim
  | _ :: _, [], _, h => h.elim
  | l :: ls, x :: xs, n, h => by
    have h1 := ix_lt h.2
    have e : n * prodN (l :: ls) + ixN (l :: ls) (x :: xs) 0 = (n * l + x) * prodN ls + ixN ls xs 0 := by
      rw [ixN, ixN_acc _ _ _ (okN_len h.2), prodN, Nat.zero_mul, Nat.zero_add, Nat.add_mul, Nat.mul_assoc]; omega
    have e2 : ((n * l + x) * prodN ls + ixN ls xs 0) / prodN ls = n * l + x := by
      rw [Nat.add_comm, Nat.add_mul_div_right _ _ (by omega), Nat.div_eq_of_lt h1]; omega
    rw [e, ptN, pt_ix _ h.2, ptN_snd, e2, Nat.mul_comm, Nat.mul_add_mod, Nat.mod_eq_of_lt h.1]
theorem pt_ok : ∀ {ls : List Nat} (i : Nat), (∀ l ∈ ls, 0 < l) → okN ls (ptN ls i).1
  | [], _, _ => trivial
  | l :: ls, i, h => ⟨Nat.mod_lt _ (h l (by simp)), pt_ok i fun l hl => h l (by simp [hl])⟩
theorem prod_pos : ∀ {ls : List Nat}, (∀ l ∈ ls, 0 < l) → 0 < prodN ls
  | [], _ => by simp [prodN]
  | l :: ls, h => Nat.mul_pos (h l (by simp)) (prod_pos fun l hl => h l (by simp [hl]))
theorem pt_mod {ls : List Nat} (h : ∀ l ∈ ls, 0 < l) (n r : Nat) (hr : r < prodN ls) : (ptN ls (n * prodN ls + r)).1 = (ptN ls r).1 := by
  have h1 := pt_ix n (pt_ok r h)
  rw [ix_pt, Nat.mod_eq_of_lt hr] at h1
  exact h1
def befN : List Nat → List Nat → Bool
  | a :: u, b :: v => if a = b then befN u v else decide (a < b)
  | _, _ => false
theorem pt_lex : ∀ {ls : List Nat}, (∀ l ∈ ls, 0 < l) → ∀ {i j : Nat}, i < j → j < prodN ls → befN (ptN ls i).1 (ptN ls j).1 = true
  | [], _, i, j, h1, h2 => by simp [prodN] at h2; omega
  | l :: ls, h, i, j, h1, h2 => by
    have hp : 0 < prodN ls := prod_pos fun l hl => h l (by simp [hl])
    have hj : j / prodN ls < l := by rw [Nat.div_lt_iff_lt_mul hp]; exact h2
    have hle : i / prodN ls ≤ j / prodN ls := Nat.div_le_div_right (by omega)
    rw [ptN, ptN, befN, ptN_snd, ptN_snd, Nat.mod_eq_of_lt hj, Nat.mod_eq_of_lt (by omega)]
    by_cases e : i / prodN ls = j / prodN ls
    · rw [if_pos e]
      have e1 := Nat.div_add_mod i (prodN ls)
      have e2 := Nat.div_add_mod j (prodN ls)
      have m1 := Nat.mod_lt i hp
      have m2 := Nat.mod_lt j hp
      have ht : ∀ l ∈ ls, 0 < l := fun l hl => h l (by simp [hl])
      have p1 := pt_mod ht (i / prodN ls) (i % prodN ls) m1
      have p2 := pt_mod ht (j / prodN ls) (j % prodN ls) m2
      rw [Nat.mul_comm, e1] at p1
      rw [Nat.mul_comm, e2] at p2
      rw [p1, p2]
      exact pt_lex ht (by rw [e] at e1; omega) m2
    · rw [if_neg e]; exact decide_eq_true (by omega)
end Go.Proofs.YtaaiehkfndibkaaGreat.Ev
