/-  Chapter 51, plainly: points of a design and their numbers. -/
import Derived.Test.YtaaiehkfndibkaaGreatPa
namespace Go.Proofs.YtaaiehkfndibkaaGreat.Ev
open Go
set_option maxRecDepth 100000
set_option linter.unusedVariables false
set_option linter.unusedSimpArgs false
set_option linter.unnecessarySimpa false
def prodN : List Nat → Nat
  | [] => 1
  | l :: ls => l * prodN ls
/-- the point with a number, and what is left of the number -/
def ptN : List Nat → Nat → List Nat × Nat
  | [], i => ([], i)
  | l :: ls, i => ((ptN ls i).2 % l :: (ptN ls i).1, (ptN ls i).2 / l)
def ixN : List Nat → List Nat → Nat → Nat
  | l :: ls, x :: xs, n => ixN ls xs (n * l + x)
  | _, _, n => n
theorem ptN_snd (ls : List Nat) (i : Nat) : (ptN ls i).2 = i / prodN ls := by
  induction ls generalizing i with
  | nil => simp [ptN, prodN]
  | cons l ls ih => rw [ptN, ih, prodN, Nat.div_div_eq_div_mul, Nat.mul_comm]
theorem ptN_len (ls : List Nat) (i : Nat) : (ptN ls i).1.length = ls.length := by
  induction ls with
  | nil => rfl
  | cons l ls ih => simp [ptN, ih]
theorem ixN_acc : ∀ (ls xs : List Nat) (n : Nat), xs.length = ls.length → ixN ls xs n = n * prodN ls + ixN ls xs 0
  | [], [], n, _ => by simp [ixN, prodN]
  | [], x :: xs, n, h => by simp at h
  | l :: ls, [], n, h => by simp at h
  | l :: ls, x :: xs, n, h => by
    have h' : xs.length = ls.length := by simpa using h
    rw [ixN, ixN_acc ls xs _ h', ixN, ixN_acc ls xs (0 * l + x) h', prodN, Nat.add_mul, Nat.zero_mul, Nat.zero_add, Nat.mul_assoc]; omega
/-- indices of levels -/
def okN : List Nat → List Nat → Prop
  | l :: ls, x :: xs => x < l ∧ okN ls xs
  | [], [] => True
  | _, _ => False
theorem okN_len : ∀ {ls xs : List Nat}, okN ls xs → xs.length = ls.length
  | [], [], _ => rfl
  | [], _ :: _, h => h.elim
  | _ :: _, [], h => h.elim
  | l :: ls, x :: xs, h => by simp [okN_len h.2]
theorem ix_lt : ∀ {ls xs : List Nat}, okN ls xs → ixN ls xs 0 < prodN ls
  | [], [], _ => by simp [ixN, prodN]
  | [], _ :: _, h => h.elim
  | _ :: _, [], h => h.elim
  | l :: ls, x :: xs, h => by
    have h1 := ix_lt h.2
    rw [ixN, ixN_acc _ _ _ (okN_len h.2), prodN, Nat.zero_mul, Nat.zero_add]
    have : (x + 1) * prodN ls ≤ l * prodN ls := Nat.mul_le_mul_right _ h.1
    rw [Nat.add_mul, Nat.one_mul] at this
    omega
theorem pt_ix : ∀ {ls xs : List Nat} (n : Nat), okN ls xs → (ptN ls (n * prodN ls + ixN ls xs 0)).1 = xs
  | [], [], _, _ => rfl
  | [], _ :: _, _, h => h.elim
  | _ :: _, [], _, h => h.elim
  | l :: ls, x :: xs, n, h => by
    have h1 := ix_lt h.2
    have e : n * prodN (l :: ls) + ixN (l :: ls) (x :: xs) 0 = (n * l + x) * prodN ls + ixN ls xs 0 := by
      rw [ixN, ixN_acc _ _ _ (okN_len h.2), prodN, Nat.zero_mul, Nat.zero_add, Nat.add_mul, Nat.mul_assoc]; omega
    have e2 : ((n * l + x) * prodN ls + ixN ls xs 0) / prodN ls = n * l + x := by
      rw [Nat.add_comm, Nat.add_mul_div_right _ _ (by omega), Nat.div_eq_of_lt h1]; omega
    rw [e, ptN, pt_ix _ h.2, ptN_snd, e2, Nat.mul_comm, Nat.mul_add_mod, Nat.mod_eq_of_lt h.1]
theorem pt_ok : ∀ {ls : List Nat} (i : Nat), (∀ l ∈ ls, 0 < l) → okN ls (ptN ls i).1
  | [], _, _ => trivial
  | l :: ls, i, h => ⟨Nat.mod_lt _ (h l (by simp)), pt_ok i fun l hl => h l (by simp [hl])⟩
theorem prod_pos : ∀ {ls : List Nat}, (∀ l ∈ ls, 0 < l) → 0 < prodN ls
  | [], _ => by simp [prodN]
  | l :: ls, h => Nat.mul_pos (h l (by simp)) (prod_pos fun l hl => h l (by simp [hl]))
def sumN : List Nat → Nat
  | [] => 0
  | x :: xs => x + sumN xs
theorem sum_set : ∀ (xs : List Nat) (k : Nat) (v : Nat), k < xs.length → sumN (xs.set k v) + xs.getD k 0 = sumN xs + v
  | [], k, v, h => by simp at h
  | x :: xs, 0, v, h => by simp [sumN]; omega
  | x :: xs, k + 1, v, h => by
    have := sum_set xs k v (by simpa using h)
    simp only [List.set_cons_succ, sumN, List.getD_cons_succ]; omega
/-- neighbors -/
def nearN (x : List Nat) : List Nat → List Nat → Nat → List (List Nat)
  | l :: ls, a :: bs, k => (if 0 < a then [x.set k (a - 1)] else []) ++ ((if a + 1 < l then [x.set k (a + 1)] else []) ++ nearN x ls bs (k + 1))
  | _, _, _ => []
theorem near_mem (x y : List Nat) : ∀ (ls bs : List Nat) (k0 : Nat), y ∈ nearN x ls bs k0 ↔ ∃ k, k < ls.length ∧ k < bs.length ∧ ((0 < bs.getD k 0 ∧ y = x.set (k0 + k) (bs.getD k 0 - 1)) ∨ (bs.getD k 0 + 1 < ls.getD k 0 ∧ y = x.set (k0 + k) (bs.getD k 0 + 1)))
  | [], bs, k0 => by simp [nearN]
  | l :: ls, [], k0 => by simp [nearN]
  | l :: ls, a :: bs, k0 => by
    have ih := near_mem x y ls bs (k0 + 1)
    rw [nearN, List.mem_append, List.mem_append, ih]
    constructor
    · rintro (h | h | ⟨k, h1, h2, h3⟩)
      · by_cases c : 0 < a
        · rw [if_pos c] at h
          exact ⟨0, by simp, by simp, .inl ⟨by simpa using c, by simpa using h⟩⟩
        · rw [if_neg c] at h; cases h
      · by_cases c : a + 1 < l
        · rw [if_pos c] at h
          exact ⟨0, by simp, by simp, .inr ⟨by simpa using c, by simpa using h⟩⟩
        · rw [if_neg c] at h; cases h
      · exact ⟨k + 1, by simpa using h1, by simpa using h2, by simpa [Nat.add_assoc, Nat.add_comm 1] using h3⟩
    · rintro ⟨k, h1, h2, h3⟩
      cases k with
      | zero =>
        rcases h3 with ⟨c, e⟩ | ⟨c, e⟩
        · exact .inl (by rw [if_pos (by simpa using c)]; simpa using e)
        · exact .inr (.inl (by rw [if_pos (by simpa using c)]; simpa using e))
      | succ k => exact .inr (.inr ⟨k, by simpa using h1, by simpa using h2, by simpa [Nat.add_assoc, Nat.add_comm 1] using h3⟩)
theorem ok_get : ∀ {ls xs : List Nat}, okN ls xs → ∀ k, k < ls.length → xs.getD k 0 < ls.getD k 0
  | [], [], _, k, h => by simp at h
  | [], _ :: _, h, _, _ => h.elim
  | _ :: _, [], h, _, _ => h.elim
  | l :: ls, x :: xs, h, 0, _ => by simpa using h.1
  | l :: ls, x :: xs, h, k + 1, hk => by simpa using ok_get h.2 k (by simpa using hk)
theorem ok_set : ∀ {ls xs : List Nat}, okN ls xs → ∀ k v, v < ls.getD k 0 → okN ls (xs.set k v)
  | [], [], _, k, v, h => by simp at h
  | [], _ :: _, h, _, _, _ => h.elim
  | _ :: _, [], h, _, _, _ => h.elim
  | l :: ls, x :: xs, h, 0, v, hv => by simp at hv; exact ⟨hv, h.2⟩
  | l :: ls, x :: xs, h, k + 1, v, hv => ⟨h.1, ok_set h.2 k v (by simpa using hv)⟩
/-- a neighbor: one place, one step -/
theorem near_of {ls x y : List Nat} (hx : okN ls x) (hy : y ∈ nearN x ls x 0) : ∃ k v, k < x.length ∧ y = x.set k v ∧ v < ls.getD k 0 ∧ (v + 1 = x.getD k 0 ∨ x.getD k 0 + 1 = v) := by
  obtain ⟨k, h1, h2, h3⟩ := (near_mem x y ls x 0).1 hy
  have := ok_get hx k h1
  rw [Nat.zero_add] at h3
  rcases h3 with ⟨c, e⟩ | ⟨c, e⟩
  · exact ⟨k, _, h2, e, by omega, .inl (by omega)⟩
  · exact ⟨k, _, h2, e, by omega, .inr rfl⟩
theorem getD_set_self (x : List Nat) (k v : Nat) (h : k < x.length) : (x.set k v).getD k 0 = v := by simp [List.getD, h]
theorem set_back : ∀ (x : List Nat) (k v : Nat), k < x.length → (x.set k v).set k (x.getD k 0) = x
  | [], k, v, h => by simp at h
  | x :: xs, 0, v, h => by simp
  | x :: xs, k + 1, v, h => by simpa using set_back xs k v (by simpa using h)
theorem near_back {ls x y : List Nat} (hx : okN ls x) (hy : y ∈ nearN x ls x 0) : okN ls y ∧ x ∈ nearN y ls y 0 ∧ sumN x % 2 ≠ sumN y % 2 := by
  obtain ⟨k, v, h1, rfl, hv, hs⟩ := near_of hx hy
  have hl := okN_len hx
  have hk := ok_get hx k (by omega)
  have hsum := sum_set x k v h1
  refine ⟨ok_set hx k v hv, (near_mem _ _ _ _ _).2 ⟨k, by omega, by simpa using h1, ?_⟩, by omega⟩
  rw [getD_set_self x k v h1, Nat.zero_add]
  rcases hs with hs | hs
  · exact .inr ⟨by omega, by rw [hs]; exact (set_back x k v h1).symm⟩
  · exact .inl ⟨by omega, by rw [← hs, Nat.add_sub_cancel]; exact (set_back x k _ h1).symm⟩
end Go.Proofs.YtaaiehkfndibkaaGreat.Ev
