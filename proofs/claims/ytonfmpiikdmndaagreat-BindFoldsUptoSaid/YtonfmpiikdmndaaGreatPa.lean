/-  Plain words: for all fuels from one on; loops over lists. -/
import Derived.Test.YtonfmpiikdmndaaGreatFy
namespace Go.Proofs.YtonfmpiikdmndaaGreat.Ev
open Go
set_option linter.unusedVariables false
set_option linter.unusedSimpArgs false
set_option linter.unnecessarySimpa false
/-- for all fuels from one on -/
def Evt (P : Nat → Prop) : Prop := ∃ L0, ∀ L, L0 ≤ L → P L
theorem Evt.all {P : Nat → Prop} (h : ∀ L, P L) : Evt P := ⟨0, fun L _ => h L⟩
theorem Evt.mono {P Q : Nat → Prop} (hp : Evt P) (h : ∀ L, P L → Q L) : Evt Q := by
  obtain ⟨a, ha⟩ := hp
  exact ⟨a, fun L hL => h L (ha L hL)⟩
theorem Evt.succ {P : Nat → Prop} (h : Evt fun L => P (L + 1)) : Evt P := by
  obtain ⟨a, ha⟩ := h
  refine ⟨a + 1, fun L hL => ?_⟩
  obtain ⟨k, rfl⟩ : ∃ k, L = k + 1 := ⟨L - 1, by omega⟩
  exact ha k (by omega)
theorem Evt.get {P : Nat → Prop} (h : Evt P) : ∃ L, P L := let ⟨a, ha⟩ := h; ⟨a, ha a (Nat.le_refl _)⟩
theorem drop_cons {α : Type} [Inhabited α] {l : List α} {i : Nat} {x : α} {k : List α} (h : l.drop i = x :: k) : i < l.length ∧ l.getD i default = x ∧ l.drop (i + 1) = k := by
  have hi : i < l.length := by
    have := congrArg List.length h
    simp at this; omega
  refine ⟨hi, ?_, ?_⟩
  · rw [List.drop_eq_getElem_cons hi] at h
    injection h with h1 h2
    rw [getD_eq l i hi, h1]
  · rw [← List.drop_drop, h]; rfl
theorem drop_nil {α : Type} {l : List α} {i : Nat} (h : l.drop i = []) : l.length ≤ i := List.drop_eq_nil_iff.1 h
theorem d_lt {i n : Nat} (h : i < n) : decide ((i : Int) < (n : Int)) = true := decide_eq_true (by omega)
theorem d_ge {i n : Nat} (h : n ≤ i) : decide ((i : Int) < (n : Int)) = false := decide_eq_false (by omega)
theorem w64_succ {i n : Nat} (h : i < n) (hn : n ≤ maxLen) : w64 ((i : Int) + 1) = ((i + 1 : Nat) : Int) := by
  unfold maxLen at hn
  rw [w64_id (by omega) (by omega)]; omega
theorem w64_pred {i : Nat} (hn : i ≤ maxLen) : w64 ((i : Int) - 1) = (i : Int) - 1 := by
  unfold maxLen at hn
  exact w64_id (by omega) (by omega)
theorem nn (i : Nat) : ((0 : Int) ≤ (i : Int)) = True := eq_true (by omega)
theorem ltI {i n : Nat} (h : i < n) : ((i : Int) < ((n : Nat) : Int)) = True := eq_true (by omega)
theorem toN (i : Nat) : Int.toNat (i : Int) = i := Int.toNat_natCast i
theorem sel0 {α : Type} (a : Option α) (r : List (Option α)) : selo 0 (a :: r) = a := by cases r <;> rfl
theorem sel1 {α : Type} (a b : Option α) (r : List (Option α)) : selo 1 (a :: b :: r) = b := by cases r <;> rfl
theorem loop_eq (bs : ByteArray) : ∀ (m i : Nat) (r : List UInt8), i + m = bs.size → ByteArray.toList.loop bs i r = r.reverse ++ bs.data.toList.drop i := by
  intro m
  induction m with
  | zero =>
    intro i r h
    have h2 : bs.data.toList.length ≤ i := by
      have : bs.data.toList.length = bs.size := rfl
      omega
    rw [ByteArray.toList.loop, if_neg (by omega), List.drop_eq_nil_of_le h2, List.append_nil]
  | succ m ih =>
    intro i r h
    have hlt : i < bs.size := by omega
    have h2 : i < bs.data.toList.length := hlt
    rw [ByteArray.toList.loop, if_pos hlt, ih (i + 1) _ (by omega), List.drop_eq_getElem_cons h2, List.reverse_cons, List.append_assoc]
    have h3 : bs.get! i = bs.data.toList[i] := by
      show bs.data[i]! = _
      rw [getElem!_pos bs.data i hlt, Array.getElem_toList]
    rw [h3]; rfl
theorem toList_data (s : ByteArray) : s.toList = s.data.toList := by
  rw [ByteArray.toList, loop_eq s s.size 0 [] (by omega)]; rfl
theorem str_eq (a b : ByteArray) : (a.toList == b.toList) = decide (a = b) := by
  rw [toList_data, toList_data]
  cases h2 : (a.data.toList == b.data.toList) with
  | true =>
    have h3 := Array.toList_inj.1 (eq_of_beq h2)
    have : a = b := by cases a; cases b; cases h3; rfl
    exact (decide_eq_true this).symm
  | false =>
    symm; apply decide_eq_false
    rintro rfl
    rw [beq_self_eq_true] at h2; cases h2
theorem str_nil (s : ByteArray) : decide (s = (⟨#[]⟩ : ByteArray)) = decide (s.size = 0) := by
  apply decide_eq_decide.2
  constructor
  · rintro rfl; rfl
  · intro h
    rcases s with ⟨⟨l⟩⟩
    have h3 : l.length = 0 := h
    rw [List.length_eq_zero_iff.1 h3]
theorem cond_ss {α : Type} (c : Bool) (a b : α) : (bif c then some a else some b) = some (bif c then a else b) := by cases c <;> rfl
theorem band_c (a b : Bool) : (bif a then b else false) = (a && b) := by cases a <;> rfl
theorem bor_c (a b : Bool) : (bif a then true else b) = (a || b) := by cases a <;> rfl
theorem getB {a : ByteArray} {i : Nat} (h : i < a.size) : a[i]?.isSome = true := by
  rw [getElem?_pos a i h]; rfl
theorem ifp {α : Type} {c : Prop} {d : Decidable c} {a b : α} (h : c) : @ite α c d a b = a := if_pos h
theorem maxLen_eq : maxLen = 9223372036854775807 := rfl
theorem ne0 {x : Int} (h : ¬ x = 0) : (x != 0) = true := bne_iff_ne.2 h
/-- the index of the first one, or -1 -/
def idxI : Option Nat → Int
  | some i => (i : Int)
  | none => -1
end Go.Proofs.YtonfmpiikdmndaaGreat.Ev
