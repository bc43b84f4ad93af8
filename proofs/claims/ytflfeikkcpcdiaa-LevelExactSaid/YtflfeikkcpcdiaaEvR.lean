/-  Small words for the printed trees. -/
import Derived.Test.YtflfeikkcpcdiaaEvQ
namespace Go.Proofs.Ytflfeikkcpcdiaa.Ev
open Go
set_option linter.unusedVariables false
set_option linter.unusedSimpArgs false
set_option linter.unnecessarySimpa false

def I (n : Int) : PV := .val (.int .i64 n)
def V (k : IntKind) (n : Int) : PV := .val (.int k n)
def B (b : Bool) : PV := .val (.bool b)
def S (s : ByteArray) : PV := .val (.string s)
def w64 (n : Int) : Int := IntKind.wrap .i64 n
def ob {α : Type} (x : Option α) (k : α → Prop) : Prop := match x with
  | some a => k a
  | none => False
def EC.l : EC → EC
  | .seq a _ => a
  | .cond _ a _ => a
  | .block _ b => b
  | .loop _ _ b => b
  | c => c
def EC.r : EC → EC
  | .seq _ b => b
  | .cond _ _ b => b
  | c => c

theorem ob_some {α : Type} {x : Option α} {a : α} {k : α → Prop} (h : x = some a) (hk : k a) : ob x k := by subst h; exact hk
theorem ob_elim {α : Type} {x : Option α} {k : α → Prop} (h : ob x k) : ∃ a, x = some a ∧ k a := by
  cases x with
  | none => exact h.elim
  | some a => exact ⟨a, rfl, h⟩
theorem br_true {t : Bool} {A B : Prop} (h : t = true) (hA : A) : br t A B := by subst h; exact hA
theorem br_false {t : Bool} {A B : Prop} (h : t = false) (hB : B) : br t A B := by subst h; exact hB
theorem br_iff {t : Bool} {A B : Prop} : br t A B ↔ (t = true → A) ∧ (t = false → B) := by cases t <;> simp [br]

/-- contracts, one behind the other -/
def orc (n : Nat) (A : List PV → (PV → Prop) → Prop) (B : Oracle) : Oracle := fun f args k => match Nat.beq f n with
  | true => A args k
  | false => B f args k
def noC : Oracle := fun _ _ _ => False
theorem noC_sound (P : Program) : SoundC P noC := fun _ _ _ h => h.elim
theorem orc_sound {P : Program} {n : Nat} {A : List PV → (PV → Prop) → Prop} {B : Oracle} (hA : ∀ args k, A args k → ∃ r, Holds P n args r ∧ k r) (hB : SoundC P B) : SoundC P (orc n A B) := by
  intro f args k h
  unfold orc at h
  cases e : Nat.beq f n with
  | true =>
    rw [e] at h
    have := Nat.eq_of_beq_eq_true e
    subst this
    exact hA args k h
  | false =>
    rw [e] at h
    exact hB f args k h
theorem br_k {α : Type} (k : α → Prop) {t : Bool} {a b : α} : br t (k a) (k b) = k (bif t then a else b) := by cases t <;> rfl
theorem leaf_ob {α : Type} (k : α → Prop) (x : α) : k x = ob (some x) k := rfl
theorem false_ob {α : Type} (k : α → Prop) : False = ob none k := rfl
theorem br_ob {α : Type} (k : α → Prop) {t : Bool} {a b : Option α} : br t (ob a k) (ob b k) = ob (bif t then a else b) k := by cases t <;> rfl
theorem ob_ob {α β : Type} (k : α → Prop) {x : Option β} {g : β → Option α} : ob x (fun r => ob (g r) k) = ob (x.bind g) k := by cases x <;> rfl
theorem and_ob {α : Type} (k : α → Prop) {p q : Prop} [Decidable p] [Decidable q] {a : Option α} : (p ∧ q ∧ ob a k) = ob (if p ∧ q then a else none) k := by
  by_cases hp : p
  · by_cases hq : q
    · simp [hp, hq]
    · simp [hq, ob]
  · simp [hp, ob]

theorem w64_id {n : Int} (h1 : -9223372036854775808 ≤ n) (h2 : n ≤ 9223372036854775807) : w64 n = n := by
  unfold w64 IntKind.wrap
  simp [IntKind.signed, IntKind.bits]
  split <;> omega
end Go.Proofs.Ytflfeikkcpcdiaa.Ev
