/-  Small words for the printed trees. -/
import Derived.Test.YtonfmpiikdmndaaGreatFq
namespace Go.Proofs.YtonfmpiikdmndaaGreat.Ev
open Go
set_option linter.unusedVariables false
set_option linter.unusedSimpArgs false
set_option linter.unnecessarySimpa false
def I (n : Int) : PV := .val (.int .i64 n)
def V (k : IntKind) (n : Int) : PV := .val (.int k n)
def B (b : Bool) : PV := .val (.bool b)
def S (s : ByteArray) : PV := .val (.string s)
def w64 (n : Int) : Int := IntKind.wrap .i64 n
def ob {α : Type} (x : Option α) (k : α → Prop) : Prop := match x with
  | some a => k a
  | none => False
def EC.l : EC → EC
  | .seq a _ => a
  | .cond _ a _ => a
  | .block _ b => b
  | .loop _ b => b
  | c => c
def EC.r : EC → EC
  | .seq _ b => b
  | .cond _ _ b => b
  | c => c
def EC.ops : EC → List EOp
  | .region _ _ l => l
  | .regS l => l
  | _ => []
def kCallS (P : Program) (C : Oracle) (X : Inl) (n : Nat) (rest : List EOp) (st : St) (d : Option Nat) (k : St → Prop) : PV → List (Nat × List PV) → Prop :=
  fun r o' => evSeq P C X n rest (st.app ⟨(dput d r).s, o'⟩) k
def seln : Nat → List Prop → Prop
  | _, [] => False
  | 0, A :: _ => A
  | n + 1, _ :: r => seln n r
def selo {α : Type} : Nat → List (Option α) → Option α
  | _, [] => none
  | 0, A :: _ => A
  | n + 1, _ :: r => selo n r
def fko {α : Type} (r : Option Nat) (A : Nat → Option α) (B : Option α) : Option α := match r with
  | some i => A i
  | none => B
def ap (j : Bool → Prop) (b : Bool) : Prop := j b
def nj (p : Prop) : Prop := p
/-- what a printed text can be read as: a proposition, or a result -/
structure An (A : Type) where
  bd : {α : Type} → Option α → (α → A) → A
  fl : A
  cn : Bool → A → A → A
  gd : (p : Prop) → [Decidable p] → A → A
  fk : Option Nat → (Nat → A) → A → A
  sl : Nat → List A → A
  lf : {α : Type} → (α → A) → α → A
  jb : Option Bool → ((Bool → A) → A) → (Bool → A) → A
  jp : Bool → ((Bool → A) → A) → (Bool → A) → A
  ap : (Bool → A) → Bool → A
  nj : A → A
def anP : An Prop where
  bd := ob
  fl := False
  cn := br
  gd := fun p _ a => Ev.gd p a
  fk := Ev.fk
  sl := seln
  lf := fun k x => ob (some x) k
  jb := fun _ X J => jn X J
  jp := fun _ X J => jn X J
  ap := Ev.ap
  nj := Ev.nj
def anO (R : Type) : An (Option R) where
  bd := Option.bind
  fl := none
  cn := cond
  gd := fun p _ a => if p then a else none
  fk := fko
  sl := selo
  lf := fun k x => k x
  jb := fun x _ J => x.bind J
  jp := fun x _ J => J x
  ap := fun j b => j b
  nj := fun a => a
section
variable {R : Type}
theorem anO_bd {α : Type} (x : Option α) (f : α → Option R) : (anO R).bd x f = x.bind f := rfl
theorem anO_fl : (anO R).fl = none := rfl
theorem anO_cn (t : Bool) (a b : Option R) : (anO R).cn t a b = bif t then a else b := rfl
theorem anO_gd (p : Prop) [Decidable p] (a : Option R) : (anO R).gd p a = if p then a else none := rfl
theorem anO_fk (x : Option Nat) (f : Nat → Option R) (a : Option R) : (anO R).fk x f a = fko x f a := rfl
theorem anO_sl (n : Nat) (l : List (Option R)) : (anO R).sl n l = selo n l := rfl
theorem anO_lf {α : Type} (k : α → Option R) (x : α) : (anO R).lf k x = k x := rfl
theorem anO_jb (x : Option Bool) (X : (Bool → Option R) → Option R) (J : Bool → Option R) : (anO R).jb x X J = x.bind J := rfl
theorem anO_jp (x : Bool) (X : (Bool → Option R) → Option R) (J : Bool → Option R) : (anO R).jp x X J = J x := rfl
theorem anO_ap (j : Bool → Option R) (b : Bool) : (anO R).ap j b = j b := rfl
theorem anO_nj (a : Option R) : (anO R).nj a = a := rfl
end
theorem ob_some {α : Type} {x : Option α} {a : α} {k : α → Prop} (h : x = some a) (hk : k a) : ob x k := by subst h; exact hk
theorem ob_elim {α : Type} {x : Option α} {k : α → Prop} (h : ob x k) : ∃ a, x = some a ∧ k a := by
  cases x with
  | none => exact h.elim
  | some a => exact ⟨a, rfl, h⟩
/-- contracts, one behind the other -/
def orc (n : Nat) (A : List PV → (PV → Prop) → Prop) (B : Oracle) : Oracle := fun f args k => match Nat.beq f n with
  | true => A args k
  | false => B f args k
def noC : Oracle := fun _ _ _ => False
theorem noC_sound (P : Program) : SoundC P noC := fun _ _ _ h => h.elim
theorem orc_sound {P : Program} {n : Nat} {A : List PV → (PV → Prop) → Prop} {B : Oracle} (hA : ∀ args k, A args k → ∃ r, Holds P n args r ∧ k r) (hB : SoundC P B) : SoundC P (orc n A B) := by
  intro f args k h
  unfold orc at h
  cases e : Nat.beq f n with
  | true =>
    rw [e] at h
    have := Nat.eq_of_beq_eq_true e
    subst this
    exact hA args k h
  | false =>
    rw [e] at h
    exact hB f args k h
theorem br_ob {α : Type} (k : α → Prop) {t : Bool} {a b : Option α} : br t (ob a k) (ob b k) = ob (bif t then a else b) k := by cases t <;> rfl
theorem ob_ob {α β : Type} (k : α → Prop) {x : Option β} {g : β → Option α} : ob x (fun r => ob (g r) k) = ob (x.bind g) k := by cases x <;> rfl
theorem and_ob {α : Type} (k : α → Prop) {p : Prop} [Decidable p] {a : Option α} : (p ∧ ob a k) = ob (if p then a else none) k := by
  by_cases hp : p
  · simp [hp]
  · simp [hp, ob]
theorem gd_ob {α : Type} (k : α → Prop) {p : Prop} [d : Decidable p] {a : Option α} : Ev.gd p (ob a k) = ob (if p then a else none) k := by
  rw [gd_and, and_ob]
theorem fk_ob {α : Type} (k : α → Prop) {r : Option Nat} {a : Nat → Option α} {b : Option α} : fk r (fun i => ob (a i) k) (ob b k) = ob (fko r a b) k := by cases r <;> rfl
theorem sel1_ob {α : Type} (k : α → Prop) {n : Nat} {a : Option α} : seln n [ob a k] = ob (selo n [a]) k := by
  match n with
  | 0 => rfl
  | n + 1 => cases n <;> rfl
theorem sel2_ob {α : Type} (k : α → Prop) {n : Nat} {a b : Option α} : seln n [ob a k, ob b k] = ob (selo n [a, b]) k := by
  match n with
  | 0 => rfl
  | 1 => rfl
  | n + 2 => cases n <;> rfl
theorem sel3_ob {α : Type} (k : α → Prop) {n : Nat} {a b c : Option α} : seln n [ob a k, ob b k, ob c k] = ob (selo n [a, b, c]) k := by
  match n with
  | 0 => rfl
  | 1 => rfl
  | 2 => rfl
  | n + 3 => cases n <;> rfl
theorem sel4_ob {α : Type} (k : α → Prop) {n : Nat} {a b c d : Option α} : seln n [ob a k, ob b k, ob c k, ob d k] = ob (selo n [a, b, c, d]) k := by
  match n with
  | 0 => rfl
  | 1 => rfl
  | 2 => rfl
  | 3 => rfl
  | n + 4 => cases n <;> rfl
theorem br_br (t x y : Bool) (j : Bool → Prop) : br t (ap j x) (ap j y) = ap j (bif t then x else y) := by cases t <;> rfl
theorem jn_ob {α σ : Type} (k : α → Prop) {t : Option σ} {r : σ → Option α} : jn (fun j => ob t j) (fun o => ob (r o) k) = ob (t.bind r) k := by cases t <;> rfl
theorem LeI.of_le {p q : PV} (h : PV.Le p q) : LeI p q := fun _ _ _ _ _ hv => hv.le h
theorem LeI.agg {r s : List PV} (h : RowLe r s) : LeI (.agg r) (.agg s) := fun _ _ _ _ _ hv => rowle_rel (g := true) h hv
theorem LeI.ref {r s : List PV} (h : RowLe r s) : LeI (.ref r) (.ref s) := by
  intro w M β B v hv
  cases hv with
  | row p s hs => cases hs
  | ref l ad vs hm hr =>
    refine .ref s ad vs (fun i q hq => ?_) (fun i q hq => ?_)
    · obtain ⟨p, hp, _⟩ := h.get.2 i q hq
      exact hm i p hp
    · obtain ⟨p, hp, hle⟩ := h.get.2 i q hq
      exact (hr i p hp).le hle
inductive LeAll : List PV → List PV → Prop
  | nil : LeAll [] []
  | cons {p q : PV} {r s : List PV} (h : LeI p q) (hr : LeAll r s) : LeAll (p :: r) (q :: s)
theorem LeAll.get {r s : List PV} (h : LeAll r s) : r.length = s.length ∧ ∀ (i : Nat) (p q : PV), r[i]? = some p → s[i]? = some q → LeI p q := by
  induction h with
  | nil => exact ⟨rfl, fun i p q h => by simp at h⟩
  | cons h hr ih =>
    refine ⟨by simp [ih.1], fun i p q hp hq => ?_⟩
    cases i with
    | zero => simp at hp hq; subst hp; subst hq; exact h
    | succ i => exact ih.2 i p q (by simpa using hp) (by simpa using hq)
theorem Holds.argsL {P : Program} {f : Nat} {args args' : List PV} {r : PV} (h : Holds P f args' r) (hl : LeAll args args') : Holds P f args r := h.args hl.get.1 hl.get.2
/-! ### codes -/
structure Cd (α : Type) where
  en : α → PV
  de : PV → Option α
  le : ∀ {p x}, de p = some x → LeI p (en x)
def cI (k : IntKind) : Cd Int := ⟨fun x => .val (.int k x), dInt k, fun h => LeI.of_le (dInt_le h)⟩
def cB : Cd Bool := ⟨fun x => .val (.bool x), dBool, fun h => LeI.of_le (dBool_le h)⟩
def cS : Cd ByteArray := ⟨fun x => .val (.string x), dStr, fun h => LeI.of_le (dStr_le h)⟩
section
variable {a b c d e f g h ρ : Type} {P : Program} {n : Nat} (er : ρ → PV)
def A0 (F : Option ρ) : List PV → (PV → Prop) → Prop
  | [], k => ob F fun r => k (er r)
  | _, _ => False
def A1 (c1 : Cd a) (F : a → Option ρ) : List PV → (PV → Prop) → Prop
  | [p1], k => match c1.de p1 with
    | some x1 => ob (F x1) fun r => k (er r)
    | _ => False
  | _, _ => False
theorem a0 {F : Option ρ} (hF : ∀ r, F = some r → Holds P n [] (er r)) : ∀ args k, A0 er F args k → ∃ r, Holds P n args r ∧ k r := by
  intro args k hA
  unfold A0 at hA
  split at hA
  · obtain ⟨r, q1, q2⟩ := ob_elim hA
    exact ⟨_, hF r q1, q2⟩
  · exact hA.elim
theorem a1 {c1 : Cd a} {F : a → Option ρ} (hF : ∀ x1 r, F x1 = some r → Holds P n [c1.en x1] (er r)) : ∀ args k, A1 er c1 F args k → ∃ r, Holds P n args r ∧ k r := by
  intro args k hA
  unfold A1 at hA
  split at hA
  · split at hA
    · rename_i e1
      obtain ⟨r, q1, q2⟩ := ob_elim hA
      exact ⟨_, (hF _ r q1).argsL (.cons (c1.le e1) LeAll.nil), q2⟩
    · exact hA.elim
  · exact hA.elim
def A2 (c1 : Cd a) (c2 : Cd b) (F : a → b → Option ρ) : List PV → (PV → Prop) → Prop
  | [p1, p2], k => match c1.de p1, c2.de p2 with
    | some x1, some x2 => ob (F x1 x2) fun r => k (er r)
    | _, _ => False
  | _, _ => False
theorem a2 {c1 : Cd a} {c2 : Cd b} {F : a → b → Option ρ} (hF : ∀ x1 x2 r, F x1 x2 = some r → Holds P n [c1.en x1, c2.en x2] (er r)) : ∀ args k, A2 er c1 c2 F args k → ∃ r, Holds P n args r ∧ k r := by
  intro args k hA
  unfold A2 at hA
  split at hA
  · split at hA
    · rename_i e1 e2
      obtain ⟨r, q1, q2⟩ := ob_elim hA
      exact ⟨_, (hF _ _ r q1).argsL (.cons (c1.le e1) (.cons (c2.le e2) LeAll.nil)), q2⟩
    · exact hA.elim
  · exact hA.elim
def A3 (c1 : Cd a) (c2 : Cd b) (c3 : Cd c) (F : a → b → c → Option ρ) : List PV → (PV → Prop) → Prop
  | [p1, p2, p3], k => match c1.de p1, c2.de p2, c3.de p3 with
    | some x1, some x2, some x3 => ob (F x1 x2 x3) fun r => k (er r)
    | _, _, _ => False
  | _, _ => False
theorem a3 {c1 : Cd a} {c2 : Cd b} {c3 : Cd c} {F : a → b → c → Option ρ} (hF : ∀ x1 x2 x3 r, F x1 x2 x3 = some r → Holds P n [c1.en x1, c2.en x2, c3.en x3] (er r)) : ∀ args k, A3 er c1 c2 c3 F args k → ∃ r, Holds P n args r ∧ k r := by
  intro args k hA
  unfold A3 at hA
  split at hA
  · split at hA
    · rename_i e1 e2 e3
      obtain ⟨r, q1, q2⟩ := ob_elim hA
      exact ⟨_, (hF _ _ _ r q1).argsL (.cons (c1.le e1) (.cons (c2.le e2) (.cons (c3.le e3) LeAll.nil))), q2⟩
    · exact hA.elim
  · exact hA.elim
def A4 (c1 : Cd a) (c2 : Cd b) (c3 : Cd c) (c4 : Cd d) (F : a → b → c → d → Option ρ) : List PV → (PV → Prop) → Prop
  | [p1, p2, p3, p4], k => match c1.de p1, c2.de p2, c3.de p3, c4.de p4 with
    | some x1, some x2, some x3, some x4 => ob (F x1 x2 x3 x4) fun r => k (er r)
    | _, _, _, _ => False
  | _, _ => False
theorem a4 {c1 : Cd a} {c2 : Cd b} {c3 : Cd c} {c4 : Cd d} {F : a → b → c → d → Option ρ} (hF : ∀ x1 x2 x3 x4 r, F x1 x2 x3 x4 = some r → Holds P n [c1.en x1, c2.en x2, c3.en x3, c4.en x4] (er r)) : ∀ args k, A4 er c1 c2 c3 c4 F args k → ∃ r, Holds P n args r ∧ k r := by
  intro args k hA
  unfold A4 at hA
  split at hA
  · split at hA
    · rename_i e1 e2 e3 e4
      obtain ⟨r, q1, q2⟩ := ob_elim hA
      exact ⟨_, (hF _ _ _ _ r q1).argsL (.cons (c1.le e1) (.cons (c2.le e2) (.cons (c3.le e3) (.cons (c4.le e4) LeAll.nil)))), q2⟩
    · exact hA.elim
  · exact hA.elim
def A5 (c1 : Cd a) (c2 : Cd b) (c3 : Cd c) (c4 : Cd d) (c5 : Cd e) (F : a → b → c → d → e → Option ρ) : List PV → (PV → Prop) → Prop
  | [p1, p2, p3, p4, p5], k => match c1.de p1, c2.de p2, c3.de p3, c4.de p4, c5.de p5 with
    | some x1, some x2, some x3, some x4, some x5 => ob (F x1 x2 x3 x4 x5) fun r => k (er r)
    | _, _, _, _, _ => False
  | _, _ => False
theorem a5 {c1 : Cd a} {c2 : Cd b} {c3 : Cd c} {c4 : Cd d} {c5 : Cd e} {F : a → b → c → d → e → Option ρ} (hF : ∀ x1 x2 x3 x4 x5 r, F x1 x2 x3 x4 x5 = some r → Holds P n [c1.en x1, c2.en x2, c3.en x3, c4.en x4, c5.en x5] (er r)) : ∀ args k, A5 er c1 c2 c3 c4 c5 F args k → ∃ r, Holds P n args r ∧ k r := by
  intro args k hA
  unfold A5 at hA
  split at hA
  · split at hA
    · rename_i e1 e2 e3 e4 e5
      obtain ⟨r, q1, q2⟩ := ob_elim hA
      exact ⟨_, (hF _ _ _ _ _ r q1).argsL (.cons (c1.le e1) (.cons (c2.le e2) (.cons (c3.le e3) (.cons (c4.le e4) (.cons (c5.le e5) LeAll.nil))))), q2⟩
    · exact hA.elim
  · exact hA.elim
def A6 (c1 : Cd a) (c2 : Cd b) (c3 : Cd c) (c4 : Cd d) (c5 : Cd e) (c6 : Cd f) (F : a → b → c → d → e → f → Option ρ) : List PV → (PV → Prop) → Prop
  | [p1, p2, p3, p4, p5, p6], k => match c1.de p1, c2.de p2, c3.de p3, c4.de p4, c5.de p5, c6.de p6 with
    | some x1, some x2, some x3, some x4, some x5, some x6 => ob (F x1 x2 x3 x4 x5 x6) fun r => k (er r)
    | _, _, _, _, _, _ => False
  | _, _ => False
theorem a6 {c1 : Cd a} {c2 : Cd b} {c3 : Cd c} {c4 : Cd d} {c5 : Cd e} {c6 : Cd f} {F : a → b → c → d → e → f → Option ρ} (hF : ∀ x1 x2 x3 x4 x5 x6 r, F x1 x2 x3 x4 x5 x6 = some r → Holds P n [c1.en x1, c2.en x2, c3.en x3, c4.en x4, c5.en x5, c6.en x6] (er r)) : ∀ args k, A6 er c1 c2 c3 c4 c5 c6 F args k → ∃ r, Holds P n args r ∧ k r := by
  intro args k hA
  unfold A6 at hA
  split at hA
  · split at hA
    · rename_i e1 e2 e3 e4 e5 e6
      obtain ⟨r, q1, q2⟩ := ob_elim hA
      exact ⟨_, (hF _ _ _ _ _ _ r q1).argsL (.cons (c1.le e1) (.cons (c2.le e2) (.cons (c3.le e3) (.cons (c4.le e4) (.cons (c5.le e5) (.cons (c6.le e6) LeAll.nil)))))), q2⟩
    · exact hA.elim
  · exact hA.elim
def A7 (c1 : Cd a) (c2 : Cd b) (c3 : Cd c) (c4 : Cd d) (c5 : Cd e) (c6 : Cd f) (c7 : Cd g) (F : a → b → c → d → e → f → g → Option ρ) : List PV → (PV → Prop) → Prop
  | [p1, p2, p3, p4, p5, p6, p7], k => match c1.de p1, c2.de p2, c3.de p3, c4.de p4, c5.de p5, c6.de p6, c7.de p7 with
    | some x1, some x2, some x3, some x4, some x5, some x6, some x7 => ob (F x1 x2 x3 x4 x5 x6 x7) fun r => k (er r)
    | _, _, _, _, _, _, _ => False
  | _, _ => False
theorem a7 {c1 : Cd a} {c2 : Cd b} {c3 : Cd c} {c4 : Cd d} {c5 : Cd e} {c6 : Cd f} {c7 : Cd g} {F : a → b → c → d → e → f → g → Option ρ} (hF : ∀ x1 x2 x3 x4 x5 x6 x7 r, F x1 x2 x3 x4 x5 x6 x7 = some r → Holds P n [c1.en x1, c2.en x2, c3.en x3, c4.en x4, c5.en x5, c6.en x6, c7.en x7] (er r)) : ∀ args k, A7 er c1 c2 c3 c4 c5 c6 c7 F args k → ∃ r, Holds P n args r ∧ k r := by
  intro args k hA
  unfold A7 at hA
  split at hA
  · split at hA
    · rename_i e1 e2 e3 e4 e5 e6 e7
      obtain ⟨r, q1, q2⟩ := ob_elim hA
      exact ⟨_, (hF _ _ _ _ _ _ _ r q1).argsL (.cons (c1.le e1) (.cons (c2.le e2) (.cons (c3.le e3) (.cons (c4.le e4) (.cons (c5.le e5) (.cons (c6.le e6) (.cons (c7.le e7) LeAll.nil))))))), q2⟩
    · exact hA.elim
  · exact hA.elim
def A8 (c1 : Cd a) (c2 : Cd b) (c3 : Cd c) (c4 : Cd d) (c5 : Cd e) (c6 : Cd f) (c7 : Cd g) (c8 : Cd h) (F : a → b → c → d → e → f → g → h → Option ρ) : List PV → (PV → Prop) → Prop
  | [p1, p2, p3, p4, p5, p6, p7, p8], k => match c1.de p1, c2.de p2, c3.de p3, c4.de p4, c5.de p5, c6.de p6, c7.de p7, c8.de p8 with
    | some x1, some x2, some x3, some x4, some x5, some x6, some x7, some x8 => ob (F x1 x2 x3 x4 x5 x6 x7 x8) fun r => k (er r)
    | _, _, _, _, _, _, _, _ => False
  | _, _ => False
theorem a8 {c1 : Cd a} {c2 : Cd b} {c3 : Cd c} {c4 : Cd d} {c5 : Cd e} {c6 : Cd f} {c7 : Cd g} {c8 : Cd h} {F : a → b → c → d → e → f → g → h → Option ρ} (hF : ∀ x1 x2 x3 x4 x5 x6 x7 x8 r, F x1 x2 x3 x4 x5 x6 x7 x8 = some r → Holds P n [c1.en x1, c2.en x2, c3.en x3, c4.en x4, c5.en x5, c6.en x6, c7.en x7, c8.en x8] (er r)) : ∀ args k, A8 er c1 c2 c3 c4 c5 c6 c7 c8 F args k → ∃ r, Holds P n args r ∧ k r := by
  intro args k hA
  unfold A8 at hA
  split at hA
  · split at hA
    · rename_i e1 e2 e3 e4 e5 e6 e7 e8
      obtain ⟨r, q1, q2⟩ := ob_elim hA
      exact ⟨_, (hF _ _ _ _ _ _ _ _ r q1).argsL (.cons (c1.le e1) (.cons (c2.le e2) (.cons (c3.le e3) (.cons (c4.le e4) (.cons (c5.le e5) (.cons (c6.le e6) (.cons (c7.le e7) (.cons (c8.le e8) LeAll.nil)))))))), q2⟩
    · exact hA.elim
  · exact hA.elim
end
theorem hE {P : Program} {C : Oracle} {inl : Nat → Bool} {G : Nat → Option (Nat × Nat)} {J : Nat → Bool} {D L : Nat} (hG : SoundG P G) (hC : SoundC P C) (hm : P.follows .mixedOrders = true) {f : Nat} {fn : Func} (hf : P.funcs[f]? = some fn) {ec : EC} (hc : cFn P inl fn = some ec) {args : List PV} {ρ : Type} {r : ρ} {F : Option ρ} {er : ρ → PV}
    (hn : Nat.ble args.length fn.ntmps = true) (he : ∀ kk, evFn P C (evI P inl G J C L D) L fn.results.toList ec args kk = ob F (fun x => kk (er x))) (h : F = some r) : Holds P f args (er r) := by
  refine holds_of_ev (inl := inl) hC (evI_sound (inl := inl) (J := J) hG hC hm L D) hm L hf hc _ _ hn ?_
  rw [he]
  exact ob_some h rfl
def inL (f : Nat) : List Nat → Bool
  | [] => false
  | a :: r => match Nat.beq a f with
    | true => true
    | false => inL f r
theorem w64_id {n : Int} (h1 : -9223372036854775808 ≤ n) (h2 : n ≤ 9223372036854775807) : w64 n = n := by
  unfold w64 IntKind.wrap
  simp [IntKind.signed, IntKind.bits]
  split <;> omega
end Go.Proofs.YtonfmpiikdmndaaGreat.Ev
