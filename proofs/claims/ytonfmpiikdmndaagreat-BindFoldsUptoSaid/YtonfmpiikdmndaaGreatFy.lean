/-  What is read: words for the printed texts. -/
import Derived.Test.YtonfmpiikdmndaaGreatFx
namespace Go.Proofs.YtonfmpiikdmndaaGreat.Ev
open Go Go.RowKit Go.ChangeShapes Go.WideShapes Go.ChangeAt
set_option linter.unusedVariables false
set_option linter.unusedSimpArgs false
set_option linter.unnecessarySimpa false
def okI (k : IntKind) (n : Int) : Prop := (Lit.int k n).wf = true
def okS (s : ByteArray) : Prop := s.size ≤ maxLen
section
variable {P : Program} {n : Nat} {t e : TypeId} {l : List PV}
theorem shp_bool (hu : P.underlying t = some .bool) (h : Shp P n t l) : ∃ b, l = [.val (.bool b)] := by
  cases n with
  | zero => exact h.elim
  | succ n => simp only [Shp, hu] at h; exact h
theorem shp_int {k : IntKind} (hu : P.underlying t = some (.int k)) (h : Shp P n t l) : ∃ z, l = [.val (.int k z)] ∧ okI k z := by
  cases n with
  | zero => exact h.elim
  | succ n => simp only [Shp, hu] at h; exact h
theorem shp_str (hu : P.underlying t = some .string) (h : Shp P n t l) : ∃ s, l = [.val (.string s)] ∧ okS s := by
  cases n with
  | zero => exact h.elim
  | succ n => simp only [Shp, hu] at h; exact h
theorem shp_sl (hu : P.underlying t = some (.slice e)) (h : Shp P n t l) : ∃ x : LX, l = [.lst false x] ∧ x.e = e ∧ x.len ≤ maxLen ∧ ∃ m, m < n ∧ ∀ i, i < x.len → Shp P m e (x.row i) := by
  cases n with
  | zero => exact h.elim
  | succ n =>
    simp only [Shp, hu] at h
    obtain ⟨x, h1, h2, h3, h4⟩ := h
    exact ⟨x, h1, h2, h3, n, by omega, h4⟩
theorem shp_st {fs : Array Field} (hu : P.underlying t = some (.struct fs)) (h : Shp P n t l) : ∃ m, m < n ∧ Shps (Shp P m) (fs.toList.map (·.type)) l := by
  cases n with
  | zero => exact h.elim
  | succ n => simp only [Shp, hu] at h; exact ⟨n, by omega, h⟩
theorem shps_cons {S : TypeId → List PV → Prop} {k : Nat} {r : List TypeId} (hw : ∀ l, S t l → l.length = k) (h : Shps S (t :: r) l) : S t (l.take k) ∧ Shps S r (l.drop k) := by
  obtain ⟨a, b, rfl, h1, h2⟩ := h
  have := hw a h1
  rw [List.take_left' this, List.drop_left' this]
  exact ⟨h1, h2⟩
theorem w_int {k : IntKind} (hu : P.underlying t = some (.int k)) (n : Nat) : ∀ l, Shp P n t l → l.length = 1 := fun l h => by obtain ⟨b, rfl, _⟩ := shp_int hu h; rfl
theorem w_str (hu : P.underlying t = some .string) (n : Nat) : ∀ l, Shp P n t l → l.length = 1 := fun l h => by obtain ⟨b, rfl, _⟩ := shp_str hu h; rfl
theorem w_sl (hu : P.underlying t = some (.slice e)) (n : Nat) : ∀ l, Shp P n t l → l.length = 1 := fun l h => by obtain ⟨b, rfl, _⟩ := shp_sl hu h; rfl
theorem ok_int {k : IntKind} (hu : P.underlying t = some (.int k)) {z : Int} (h : Shp P n t [.val (.int k z)]) : okI k z := by
  obtain ⟨z', h1, h2⟩ := shp_int hu h
  injection h1 with h1 _
  injection h1 with h1
  injection h1 with _ h1
  subst h1; exact h2
theorem ok_str (hu : P.underlying t = some .string) {z : ByteArray} (h : Shp P n t [.val (.string z)]) : okS z := by
  obtain ⟨z', h1, h2⟩ := shp_str hu h
  injection h1 with h1 _
  injection h1 with h1
  injection h1 with h1
  subst h1; exact h2
theorem ok_sl (hu : P.underlying t = some (.slice e)) {x : LX} (h : Shp P n t [.lst false x]) : x.len ≤ maxLen ∧ ∃ m, m < n ∧ ∀ i, i < x.len → Shp P m e (x.row i) := by
  obtain ⟨z', h1, h2, h3, h4⟩ := shp_sl hu h
  injection h1 with h1 _
  injection h1 with _ h1
  subst h1; exact ⟨h3, h4⟩
theorem all_rows {α : Type} [Inhabited α] {row : α → List PV} {Q : List PV → Prop} {l : List α} (h : ∀ i, i < l.length → Q (row (l.getD i default))) : ∀ y ∈ l, Q (row y) := by
  intro y hy
  obtain ⟨i, hi, rfl⟩ := List.getElem_of_mem hy
  have := h i hi
  rwa [getD_eq l i hi] at this
theorem list_of {α : Type} [Inhabited α] (row : α → List PV) (m : Nat) (f : Nat → List PV) (h : ∀ i, i < m → ∃ y, f i = row y) : ∃ l : List α, l.length = m ∧ ∀ i, i < m → row (l.getD i default) = f i := by
  induction m generalizing f with
  | zero => exact ⟨[], rfl, fun i hi => by omega⟩
  | succ m ih =>
    obtain ⟨y, hy⟩ := h 0 (by omega)
    obtain ⟨l, h1, h2⟩ := ih (fun i => f (i + 1)) (fun i hi => h (i + 1) (by omega))
    refine ⟨y :: l, by simp [h1], fun i hi => ?_⟩
    cases i with
    | zero => simpa using hy.symm
    | succ i => simpa using h2 i (by omega)
end
end Go.Proofs.YtonfmpiikdmndaaGreat.Ev
