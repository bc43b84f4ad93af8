/-  Literals and append. -/
import Derived.Test.YtflfeikkcpcdiaaEvE
namespace Go.Proofs.Ytflfeikkcpcdiaa.Ev
open Go Go.RowKit
set_option linter.unusedVariables false
set_option linter.unusedSimpArgs false
set_option linter.unnecessarySimpa false

section
variable {P : Program} {w0 w : World} {N M : Mut} {β : Nat → Option Nat} {nt : Nat} {st : St} {a : Act}

/-- cells that read so -/
def RC (w : World) (M : Mut) (l : List PV) (cs : Array Value) : Prop := l.length = cs.size ∧ ∀ (i : Nat) (p : PV) (v : Value), l[i]? = some p → cs[i]? = some v → RelI w M p v ∧ v.oneCell' = true

theorem foldl_set (off : Nat) : ∀ (vs : List Value) (k : Nat) (cells : Array Value), off + k + vs.length ≤ cells.size →
    ((vs.zipIdx k).foldl (fun cs (x : Value × Nat) => cs.setIfInBounds (off + x.2) x.1) cells).size = cells.size ∧
    ∀ i, ((vs.zipIdx k).foldl (fun cs (x : Value × Nat) => cs.setIfInBounds (off + x.2) x.1) cells)[i]? = if off + k ≤ i ∧ i < off + k + vs.length then vs[i - (off + k)]? else cells[i]? := by
  intro vs
  induction vs with
  | nil => intro k cells h; exact ⟨rfl, fun i => by rw [if_neg (by simp only [List.length_nil]; omega)]; rfl⟩
  | cons v vs ih =>
    intro k cells h
    simp only [List.zipIdx_cons, List.foldl_cons]
    obtain ⟨h1, h2⟩ := ih (k + 1) (cells.setIfInBounds (off + k) v) (by simp at h ⊢; omega)
    refine ⟨by rw [h1]; simp, fun i => ?_⟩
    rw [h2 i]
    by_cases h3 : i = off + k
    · rw [if_neg (by omega), if_pos ⟨by omega, by simp; omega⟩]
      subst h3
      have hlt : off + k < cells.size := by simp at h; omega
      simp [hlt]
    · by_cases h4 : off + (k + 1) ≤ i ∧ i < off + (k + 1) + vs.length
      · rw [if_pos h4, if_pos ⟨by omega, by simp; omega⟩]
        rw [show i - (off + k) = (i - (off + (k + 1))) + 1 by omega]
        simp
      · rw [if_neg h4, if_neg (by simp; omega)]
        rw [Array.getElem?_setIfInBounds_ne (by omega)]

theorem zipIdx_foldl (cells vs : Array Value) (off : Nat) : vs.zipIdx.foldl (fun cs (x : Value × Nat) => cs.setIfInBounds (off + x.2) x.1) cells = (vs.toList.zipIdx 0).foldl (fun cs (x : Value × Nat) => cs.setIfInBounds (off + x.2) x.1) cells := by
  rw [← Array.foldl_toList, Array.toList_zipIdx]

theorem fill_one (off : Nat) (vs cells : Array Value) (h : off + vs.size ≤ cells.size) :
    (vs.zipIdx.foldl (fun cs (x : Value × Nat) => cs.setIfInBounds (off + x.2) x.1) cells).size = cells.size ∧
    ∀ i, (vs.zipIdx.foldl (fun cs (x : Value × Nat) => cs.setIfInBounds (off + x.2) x.1) cells)[i]? = if off ≤ i ∧ i < off + vs.size then vs[i - off]? else cells[i]? := by
  rw [zipIdx_foldl]
  obtain ⟨h1, h2⟩ := foldl_set off vs.toList 0 cells (by simpa using h)
  exact ⟨h1, fun i => by simpa using h2 i⟩

theorem fill_sound (h : SR w0 N nt st a w M β) (fs : List (Nat × Nat)) : ∀ (ps : List (Nat × Operand)) (qs : List (Nat × Nat × Operand)) (l : List PV) (cs : Array Value) (k : List PV → Prop),
    partsT fs ps = some qs → RC w M l cs → fillN st l qs k →
    ∃ l' cs', Instr.fill (fs[·]?) cs (ps.map fun p => (p.1, a.eval p.2)) = some cs' ∧ RC w M l' cs' ∧ l'.length = l.length ∧ k l' := by
  intro ps
  induction ps with
  | nil =>
    intro qs l cs k hq hr hf
    simp [partsT] at hq
    subst hq
    exact ⟨l, cs, rfl, hr, rfl, hf⟩
  | cons p ps ih =>
    obtain ⟨i, x⟩ := p
    intro qs l cs k hq hr hf
    simp only [partsT] at hq
    cases hi : fs[i]? with
    | none => rw [hi] at hq; cases hq
    | some os =>
      obtain ⟨off, sz⟩ := os
      cases hp : partsT fs ps with
      | none => rw [hi, hp] at hq; cases hq
      | some rest =>
        rw [hi, hp] at hq
        injection hq with hq
        subst hq
        simp only [fillN] at hf
        cases g1 : lenIs (st.opd x).cells sz <;> cases g2 : ones (st.opd x).cells <;> cases g3 : lenGe l (off + sz) <;> simp only [g1, g2, g3] at hf <;> try exact hf.elim
        obtain ⟨c1, c2⟩ := cells_of (h.opd x) g2
        have e1 : (st.opd x).cells.length = sz := (lenIs_iff _ _).1 g1
        have e2 : off + sz ≤ l.length := (lenGe_iff _ _).1 g3
        have e3 : (a.eval x).cells.size = sz := by rw [← e1, ← c1]; simp
        obtain ⟨f1, f2⟩ := fill_one off (a.eval x).cells cs (by rw [e3, ← hr.1]; exact e2)
        have hrc : RC w M (setN l off (st.opd x).cells) ((a.eval x).cells.zipIdx.foldl (fun cs (x : Value × Nat) => cs.setIfInBounds (off + x.2) x.1) cs) := by
          refine ⟨by rw [setN_length, f1, hr.1], fun j q u hj hu => ?_⟩
          rw [setN_get _ _ _ _ (by omega)] at hj
          rw [f2] at hu
          by_cases hc : off ≤ j ∧ j < off + (st.opd x).cells.length
          · rw [if_pos hc] at hj
            rw [if_pos ⟨hc.1, by omega⟩] at hu
            exact c2 _ q u hj (by simpa using hu)
          · rw [if_neg hc] at hj
            rw [if_neg (by omega)] at hu
            exact hr.2 j q u hj hu
        obtain ⟨l', cs', r1, r2, r3, r4⟩ := ih rest _ _ k hp hrc hf
        refine ⟨l', cs', ?_, r2, by rw [r3, setN_length], r4⟩
        simp only [List.map_cons, Instr.fill, hi]
        rw [if_neg (by rw [e3, ← hr.1]; simp; omega)]
        exact r1

theorem zero_RC (z : List Value) (h : ones (z.map .val) = true) : RC w M (z.map .val) z.toArray := by
  refine ⟨by simp, fun i p v hp hv => ?_⟩
  have hv' : z[i]? = some v := by simpa using hv
  rw [List.getElem?_map, hv'] at hp
  simp at hp
  subst hp
  have := ones_get h i (.val v) (by rw [List.getElem?_map, hv']; rfl)
  have h2 : v.oneCell' = true := by rw [← oneV_eq]; exact this
  exact ⟨.val v h2, h2⟩

/-- elements, all written -/
theorem elems_sound (h : SR w0 N nt st a w M β) (sz : Nat) : ∀ (ps : List (Nat × Operand)) (i0 : Nat) (xs : List Operand) (k : List (List PV) → Prop) (cs : Array Value),
    denseT i0 ps = some xs → elems st sz xs k → (i0 + xs.length) * sz ≤ cs.size →
    ∃ es cs', Instr.fill (fun i => some (i * sz, sz)) cs (ps.map fun p => (p.1, a.eval p.2)) = some cs' ∧ cs'.size = cs.size ∧ es.length = xs.length ∧
      (∀ j, j < i0 * sz → cs'[j]? = cs[j]?) ∧ (∀ (i : Nat) (x : List PV), es[i]? = some x → x.length = sz) ∧
      (∀ (i : Nat) (x : List PV) (j : Nat) (p : PV), es[i]? = some x → x[j]? = some p → ∃ v, cs'[(i0 + i) * sz + j]? = some v ∧ RelI w M p v ∧ v.oneCell' = true) ∧ k es := by
  intro ps
  induction ps with
  | nil =>
    intro i0 xs k cs hd hf hs
    simp [denseT] at hd
    subst hd
    exact ⟨[], cs, rfl, rfl, rfl, fun _ _ => rfl, fun i x hx => by simp at hx, fun i x j p hx => by simp at hx, hf⟩
  | cons p ps ih =>
    obtain ⟨j0, x⟩ := p
    intro i0 xs k cs hd hf hs
    simp only [denseT] at hd
    cases hj : Nat.beq i0 j0 with
    | false => rw [hj] at hd; cases hd
    | true =>
      have hj' := Nat.eq_of_beq_eq_true hj
      subst hj'
      cases hr : denseT (i0 + 1) ps with
      | none => rw [hj, hr] at hd; cases hd
      | some ys =>
        rw [hj, hr] at hd
        injection hd with hd
        subst hd
        simp only [elems] at hf
        cases g1 : lenIs (st.opd x).cells sz <;> cases g2 : ones (st.opd x).cells <;> simp only [g1, g2] at hf <;> try exact hf.elim
        obtain ⟨c1, c2⟩ := cells_of (h.opd x) g2
        have e1 : (st.opd x).cells.length = sz := (lenIs_iff _ _).1 g1
        have e3 : (a.eval x).cells.size = sz := by rw [← e1, ← c1]; simp
        have hmul : (i0 + (x :: ys).length) * sz = i0 * sz + sz + ys.length * sz := by simp only [List.length_cons, Nat.add_mul, Nat.one_mul]; omega
        have hfit : i0 * sz + (a.eval x).cells.size ≤ cs.size := by omega
        obtain ⟨f1, f2⟩ := fill_one (i0 * sz) (a.eval x).cells cs hfit
        obtain ⟨es, cs', r1, r2, r3, r4, r5, r6, r7⟩ := ih (i0 + 1) ys (fun l => k ((st.opd x).cells :: l)) _ hr hf (by
          rw [f1]; rw [hmul] at hs; simp only [Nat.add_mul, Nat.one_mul]; omega)
        refine ⟨(st.opd x).cells :: es, cs', ?_, by rw [r2, f1], by simp [r3], ?_, ?_, ?_, r7⟩
        · simp only [List.map_cons, Instr.fill]
          rw [if_neg (by rw [e3]; simp; omega)]
          exact r1
        · intro j hjl
          rw [r4 j (by simp only [Nat.add_mul, Nat.one_mul]; omega), f2, if_neg (by omega)]
        · intro i y hy
          cases i with
          | zero => simp at hy; subst hy; exact e1
          | succ i => exact r5 i y (by simpa using hy)
        · intro i y j p hy hp
          cases i with
          | zero =>
            simp at hy
            subst hy
            have hjl : j < sz := by have := (List.getElem?_eq_some_iff.1 hp).1; omega
            have hv : (a.eval x).cells[j]? = some ((a.eval x).cells[j]'(by omega)) := Array.getElem?_eq_getElem (by omega)
            refine ⟨_, ?_, c2 j p _ hp (by rw [Array.getElem?_toList]; exact hv)⟩
            rw [Nat.add_zero, r4 _ (by simp only [Nat.add_mul, Nat.one_mul]; omega), f2, if_pos ⟨by omega, by omega⟩, show i0 * sz + j - i0 * sz = j by omega]
            exact hv
          | succ i =>
            obtain ⟨v, q1, q2⟩ := r6 i y j p (by simpa using hy) hp
            exact ⟨v, by rw [show (i0 + (i + 1)) = (i0 + 1 + i) by omega]; exact q1, q2⟩

theorem add_lit (g k : Nat) : (⟨g, 0, none⟩ : Addr).add k = ⟨g, k, none⟩ := by unfold Addr.add; split <;> simp_all

/-- a row, read as a slice -/
theorem RelI_row {g c : Nat} {es : List (List PV)} {own : Bool} {e sz : Nat} {cs : Array Value} {t : Nat} (hh : w.heap[g]? = some (.cells cs t (0, 0))) (hc : es.length ≤ c)
    (hsz : ∀ (i : Nat) (x : List PV), es[i]? = some x → x.length = sz) (hM : ∀ i, i < es.length * sz → imm M ⟨g, i, none⟩)
    (hr : ∀ (i : Nat) (x : List PV) (j : Nat) (p : PV), es[i]? = some x → x[j]? = some p → ∃ v, cs[i * sz + j]? = some v ∧ RelI w M p v ∧ v.oneCell' = true) :
    RelI w M (.sl own e sz es) (.slice (some ⟨g, 0, none⟩) es.length c) := by
  refine .sl own e sz es _ c (fun i j => (cs[i * sz + j]?).getD undef) hc hsz (fun i x _ => ⟨_, rfl⟩) ?_ ?_
  · intro ad i x j p had hx hp
    injection had with had
    subst had
    obtain ⟨v, h1, h2, h3⟩ := hr i x j p hx hp
    have hi : i < es.length := (List.getElem?_eq_some_iff.1 hx).1
    have hj : j < sz := by have := (List.getElem?_eq_some_iff.1 hp).1; have := hsz i x hx; omega
    have hm : (i + 1) * sz ≤ es.length * sz := Nat.mul_le_mul_right _ hi
    rw [Nat.add_mul, Nat.one_mul] at hm
    rw [add_lit]
    refine ⟨hM _ (by omega), ?_, by rw [h1]; exact h3⟩
    rw [World.cell?, hh, h1]
    exact h1
  · intro i x j p hx hp
    obtain ⟨v, h1, h2, h3⟩ := hr i x j p hx hp
    rw [h1]; exact h2

end
end Go.Proofs.Ytflfeikkcpcdiaa.Ev
