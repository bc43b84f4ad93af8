/-  What the evaluator's data say of memory: the relation, and that it is kept. -/
import Derived.Test.YtflfeikkcpcdiaaEvA
namespace Go.Proofs.Ytflfeikkcpcdiaa.Ev
open Go Go.RowKit
set_option linter.unusedVariables false
set_option linter.unusedSimpArgs false
set_option linter.unnecessarySimpa false

/-- from which cell on may a block still be written? -/
abbrev Mut := Nat → Option Nat
def imm (M : Mut) (a : Addr) : Prop := ∀ n, M a.block = some n → a.off < n

inductive RelI (w : World) (M : Mut) : PV → Value → Prop
  | any (v : Value) : RelI w M .any v
  | val (v : Value) (h : v.oneCell' = true) : RelI w M (.val v) v
  | agg (l : List PV) (cs : List Value) (hl : l.length = cs.length) (h1 : ∀ v ∈ cs, v.oneCell' = true)
      (hr : ∀ (i : Nat) (p : PV) (v : Value), l[i]? = some p → cs[i]? = some v → RelI w M p v) : RelI w M (.agg l) (.agg cs.toArray)
  | tup (l : List PV) (cs : List Value) (hl : l.length = cs.length)
      (hr : ∀ (i : Nat) (p : PV) (v : Value), l[i]? = some p → cs[i]? = some v → RelI w M p v) : RelI w M (.tup l) (.tuple cs.toArray)
  | sl (own : Bool) (e sz : Nat) (es : List (List PV)) (a : Option Addr) (c : Nat) (vs : Nat → Nat → Value)
      (hc : es.length ≤ c) (hsz : ∀ (i : Nat) (x : List PV), es[i]? = some x → x.length = sz) (ha : ∀ (i : Nat) (x : List PV), es[i]? = some x → ∃ ad, a = some ad)
      (hm : ∀ (ad : Addr) (i : Nat) (x : List PV) (j : Nat) (p : PV), a = some ad → es[i]? = some x → x[j]? = some p → imm M (ad.add (i * sz + j)) ∧ w.cell? (ad.add (i * sz + j)) = some (vs i j) ∧ (vs i j).oneCell' = true)
      (hr : ∀ (i : Nat) (x : List PV) (j : Nat) (p : PV), es[i]? = some x → x[j]? = some p → RelI w M p (vs i j)) : RelI w M (.sl own e sz es) (.slice a es.length c)
  | arr (e sz n : Nat) (f : Nat → List PV) (a : Option Addr) (c : Nat) (vs : Nat → Nat → Value)
      (hc : n ≤ c) (hsz : ∀ (i : Nat), i < n → (f i).length = sz) (ha : ∀ (i : Nat), i < n → ∃ ad, a = some ad)
      (hm : ∀ (ad : Addr) (i : Nat) (j : Nat) (p : PV), a = some ad → i < n → (f i)[j]? = some p → imm M (ad.add (i * sz + j)) ∧ w.cell? (ad.add (i * sz + j)) = some (vs i j) ∧ (vs i j).oneCell' = true)
      (hr : ∀ (i : Nat) (j : Nat) (p : PV), i < n → (f i)[j]? = some p → RelI w M p (vs i j)) : RelI w M (.arr e sz n f) (.slice a n c)

/-- 'w'' keeps what 'M' calls immutable, and 'M'' calls it so, too. -/
def Ext (w : World) (M : Mut) (w' : World) (M' : Mut) : Prop := ∀ a v, imm M a → w.cell? a = some v → imm M' a ∧ w'.cell? a = some v

theorem Ext.refl (w : World) (M : Mut) : Ext w M w M := fun _ _ h h' => ⟨h, h'⟩
theorem Ext.trans {w w' w'' : World} {M M' M'' : Mut} (h : Ext w M w' M') (h' : Ext w' M' w'' M'') : Ext w M w'' M'' :=
  fun a v hi hc => let ⟨h1, h2⟩ := h a v hi hc; h' a v h1 h2

theorem RelI.ext {w w' : World} {M M' : Mut} (h : Ext w M w' M') {p : PV} {v : Value} (hr : RelI w M p v) : RelI w' M' p v := by
  induction hr with
  | any v => exact .any v
  | val v h => exact .val v h
  | agg l cs hl h1 _ ih => exact .agg l cs hl h1 ih
  | tup l cs hl _ ih => exact .tup l cs hl ih
  | sl own e sz es a c vs hc hsz ha hm _ ih =>
    exact .sl own e sz es a c vs hc hsz ha (fun ad i x j p h1 h2 h3 => let ⟨g1, g2, g3⟩ := hm ad i x j p h1 h2 h3; let ⟨k1, k2⟩ := h _ _ g1 g2; ⟨k1, k2, g3⟩) ih
  | arr e sz n f a c vs hc hsz ha hm _ ih =>
    exact .arr e sz n f a c vs hc hsz ha (fun ad i j p h1 h2 h3 => let ⟨g1, g2, g3⟩ := hm ad i j p h1 h2 h3; let ⟨k1, k2⟩ := h _ _ g1 g2; ⟨k1, k2, g3⟩) ih

theorem RelI.view {w : World} {M : Mut} {p : PV} {v : Value} (h : RelI w M p v) : RelI w M p.view v := by
  cases h with
  | sl own e sz es a c vs hc hsz ha hm hr => exact .sl false e sz es a c vs hc hsz ha hm hr
  | arr e sz n f a c vs hc hsz ha hm hr => exact .arr e sz n f a c vs hc hsz ha hm hr
  | any v => exact .any v
  | val v h => exact .val v h
  | agg l cs hl h1 hr => exact .agg l cs hl h1 hr
  | tup l cs hl hr => exact .tup l cs hl hr

theorem oneV_eq (v : Value) : oneV v = v.oneCell' := by cases v <;> rfl

theorem RelI.one {w : World} {M : Mut} {p : PV} {v : Value} (h : RelI w M p v) (h1 : p.one = true) : v.oneCell' = true := by
  cases h with
  | any => simp [PV.one] at h1
  | val v h => exact h
  | agg => simp [PV.one] at h1
  | tup => simp [PV.one] at h1
  | sl => rfl
  | arr => rfl

inductive RelT (w : World) (M : Mut) (β : Nat → Option Nat) (B : Nat) : PV → Value → Prop
  | imm (p : PV) (v : Value) (h : RelI w M p v) : RelT w M β B p v
  | loc (d off b : Nat) (h : β d = some b) : RelT w M β B (.loc d off) (.pointer (some ⟨b, off, none⟩))
  | ref (l : List PV) (ad : Addr) (vs : Nat → Value) (hm : ∀ (i : Nat) (p : PV), l[i]? = some p → (ad.block < B ∨ Ev.imm M (ad.add i)) ∧ w.cell? (ad.add i) = some (vs i) ∧ (vs i).oneCell' = true)
      (hr : ∀ (i : Nat) (p : PV), l[i]? = some p → RelI w M p (vs i)) : RelT w M β B (.ref l) (.pointer (some ad))

theorem block_add (a : Addr) (n : Nat) : (a.add n).block = a.block := by unfold Addr.add; split <;> rfl
theorem add_add (a : Addr) (i j : Nat) : (a.add i).add j = a.add (i + j) := by
  unfold Addr.add
  by_cases hi : i = 0 <;> by_cases hj : j = 0 <;> simp [hi, hj, Nat.add_assoc]

theorem RelT.ext {w w' : World} {M M' : Mut} {β : Nat → Option Nat} {B : Nat} (h : Ext w M w' M') (hB : ∀ a, a.block < B → w'.cell? a = w.cell? a)
    {p : PV} {v : Value} (hr : RelT w M β B p v) : RelT w' M' β B p v := by
  cases hr with
  | imm p v h' => exact .imm p v (h'.ext h)
  | loc d off b h' => exact .loc d off b h'
  | ref l ad vs hm hr =>
    refine .ref l ad vs (fun i p hp => ?_) (fun i p hp => (hr i p hp).ext h)
    obtain ⟨g1, g2, g3⟩ := hm i p hp
    rcases g1 with g1 | g1
    · exact ⟨.inl g1, by rw [hB _ (by rw [block_add]; exact g1)]; exact g2, g3⟩
    · obtain ⟨k1, k2⟩ := h _ _ g1 g2
      exact ⟨.inr k1, k2, g3⟩

theorem RelT.mono {w : World} {M : Mut} {β β' : Nat → Option Nat} {B : Nat} (h : ∀ d b, β d = some b → β' d = some b) {p : PV} {v : Value} (hr : RelT w M β B p v) : RelT w M β' B p v := by
  cases hr with
  | imm p v h' => exact .imm p v h'
  | loc d off b h' => exact .loc d off b (h _ _ h')
  | ref l ad vs hm hr => exact .ref l ad vs hm hr

theorem RelT.view {w : World} {M : Mut} {β : Nat → Option Nat} {B : Nat} {p : PV} {v : Value} (h : RelT w M β B p v) : RelT w M β B p.view v := by
  cases h with
  | imm p v h => exact .imm _ _ h.view
  | loc d off b h => exact .loc d off b h
  | ref l ad vs hm hr => exact .ref l ad vs hm hr

/-- What is handed to a callee. -/
def RelA (w : World) (N : Mut) (p : PV) (v : Value) : Prop := RelT w N (fun _ => none) w.heap.size p v

/-- An owned row: it may still be appended to. -/
def TokOK (w : World) (M : Mut) (B e sz : Nat) (es : List (List PV)) (v : Value) : Prop :=
  (v = .slice none 0 0 ∧ es = []) ∨
  ∃ g c cur, v = .slice (some ⟨g, 0, none⟩) es.length c ∧ B ≤ g ∧ M g = some (es.length * sz) ∧ w.heap[g]? = some (.cells cur e (0, 0)) ∧ es.length ≤ c ∧ c ≤ maxLen ∧ cur.size = c * sz

structure SR (w0 : World) (N : Mut) (nt : Nat) (st : St) (a : Act) (w : World) (M : Mut) (β : Nat → Option Nat) : Prop where
  defs : a.defers = []
  nt : a.tmps.size = nt
  bel : Below w0.heap.size w0 w
  mN : ∀ b, b < w0.heap.size → M b = N b
  mlt : ∀ b n, M b = some n → b < w.heap.size
  box : ∀ d b, β d = some b → w0.heap.size ≤ b ∧ M b = some 0 ∧ ∃ cs t, w.heap[b]? = some (.cells cs t (0, 0)) ∧ cs.size = (st.obj d).length ∧
    ∀ (i : Nat) (p : PV) (v : Value), (st.obj d)[i]? = some p → cs[i]? = some v → RelI w M p v ∧ v.oneCell' = true
  inj : ∀ d d' b, β d = some b → β d' = some b → d = d'
  dom : ∀ d, notIn d (st.ob.map Prod.fst) = true → β d = none
  reg : ∀ s, RelT w M β w0.heap.size (st.get s) (a.tmps.getD s undef)
  tok : ∀ s e sz es, st.get s = .sl true e sz es → TokOK w M w0.heap.size e sz es (a.tmps.getD s undef)
  tokne : ∀ s s' e sz es e' sz' es' g, st.get s = .sl true e sz es → st.get s' = .sl true e' sz' es' → s ≠ s' →
    (a.tmps.getD s undef).ownBlock = some g → (a.tmps.getD s' undef).ownBlock ≠ some g
  tokbox : ∀ s e sz es g d, st.get s = .sl true e sz es → (a.tmps.getD s undef).ownBlock = some g → β d ≠ some g

theorem look_append {α : Type} (d : α) (l r : List (Nat × α)) (s : Nat) : look d (l ++ r) s = match l.find? (fun x => Nat.beq x.1 s) with
    | some x => x.2
    | none => look d r s := by
  induction l with
  | nil => rfl
  | cons x l ih =>
    obtain ⟨a, y⟩ := x
    simp only [List.cons_append, look, List.find?_cons]
    cases h : Nat.beq a s <;> simp [ih]

theorem look_one {α : Type} (d x : α) (r : List (Nat × α)) (a s : Nat) : look d ((a, x) :: r) s = if a = s then x else look d r s := by
  by_cases h : a = s
  · subst h; simp [look]
  · have : Nat.beq a s = false := by
      cases hb : Nat.beq a s
      · rfl
      · exact absurd (Nat.eq_of_beq_eq_true hb) h
    simp [look, this, h]

theorem get_cons (st : St) (a s : Nat) (p : PV) : St.get { st with fr := (a, p) :: st.fr } s = if a = s then p else st.get s := look_one _ _ _ _ _
theorem obj_cons (st : St) (a d : Nat) (p : List PV) : St.obj { st with ob := (a, p) :: st.ob } d = if a = d then p else st.obj d := look_one _ _ _ _ _

theorem notIn_iff (d : Nat) (l : List Nat) : notIn d l = true ↔ d ∉ l := by
  induction l with
  | nil => simp [notIn]
  | cons a l ih =>
    by_cases h : a = d
    · subst h; simp [notIn]
    · have : Nat.beq a d = false := by
        cases hb : Nat.beq a d
        · rfl
        · exact absurd (Nat.eq_of_beq_eq_true hb) h
      have h' : d ≠ a := fun e => h e.symm
      simp [notIn, this, ih, h']

theorem getD_put (a : Act) (d s : Nat) (v : Value) (hd : d < a.tmps.size) : (a.put (some d) v).tmps.getD s undef = if d = s then v else a.tmps.getD s undef := by
  simp only [Act.put, Array.getD_eq_getD_getElem?, Array.getElem?_setIfInBounds]
  by_cases h : d = s
  · subst h; simp [hd]
  · simp [h]

end Go.Proofs.Ytflfeikkcpcdiaa.Ev
