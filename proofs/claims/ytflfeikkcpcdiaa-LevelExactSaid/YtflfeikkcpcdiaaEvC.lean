/-  The relation is kept: a slot is written; the world grows; a variable is made; a variable is written; a row is made, handed on, appended to. -/
import Derived.Test.YtflfeikkcpcdiaaEvB
namespace Go.Proofs.Ytflfeikkcpcdiaa.Ev
open Go Go.RowKit
set_option linter.unusedVariables false
set_option linter.unusedSimpArgs false
set_option linter.unnecessarySimpa false

section
variable {w0 w w' : World} {N M : Mut} {β : Nat → Option Nat} {nt : Nat} {st : St} {a : Act}

theorem app_get_one (d s : Nat) (p : PV) : (st.app ⟨[(d, p)], []⟩).get s = if d = s then p else st.get s := look_one _ _ _ _ _
theorem app_get_two (d s t : Nat) (p q : PV) : (st.app ⟨[(d, p), (s, q)], []⟩).get t = if d = t then p else if s = t then q else st.get t := by
  show look _ ((d, p) :: (s, q) :: st.fr) t = _
  rw [look_one, look_one]; rfl
theorem app_get_none (o : List (Nat × List PV)) (t : Nat) : (st.app ⟨[], o⟩).get t = st.get t := rfl
theorem app_obj_none (s : List (Nat × PV)) (t : Nat) : (st.app ⟨s, []⟩).obj t = st.obj t := rfl
theorem app_obj_one (s : List (Nat × PV)) (d : Nat) (l : List PV) (t : Nat) : (st.app ⟨s, [(d, l)]⟩).obj t = if d = t then l else st.obj t := look_one _ _ _ _ _

theorem SR.put (h : SR w0 N nt st a w M β) (d : Nat) (p : PV) (v : Value) (hd : d < nt) (hr : RelT w M β w0.heap.size p v) (hn : ∀ e sz es, p ≠ .sl true e sz es) :
    SR w0 N nt (st.app ⟨[(d, p)], []⟩) (a.put (some d) v) w M β := by
  have hds : d < a.tmps.size := by rw [h.nt]; exact hd
  refine ⟨h.defs, by simp [Act.put, h.nt], h.bel, h.mN, h.mlt, ?_, h.inj, h.dom, ?_, ?_, ?_, ?_⟩
  · intro d' b hb; rw [app_obj_none]; exact h.box d' b hb
  · intro s
    rw [app_get_one, getD_put a d s v hds]
    by_cases e : d = s
    · simp only [e, if_true]; exact hr
    · simp only [e, if_false]; exact h.reg s
  · intro s e sz es hs
    rw [app_get_one] at hs
    rw [getD_put a d s v hds]
    by_cases e' : d = s
    · simp only [e', if_true] at hs; exact absurd hs (hn _ _ _)
    · simp only [e', if_false] at hs ⊢; exact h.tok s _ _ _ hs
  · intro s s' e sz es e' sz' es' g hs hs' hne ho
    rw [app_get_one] at hs hs'
    rw [getD_put a d s v hds] at ho
    rw [getD_put a d s' v hds]
    by_cases e1 : d = s
    · simp only [e1, if_true] at hs; exact absurd hs (hn _ _ _)
    · by_cases e2 : d = s'
      · simp only [e2, if_true] at hs'; exact absurd hs' (hn _ _ _)
      · simp only [e1, e2, if_false] at hs hs' ho ⊢
        exact h.tokne s s' _ _ _ _ _ _ g hs hs' hne ho
  · intro s e sz es g d' hs ho
    rw [app_get_one] at hs
    rw [getD_put a d s v hds] at ho
    by_cases e1 : d = s
    · simp only [e1, if_true] at hs; exact absurd hs (hn _ _ _)
    · simp only [e1, if_false] at hs ho
      exact h.tokbox s _ _ _ g d' hs ho

theorem view_not_tok (p : PV) : ∀ e sz es, p.view ≠ .sl true e sz es := by
  intro e sz es h
  cases p <;> simp [PV.view] at h

theorem SR.dput (h : SR w0 N nt st a w M β) (d : Option Nat) (p : PV) (v : Value) (hd : ∀ x, d = some x → x < nt) (hr : RelT w M β w0.heap.size p v) (hn : ∀ e sz es, p ≠ .sl true e sz es) :
    SR w0 N nt (st.app (dput d p)) (a.put d v) w M β := by
  cases d with
  | none => exact h
  | some x => exact h.put x p v (hd x rfl) hr hn

/-- The world changes where nothing is immutable and below nothing of ours; the blocks of our variables and rows are as they were. -/
theorem SR.world (h : SR w0 N nt st a w M β) (hb : Below w.heap.size w w') : SR w0 N nt st a w' M β := by
  have hlt : ∀ (x : Addr) v, w.cell? x = some v → x.block < w.heap.size := by
    intro x v hx
    unfold World.cell? at hx
    rcases Nat.lt_or_ge x.block w.heap.size with h1 | h1
    · exact h1
    · rw [Array.getElem?_eq_none h1] at hx; simp at hx
  have hE : Ext w M w' M := fun x v hi hc => ⟨hi, by rw [hb.cell (hlt x v hc)]; exact hc⟩
  have hle : w0.heap.size ≤ w.heap.size := h.bel.size
  refine ⟨h.defs, h.nt, h.bel.trans (hb.mono hle), h.mN, fun b n hn => Nat.lt_of_lt_of_le (h.mlt b n hn) hb.size, ?_, h.inj, h.dom, fun s => (h.reg s).ext hE (fun x hx => hb.cell (by omega)), ?_, h.tokne, h.tokbox⟩
  · intro d b hd
    obtain ⟨h1, h2, cs, t, h3, h4, h5⟩ := h.box d b hd
    exact ⟨h1, h2, cs, t, by rw [hb.block b (h.mlt b 0 h2)]; exact h3, h4, fun i p v hp hv => ⟨(h5 i p v hp hv).1.ext hE, (h5 i p v hp hv).2⟩⟩
  · intro s e sz es hs
    rcases h.tok s e sz es hs with h1 | ⟨g, c, cur, h1, h2, h3, h4, h5⟩
    · exact .inl h1
    · exact .inr ⟨g, c, cur, h1, h2, h3, by rw [hb.block g (h.mlt g _ h3)]; exact h4, h5⟩

theorem SR.drawn (h : SR w0 N nt st a w M β) : SR w0 N nt st a { w with drawn := w.drawn + 1 } M β :=
  h.world ⟨rfl, rfl, rfl, Nat.le_refl _, fun _ _ => rfl⟩

theorem cell_alloc_old (w : World) (o : Obj) {x : Addr} {v : Value} (h : w.cell? x = some v) : (w.alloc o).cell? x = some v := by
  have hlt : x.block < w.heap.size := by
    unfold World.cell? at h
    rcases Nat.lt_or_ge x.block w.heap.size with h1 | h1
    · exact h1
    · rw [Array.getElem?_eq_none h1] at h; simp at h
  rw [World.cell?_of_block (w := w) (Below.heap_alloc w o x.block hlt)]; exact h

/-- A variable is made. -/
theorem SR.alloc (h : SR w0 N nt st a w M β) (d : Nat) (l : List PV) (cs : Array Value) (t : TypeId) (hd : d < nt) (hnew : notIn d (st.ob.map Prod.fst) = true)
    (hlen : cs.size = l.length) (hr : ∀ (i : Nat) (p : PV) (v : Value), l[i]? = some p → cs[i]? = some v → RelI w M p v ∧ v.oneCell' = true) :
    ∃ M' β', SR w0 N nt (st.app ⟨[(d, .loc d 0)], [(d, l)]⟩) (a.put (some d) (.pointer (some ⟨w.heap.size, 0, none⟩))) (w.alloc (.cells cs t)) M' β' := by
  have hβ : β d = none := h.dom d hnew
  let M' : Mut := fun b => if b = w.heap.size then some 0 else M b
  let β' : Nat → Option Nat := fun x => if x = d then some w.heap.size else β x
  have hMw : M w.heap.size = none := by
    cases hm : M w.heap.size with
    | none => rfl
    | some n => exact absurd (h.mlt _ _ hm) (by omega)
  have hlt : ∀ (x : Addr) v, w.cell? x = some v → x.block < w.heap.size := by
    intro x v hx
    unfold World.cell? at hx
    rcases Nat.lt_or_ge x.block w.heap.size with h1 | h1
    · exact h1
    · rw [Array.getElem?_eq_none h1] at hx; simp at hx
  have hE : Ext w M (w.alloc (.cells cs t)) M' := fun x v hi hc => by
    have hx := hlt x v hc
    refine ⟨fun n hn => hi n ?_, cell_alloc_old w _ hc⟩
    simp only [M'] at hn
    rw [if_neg (by omega)] at hn
    exact hn
  have hle : w0.heap.size ≤ w.heap.size := h.bel.size
  have hds : d < a.tmps.size := by rw [h.nt]; exact hd
  have hβb : ∀ x b, β x = some b → b < w.heap.size := fun x b hb => h.mlt b 0 (h.box x b hb).2.1
  have hmono : ∀ x b, β x = some b → β' x = some b := fun x b hb => by
    simp only [β']
    by_cases e : x = d
    · subst e; rw [hβ] at hb; cases hb
    · rw [if_neg e]; exact hb
  have hB : ∀ x : Addr, x.block < w0.heap.size → (w.alloc (.cells cs t)).cell? x = w.cell? x := fun x hx =>
    World.cell?_of_block (w := w) (Below.heap_alloc w _ x.block (by omega))
  refine ⟨M', β', h.defs, by simp [Act.put, h.nt], h.bel.alloc hle _, ?_, ?_, ?_, ?_, ?_, ?_, ?_, ?_, ?_⟩
  · intro b hb
    simp only [M']
    rw [if_neg (by omega)]
    exact h.mN b hb
  · intro b n hn
    simp only [M'] at hn
    by_cases e : b = w.heap.size
    · subst e; simp
    · rw [if_neg e] at hn; have := h.mlt b n hn; simp; omega
  · intro x b hb
    simp only [β'] at hb
    rw [app_obj_one]
    by_cases e : x = d
    · subst e
      simp only [if_true] at hb ⊢
      injection hb with hb
      subst hb
      exact ⟨hle, by simp [M'], cs, t, heap_alloc_new w _, hlen, fun i p v hp hv => ⟨(hr i p v hp hv).1.ext hE, (hr i p v hp hv).2⟩⟩
    · rw [if_neg e] at hb
      rw [if_neg (fun e' => e e'.symm)]
      obtain ⟨h1, h2, cs', t', h3, h4, h5⟩ := h.box x b hb
      have hbl := h.mlt b 0 h2
      refine ⟨h1, by simp only [M']; rw [if_neg (by omega)]; exact h2, cs', t', by rw [Below.heap_alloc w _ b hbl]; exact h3, h4, fun i p v hp hv => ⟨(h5 i p v hp hv).1.ext hE, (h5 i p v hp hv).2⟩⟩
  · intro x y b hx hy
    simp only [β'] at hx hy
    by_cases e1 : x = d <;> by_cases e2 : y = d
    · rw [e1, e2]
    · rw [if_pos e1] at hx; rw [if_neg e2] at hy
      injection hx with hx
      have := hβb y b hy
      omega
    · rw [if_neg e1] at hx; rw [if_pos e2] at hy
      injection hy with hy
      have := hβb x b hx
      omega
    · rw [if_neg e1] at hx; rw [if_neg e2] at hy
      exact h.inj x y b hx hy
  · intro x hx
    simp only [β']
    have hx' : x ∉ d :: st.ob.map Prod.fst := by rw [notIn_iff] at hx; exact hx
    rw [if_neg (fun e => hx' (by simp [e]))]
    exact h.dom x (by rw [notIn_iff]; intro hm; exact hx' (List.mem_cons_of_mem _ hm))
  · intro s
    have : (st.app ⟨[(d, .loc d 0)], [(d, l)]⟩).get s = if d = s then .loc d 0 else st.get s := look_one _ _ _ _ _
    rw [this, getD_put a d s _ hds]
    by_cases e : d = s
    · simp only [e, if_true]
      exact .loc s 0 w.heap.size (by simp [β', e])
    · simp only [e, if_false]
      exact ((h.reg s).ext hE hB).mono hmono
  · intro s e sz es hs
    have : (st.app ⟨[(d, .loc d 0)], [(d, l)]⟩).get s = if d = s then .loc d 0 else st.get s := look_one _ _ _ _ _
    rw [this] at hs
    rw [getD_put a d s _ hds]
    by_cases e' : d = s
    · simp [e'] at hs
    · simp only [e', if_false] at hs ⊢
      rcases h.tok s e sz es hs with h1 | ⟨g, c, cur, h1, h2, h3, h4, h5⟩
      · exact .inl h1
      · have hg := h.mlt g _ h3
        exact .inr ⟨g, c, cur, h1, h2, by simp only [M']; rw [if_neg (by omega)]; exact h3, by rw [Below.heap_alloc w _ g hg]; exact h4, h5⟩
  · intro s s' e sz es e' sz' es' g hs hs' hne ho
    have hh : ∀ s, (st.app ⟨[(d, .loc d 0)], [(d, l)]⟩).get s = if d = s then .loc d 0 else st.get s := fun s => look_one _ _ _ _ _
    rw [hh] at hs hs'
    rw [getD_put a d s _ hds] at ho
    rw [getD_put a d s' _ hds]
    by_cases e1 : d = s
    · simp [e1] at hs
    · by_cases e2 : d = s'
      · simp [e2] at hs'
      · simp only [e1, e2, if_false] at hs hs' ho ⊢
        exact h.tokne s s' _ _ _ _ _ _ g hs hs' hne ho
  · intro s e sz es g x hs ho
    have hh : ∀ s, (st.app ⟨[(d, .loc d 0)], [(d, l)]⟩).get s = if d = s then .loc d 0 else st.get s := fun s => look_one _ _ _ _ _
    rw [hh] at hs
    rw [getD_put a d s _ hds] at ho
    by_cases e1 : d = s
    · simp [e1] at hs
    · simp only [e1, if_false] at hs ho
      simp only [β']
      by_cases e2 : x = d
      · rw [if_pos e2]
        intro e3
        injection e3 with e3
        rcases h.tok s e sz es hs with ⟨h1, _⟩ | ⟨g', c, cur, h1, _, h3, _⟩
        · rw [h1] at ho; cases ho
        · rw [h1] at ho
          have hgg : g' = g := by simpa [Value.ownBlock] using ho
          have := h.mlt g' _ h3
          omega
      · rw [if_neg e2]
        exact h.tokbox s _ _ _ g x hs ho

end
end Go.Proofs.Ytflfeikkcpcdiaa.Ev
