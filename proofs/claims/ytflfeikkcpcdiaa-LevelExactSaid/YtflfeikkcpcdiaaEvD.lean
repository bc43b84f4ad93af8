/-  The relation is kept, continued: a variable is written; rows. -/
import Derived.Test.YtflfeikkcpcdiaaEvC
namespace Go.Proofs.Ytflfeikkcpcdiaa.Ev
open Go Go.RowKit
set_option linter.unusedVariables false
set_option linter.unusedSimpArgs false
set_option linter.unnecessarySimpa false

theorem setN_length (l : List PV) : ∀ (off : Nat) (new : List PV), (setN l off new).length = l.length := by
  induction l with
  | nil => intro off new; simp [setN]
  | cons p r ih =>
    intro off new
    cases new with
    | nil => cases off <;> simp [setN]
    | cons q new =>
      cases off with
      | zero => simp [setN, ih]
      | succ n => simp [setN, ih]

theorem setN_get (l : List PV) : ∀ (off : Nat) (new : List PV) (i : Nat), off + new.length ≤ l.length →
    (setN l off new)[i]? = if off ≤ i ∧ i < off + new.length then new[i - off]? else l[i]? := by
  induction l with
  | nil =>
    intro off new i h
    have h1 : off = 0 := by simp at h; omega
    have h2 : new = [] := List.eq_nil_of_length_eq_zero (by simp only [List.length_nil] at h; omega)
    subst h1; subst h2; simp [setN]
  | cons p r ih =>
    intro off new i h
    cases new with
    | nil =>
      have : setN (p :: r) off [] = p :: r := by cases off <;> rfl
      rw [this, if_neg (fun hh => absurd hh.2 (by simp only [List.length_nil]; omega))]
    | cons q new =>
      cases off with
      | zero =>
        have e : setN (p :: r) 0 (q :: new) = q :: setN r 0 new := rfl
        rw [e]
        cases i with
        | zero => simp
        | succ i =>
          rw [List.getElem?_cons_succ, ih 0 new i (by simp at h ⊢; omega)]
          by_cases hi : i < new.length
          · rw [if_pos ⟨by omega, by omega⟩, if_pos ⟨by omega, by simp; omega⟩]; simp
          · rw [if_neg (by omega), if_neg (by simp; omega)]; simp
      | succ n =>
        have e : setN (p :: r) (n + 1) (q :: new) = p :: setN r n (q :: new) := rfl
        rw [e]
        cases i with
        | zero => rw [if_neg (by omega)]; simp
        | succ i =>
          rw [List.getElem?_cons_succ, ih n (q :: new) i (by simp at h ⊢; omega)]
          by_cases hi : n ≤ i ∧ i < n + (q :: new).length
          · rw [if_pos hi, if_pos ⟨by omega, by omega⟩]
            congr 1; omega
          · rw [if_neg hi, if_neg (by omega)]; simp

theorem ones_get {l : List PV} (h : ones l = true) : ∀ (i : Nat) (p : PV), l[i]? = some p → p.one = true := by
  induction l with
  | nil => intro i p hp; simp at hp
  | cons q r ih =>
    intro i p hp
    simp only [ones] at h
    cases hq : q.one with
    | false => rw [hq] at h; cases h
    | true =>
      rw [hq] at h
      cases i with
      | zero => simp at hp; subst hp; exact hq
      | succ i => simp at hp; exact ih h i p hp

theorem lenIs_iff (l : List PV) : ∀ n, lenIs l n = true ↔ l.length = n := by
  induction l with
  | nil => intro n; cases n <;> simp [lenIs]
  | cons p r ih => intro n; cases n <;> simp [lenIs, ih]
theorem lenGe_iff (l : List PV) : ∀ n, lenGe l n = true ↔ n ≤ l.length := by
  induction l with
  | nil => intro n; cases n <;> simp [lenGe]
  | cons p r ih => intro n; cases n <;> simp [lenGe, ih]

section
variable {w0 w w' : World} {N M : Mut} {β : Nat → Option Nat} {nt : Nat} {st : St} {a : Act}

/-- the cells behind a store -/
theorem mid_get (cs : List Value) (off : Nat) (vs : List Value) (h : off + vs.length ≤ cs.length) (i : Nat) :
    (cs.take off ++ vs ++ cs.drop (off + vs.length))[i]? = if off ≤ i ∧ i < off + vs.length then vs[i - off]? else cs[i]? := by
  rw [List.append_assoc]
  by_cases h1 : i < off
  · rw [if_neg (by omega), List.getElem?_append_left (by simp; omega), List.getElem?_take, if_pos h1]
  · rw [List.getElem?_append_right (by simp; omega)]
    have hl : (cs.take off).length = off := by simp; omega
    rw [hl]
    by_cases h2 : i < off + vs.length
    · rw [if_pos ⟨by omega, h2⟩, List.getElem?_append_left (by omega)]
    · rw [if_neg (by omega), List.getElem?_append_right (by omega), List.getElem?_drop]
      congr 1; omega

/-- A variable of ours is written. -/
theorem SR.store (h : SR w0 N nt st a w M β) (d off b : Nat) (hβ : β d = some b) (new : List PV) (vs : List Value) (hlen : new.length = vs.length)
    (hfit : off + new.length ≤ (st.obj d).length) (hr : ∀ (i : Nat) (p : PV) (v : Value), new[i]? = some p → vs[i]? = some v → RelI w M p v ∧ v.oneCell' = true) :
    ∃ cs t, w.heap[b]? = some (.cells cs t (0, 0)) ∧ off + vs.length ≤ cs.size ∧
      SR w0 N nt (st.app ⟨[], [(d, setN (st.obj d) off new)]⟩) a (w.setRow b (cs.toList.take off ++ vs ++ cs.toList.drop (off + vs.length)).toArray) M β := by
  obtain ⟨hb1, hb2, cs, t, hb3, hb4, hb5⟩ := h.box d b hβ
  have hfit' : off + vs.length ≤ cs.size := by omega
  let w1 := w.setRow b (cs.toList.take off ++ vs ++ cs.toList.drop (off + vs.length)).toArray
  have hw1 : w1.heap[b]? = some (.cells (cs.toList.take off ++ vs ++ cs.toList.drop (off + vs.length)).toArray t (0, 0)) := setRow_heap w b cs _ t (0, 0) hb3
  have hoth : ∀ k, k ≠ b → w1.heap[k]? = w.heap[k]? := fun k hk => setRow_other w b k _ hk
  have hsz : w1.heap.size = w.heap.size := by simp [w1, World.setRow]
  have hbw : b < w.heap.size := h.mlt b 0 hb2
  have hE : Ext w M w1 M := fun x v hi hc => by
    have hx : x.block ≠ b := fun e => by have := hi 0 (by rw [e]; exact hb2); omega
    exact ⟨hi, by rw [World.cell?_of_block (w := w) (hoth _ hx)]; exact hc⟩
  have hbel : Below w0.heap.size w w1 := ⟨rfl, rfl, rfl, by omega, fun k hk => hoth k (by omega)⟩
  refine ⟨cs, t, hb3, hfit', h.defs, h.nt, h.bel.trans hbel, h.mN, fun x n hn => by rw [hsz]; exact h.mlt x n hn, ?_, h.inj, ?_, ?_, ?_, h.tokne, h.tokbox⟩
  · intro d' b' hd'
    rw [app_obj_one]
    by_cases e : d' = d
    · subst e
      rw [hβ] at hd'
      injection hd' with hd'
      subst hd'
      simp only [if_true]
      refine ⟨hb1, hb2, _, t, hw1, ?_, ?_⟩
      · rw [setN_length]; simp; omega
      · intro i p v hp hv
        rw [setN_get _ _ _ _ hfit] at hp
        simp only [List.getElem?_toArray] at hv
        rw [mid_get _ _ _ (by simpa using hfit')] at hv
        by_cases hi : off ≤ i ∧ i < off + new.length
        · rw [if_pos hi] at hp
          rw [if_pos ⟨hi.1, by omega⟩] at hv
          exact ⟨(hr _ p v hp hv).1.ext hE, (hr _ p v hp hv).2⟩
        · rw [if_neg hi] at hp
          rw [if_neg (by omega)] at hv
          have hv' : cs[i]? = some v := by simpa using hv
          exact ⟨(hb5 i p v hp hv').1.ext hE, (hb5 i p v hp hv').2⟩
    · rw [if_neg (fun e' => e e'.symm)]
      obtain ⟨h1, h2, cs', t', h3, h4, h5⟩ := h.box d' b' hd'
      have hne : b' ≠ b := fun e' => e (h.inj d' d b' hd' (by rw [e']; exact hβ))
      exact ⟨h1, h2, cs', t', by rw [hoth b' hne]; exact h3, h4, fun i p v hp hv => ⟨(h5 i p v hp hv).1.ext hE, (h5 i p v hp hv).2⟩⟩
  · intro x hx
    have hx' : x ∉ d :: st.ob.map Prod.fst := by rw [notIn_iff] at hx; exact hx
    exact h.dom x (by rw [notIn_iff]; intro hm; exact hx' (List.mem_cons_of_mem _ hm))
  · intro s
    exact (h.reg s).ext hE (fun x hx => World.cell?_of_block (w := w) (hoth _ (by omega)))
  · intro s e sz es hs
    rcases h.tok s e sz es hs with h1 | ⟨g, c, cur, h1, h2, h3, h4, h5⟩
    · exact .inl h1
    · have hne : g ≠ b := fun e' => h.tokbox s e sz es g d hs (by rw [h1]; rfl) (by rw [e']; exact hβ)
      exact .inr ⟨g, c, cur, h1, h2, h3, by rw [hoth g hne]; exact h4, h5⟩

/-- A slot's row is no longer to be appended to. -/
theorem SR.drop (h : SR w0 N nt st a w M β) (s : Nat) : SR w0 N nt (st.app ⟨[(s, (st.get s).view)], []⟩) a w M β := by
  have hg : ∀ x, (st.app ⟨[(s, (st.get s).view)], []⟩).get x = if s = x then (st.get s).view else st.get x := fun x => look_one _ _ _ _ _
  have ht : ∀ x e sz es, (st.app ⟨[(s, (st.get s).view)], []⟩).get x = .sl true e sz es → st.get x = .sl true e sz es ∧ x ≠ s := by
    intro x e sz es hx
    rw [hg] at hx
    by_cases e1 : s = x
    · rw [if_pos e1] at hx; exact absurd hx (view_not_tok _ _ _ _)
    · rw [if_neg e1] at hx; exact ⟨hx, fun e2 => e1 e2.symm⟩
  refine ⟨h.defs, h.nt, h.bel, h.mN, h.mlt, h.box, h.inj, h.dom, ?_, ?_, ?_, ?_⟩
  · intro x
    rw [hg]
    by_cases e1 : s = x
    · subst e1; rw [if_pos rfl]; exact (h.reg s).view
    · rw [if_neg e1]; exact h.reg x
  · intro x e sz es hx; exact h.tok x e sz es (ht x _ _ _ hx).1
  · intro x y e sz es e' sz' es' g hx hy hne ho
    exact h.tokne x y _ _ _ _ _ _ g (ht x _ _ _ hx).1 (ht y _ _ _ hy).1 hne ho
  · intro x e sz es g d hx ho
    exact h.tokbox x _ _ _ g d (ht x _ _ _ hx).1 ho

/-- A row comes into a slot. -/
theorem SR.putTok (h : SR w0 N nt st a w M β) (d : Nat) (v : Value) (hd : d < nt) (e sz : Nat) (es : List (List PV)) (hr : RelI w M (.sl true e sz es) v)
    (ht : TokOK w M w0.heap.size e sz es v) (hne : ∀ s e' sz' es' g, s ≠ d → st.get s = .sl true e' sz' es' → v.ownBlock = some g → (a.tmps.getD s undef).ownBlock ≠ some g)
    (hbox : ∀ g x, v.ownBlock = some g → β x ≠ some g) :
    SR w0 N nt (st.app ⟨[(d, .sl true e sz es)], []⟩) (a.put (some d) v) w M β := by
  have hds : d < a.tmps.size := by rw [h.nt]; exact hd
  have hg : ∀ x, (st.app ⟨[(d, .sl true e sz es)], []⟩).get x = if d = x then .sl true e sz es else st.get x := fun x => look_one _ _ _ _ _
  refine ⟨h.defs, by simp [Act.put, h.nt], h.bel, h.mN, h.mlt, h.box, h.inj, h.dom, ?_, ?_, ?_, ?_⟩
  · intro s
    rw [hg, getD_put a d s v hds]
    by_cases e1 : d = s
    · simp only [e1, if_true]; exact .imm _ _ hr
    · simp only [e1, if_false]; exact h.reg s
  · intro s e' sz' es' hs
    rw [hg] at hs
    rw [getD_put a d s v hds]
    by_cases e1 : d = s
    · simp only [e1, if_true] at hs ⊢
      injection hs with _ h1 h2 h3
      subst h1; subst h2; subst h3; exact ht
    · simp only [e1, if_false] at hs ⊢; exact h.tok s _ _ _ hs
  · intro s s' e1 sz1 es1 e2 sz2 es2 g hs hs' hn ho
    rw [hg] at hs hs'
    rw [getD_put a d s v hds] at ho
    rw [getD_put a d s' v hds]
    by_cases c1 : d = s
    · by_cases c2 : d = s'
      · exact absurd (c1.symm.trans c2) hn
      · simp only [c1, if_true] at ho
        simp only [c2, if_false] at hs' ⊢
        exact hne s' _ _ _ g (fun e => c2 e.symm) hs' ho
    · by_cases c2 : d = s'
      · simp only [c1, if_false] at ho hs
        simp only [c2, if_true]
        exact fun hv => hne s _ _ _ g (fun e => c1 e.symm) hs hv ho
      · simp only [c1, c2, if_false] at ho hs hs' ⊢
        exact h.tokne s s' _ _ _ _ _ _ g hs hs' hn ho
  · intro s e1 sz1 es1 g x hs ho
    rw [hg] at hs
    rw [getD_put a d s v hds] at ho
    by_cases c1 : d = s
    · simp only [c1, if_true] at ho
      exact hbox g x ho
    · simp only [c1, if_false] at ho hs
      exact h.tokbox s _ _ _ g x hs ho

/-- A row of ours that no slot may append to just now is written behind what is immutable of it. -/
theorem SR.rowWrite (h : SR w0 N nt st a w M β) (g k k' : Nat) (cur cs : Array Value) (t : Nat) (hgB : w0.heap.size ≤ g) (hM : M g = some k) (hk : k ≤ k')
    (hh : w.heap[g]? = some (.cells cur t (0, 0))) (hsame : ∀ i, i < k → cs[i]? = cur[i]?)
    (hbox : ∀ x, β x ≠ some g) (hno : ∀ s e sz es, st.get s = .sl true e sz es → (a.tmps.getD s undef).ownBlock ≠ some g) :
    Ext w M (w.setRow g cs) (fun b => if b = g then some k' else M b) ∧ SR w0 N nt st a (w.setRow g cs) (fun b => if b = g then some k' else M b) β := by
  have hw1 : (w.setRow g cs).heap[g]? = some (.cells cs t (0, 0)) := setRow_heap w g cur _ t (0, 0) hh
  have hoth : ∀ x, x ≠ g → (w.setRow g cs).heap[x]? = w.heap[x]? := fun x hx => setRow_other w g x _ hx
  have hsz : (w.setRow g cs).heap.size = w.heap.size := by simp [World.setRow]
  have hgw : g < w.heap.size := h.mlt g k hM
  have hE : Ext w M (w.setRow g cs) (fun b => if b = g then some k' else M b) := by
    intro x v hi hc
    by_cases e : x.block = g
    · have hlt := hi k (by rw [e]; exact hM)
      refine ⟨fun n hn => ?_, ?_⟩
      · rw [e] at hn; simp only [if_true] at hn; injection hn with hn; omega
      · unfold World.cell? at hc ⊢
        rw [e, hh] at hc
        rw [e, hw1]
        simp only at hc ⊢
        rw [hsame _ hlt]; exact hc
    · refine ⟨fun n hn => ?_, by rw [World.cell?_of_block (w := w) (hoth _ e)]; exact hc⟩
      simp only [e, if_false] at hn
      exact hi n hn
  refine ⟨hE, h.defs, h.nt, h.bel.trans ⟨rfl, rfl, rfl, by omega, fun x hx => hoth x (by omega)⟩, ?_, ?_, ?_, h.inj, h.dom, ?_, ?_, h.tokne, h.tokbox⟩
  · intro b hb; simp only [show b ≠ g by omega, if_false]; exact h.mN b hb
  · intro b n hn
    by_cases e : b = g
    · rw [e, hsz]; exact hgw
    · simp only [e, if_false] at hn; rw [hsz]; exact h.mlt b n hn
  · intro d b hd
    have hne : b ≠ g := fun e => hbox d (by rw [hd, e])
    obtain ⟨h1, h2, cs', t', h3, h4, h5⟩ := h.box d b hd
    exact ⟨h1, by simp only [hne, if_false]; exact h2, cs', t', by rw [hoth b hne]; exact h3, h4, fun i p v hp hv => ⟨(h5 i p v hp hv).1.ext hE, (h5 i p v hp hv).2⟩⟩
  · intro s
    exact (h.reg s).ext hE (fun x hx => World.cell?_of_block (w := w) (hoth _ (by omega)))
  · intro s e sz es hs
    rcases h.tok s e sz es hs with h1 | ⟨g', c, cur', h1, h2, h3, h4, h5⟩
    · exact .inl h1
    · have hne : g' ≠ g := fun e' => hno s e sz es hs (by rw [h1, ← e']; rfl)
      exact .inr ⟨g', c, cur', h1, h2, by simp only [hne, if_false]; exact h3, by rw [hoth g' hne]; exact h4, h5⟩

/-- A new block. -/
theorem SR.rowNew (h : SR w0 N nt st a w M β) (cs : Array Value) (t k : Nat) :
    Ext w M (w.alloc (.cells cs t)) (fun b => if b = w.heap.size then some k else M b) ∧ SR w0 N nt st a (w.alloc (.cells cs t)) (fun b => if b = w.heap.size then some k else M b) β ∧
    (∀ x, β x ≠ some w.heap.size) ∧ (∀ s e sz es, st.get s = .sl true e sz es → (a.tmps.getD s undef).ownBlock ≠ some w.heap.size) := by
  have hoth : ∀ x, x < w.heap.size → (w.alloc (.cells cs t)).heap[x]? = w.heap[x]? := fun x hx => Below.heap_alloc w _ x hx
  have hle : w0.heap.size ≤ w.heap.size := h.bel.size
  have hlt : ∀ (x : Addr) v, w.cell? x = some v → x.block < w.heap.size := by
    intro x v hx
    unfold World.cell? at hx
    rcases Nat.lt_or_ge x.block w.heap.size with h1 | h1
    · exact h1
    · rw [Array.getElem?_eq_none h1] at hx; simp at hx
  have hE : Ext w M (w.alloc (.cells cs t)) (fun b => if b = w.heap.size then some k else M b) := fun x v hi hc => by
    have hx := hlt x v hc
    refine ⟨fun n hn => hi n ?_, cell_alloc_old w _ hc⟩
    simp only [show x.block ≠ w.heap.size by omega, if_false] at hn
    exact hn
  have hβb : ∀ x b, β x = some b → b < w.heap.size := fun x b hb => h.mlt b 0 (h.box x b hb).2.1
  refine ⟨hE, ⟨h.defs, h.nt, h.bel.alloc hle _, ?_, ?_, ?_, h.inj, h.dom, ?_, ?_, h.tokne, h.tokbox⟩, ?_, ?_⟩
  · intro b hb; simp only [show b ≠ w.heap.size by omega, if_false]; exact h.mN b hb
  · intro b n hn
    by_cases e : b = w.heap.size
    · subst e; simp
    · simp only [e, if_false] at hn; have := h.mlt b n hn; simp; omega
  · intro d b hd
    obtain ⟨h1, h2, cs', t', h3, h4, h5⟩ := h.box d b hd
    have hbl := hβb d b hd
    exact ⟨h1, by simp only [show b ≠ w.heap.size by omega, if_false]; exact h2, cs', t', by rw [hoth b hbl]; exact h3, h4, fun i p v hp hv => ⟨(h5 i p v hp hv).1.ext hE, (h5 i p v hp hv).2⟩⟩
  · intro s
    exact (h.reg s).ext hE (fun x hx => World.cell?_of_block (w := w) (hoth _ (by omega)))
  · intro s e sz es hs
    rcases h.tok s e sz es hs with h1 | ⟨g', c, cur', h1, h2, h3, h4, h5⟩
    · exact .inl h1
    · have hg := h.mlt g' _ h3
      exact .inr ⟨g', c, cur', h1, h2, by simp only [show g' ≠ w.heap.size by omega, if_false]; exact h3, by rw [hoth g' hg]; exact h4, h5⟩
  · intro x hx
    have := hβb x _ hx
    omega
  · intro s e sz es hs ho
    rcases h.tok s e sz es hs with ⟨h1, _⟩ | ⟨g', c, cur', h1, h2, h3, _⟩
    · rw [h1] at ho; cases ho
    · rw [h1] at ho
      have hgg : g' = w.heap.size := by simpa [Value.ownBlock] using ho
      have := h.mlt g' _ h3
      omega

end
end Go.Proofs.Ytflfeikkcpcdiaa.Ev
