/-  append. -/
import Derived.Test.YtflfeikkcpcdiaaEvF
namespace Go.Proofs.Ytflfeikkcpcdiaa.Ev
open Go Go.RowKit
set_option linter.unusedVariables false
set_option linter.unusedSimpArgs false
set_option linter.unnecessarySimpa false

section
variable {P : Program} {w0 w : World} {N M : Mut} {β : Nat → Option Nat} {nt : Nat} {st : St} {a : Act}

/-- a slice's cells, one list -/
theorem slice_cells {o : Bool} {e sz : Nat} {es : List (List PV)} {v : Value} (hpos : 1 ≤ sz) (h : RelI w M (.sl o e sz es) v) :
    ∃ (A : Option Addr) (c : Nat) (news : List Value), v = .slice A es.length c ∧ es.length ≤ c ∧ news.length = es.length * sz ∧ (∀ (ad : Addr) (j : Nat) (u : Value), A = some ad → news[j]? = some u → w.cell? (ad.add j) = some u) ∧
      (∀ u ∈ news, u.oneCell' = true) ∧ (0 < es.length → ∃ ad, A = some ad) ∧ (∀ (i : Nat) (x : List PV), es[i]? = some x → x.length = sz) ∧
      (∀ (i : Nat) (x : List PV) (j : Nat) (p : PV), es[i]? = some x → x[j]? = some p → ∃ u, news[i * sz + j]? = some u ∧ RelI w M p u ∧ u.oneCell' = true) := by
  cases h with
  | sl own e sz es A c vs hc hsz ha hm hr =>
    have key : ∀ j, j < es.length * sz → ∃ x p, es[j / sz]? = some x ∧ x[j % sz]? = some p := by
      intro j hj
      have h1 : j / sz < es.length := Nat.div_lt_of_lt_mul (by rw [Nat.mul_comm]; exact hj)
      have h2 : j % sz < sz := Nat.mod_lt _ (by omega)
      have hx := List.getElem?_eq_getElem h1
      have hl := hsz _ _ hx
      exact ⟨_, _, hx, List.getElem?_eq_getElem (by omega)⟩
    have hdm : ∀ j, j / sz * sz + j % sz = j := fun j => Nat.div_add_mod' j sz
    refine ⟨A, c, (List.range (es.length * sz)).map fun j => vs (j / sz) (j % sz), rfl, hc, by simp, ?_, ?_, ?_, hsz, ?_⟩
    · intro ad j u hA hj
      have hjl : j < es.length * sz := by have := (List.getElem?_eq_some_iff.1 hj).1; simpa using this
      obtain ⟨x, p, hx, hp⟩ := key j hjl
      have := (hm ad _ x _ p hA hx hp).2.1
      rw [hdm] at this
      rw [List.getElem?_map, List.getElem?_range hjl] at hj
      simp at hj
      rw [this, hj]
    · intro u hu
      obtain ⟨j, hj, rfl⟩ := List.mem_map.1 hu
      have hjl : j < es.length * sz := by simpa using hj
      obtain ⟨x, p, hx, hp⟩ := key j hjl
      obtain ⟨ad, hA⟩ := ha _ x hx
      exact (hm ad _ x _ p hA hx hp).2.2
    · intro h0
      exact ha 0 _ (List.getElem?_eq_getElem h0)
    · intro i x j p hx hp
      have hi : i < es.length := (List.getElem?_eq_some_iff.1 hx).1
      have hj : j < sz := by have := (List.getElem?_eq_some_iff.1 hp).1; have := hsz i x hx; omega
      have hmul : (i + 1) * sz ≤ es.length * sz := Nat.mul_le_mul_right _ hi
      rw [Nat.add_mul, Nat.one_mul] at hmul
      obtain ⟨ad, hA⟩ := ha i x hx
      refine ⟨vs i j, ?_, hr i x j p hx hp, (hm ad i x j p hA hx hp).2.2⟩
      rw [List.getElem?_map, List.getElem?_range (by omega)]
      have e1 : (i * sz + j) / sz = i := by
        rw [Nat.mul_comm, Nat.mul_add_div (by omega), Nat.div_eq_of_lt hj]; omega
      have e2 : (i * sz + j) % sz = j := by
        rw [Nat.mul_comm, Nat.mul_add_mod, Nat.mod_eq_of_lt hj]
      simp [e1, e2]

theorem RelI_row' {g c n : Nat} {es : List (List PV)} {own : Bool} {e sz : Nat} {cs : Array Value} {t : Nat} (hn : n = es.length) (hh : w.heap[g]? = some (.cells cs t (0, 0))) (hc : n ≤ c)
    (hsz : ∀ (i : Nat) (x : List PV), es[i]? = some x → x.length = sz) (hM : ∀ i, i < n * sz → imm M ⟨g, i, none⟩)
    (hr : ∀ (i : Nat) (x : List PV) (j : Nat) (p : PV), es[i]? = some x → x[j]? = some p → ∃ v, cs[i * sz + j]? = some v ∧ RelI w M p v ∧ v.oneCell' = true) :
    RelI w M (.sl own e sz es) (.slice (some ⟨g, 0, none⟩) n c) := by
  subst hn
  exact RelI_row hh hc hsz hM hr

theorem run_append_zero (t ty e : TypeId) (i : TypeInfo) (ht : P.underlying t = some (.slice e)) (hi : P.info? e = some i) (v : Value) (hv : v = .slice none 0 0 ∨ ∃ g n c, v = .slice (some g) n c ∧ n ≤ c)
    (A : Option Addr) (c : Nat) (w : World) : (Builtin.append_ #[t, t] ty #[v, .slice A 0 c]).run P w = .ok v w := by
  rcases hv with rfl | ⟨g, n, c', rfl, hc⟩
  · cases A <;> simp [Builtin.append_, run_underlying ht, sizeOf, typeInfo, hi, Builtin.lenOf, Builtin.firstCells, loadCells, loadCellsFrom]
  · cases A <;> simp [Builtin.append_, run_underlying ht, sizeOf, typeInfo, hi, Builtin.lenOf, Builtin.firstCells, loadCells, loadCellsFrom, hc, storeCells]

/-- two lists of elements, their cells one behind the other -/
theorem cells_append {sz : Nat} {es ys : List (List PV)} {xs news rest : List Value} (hlen : xs.length = es.length * sz)
    (h1 : ∀ (i : Nat) (x : List PV) (j : Nat) (p : PV), es[i]? = some x → x[j]? = some p → ∃ u, xs[i * sz + j]? = some u ∧ RelI w M p u ∧ u.oneCell' = true)
    (h2 : ∀ (i : Nat) (x : List PV) (j : Nat) (p : PV), ys[i]? = some x → x[j]? = some p → ∃ u, news[i * sz + j]? = some u ∧ RelI w M p u ∧ u.oneCell' = true) :
    ∀ (i : Nat) (x : List PV) (j : Nat) (p : PV), (es ++ ys)[i]? = some x → x[j]? = some p → ∃ u, (xs ++ news ++ rest)[i * sz + j]? = some u ∧ RelI w M p u ∧ u.oneCell' = true := by
  intro i x j p hx hp
  rcases Nat.lt_or_ge i es.length with hi | hi
  · rw [List.getElem?_append_left hi] at hx
    obtain ⟨u, g1, g2⟩ := h1 i x j p hx hp
    have hl := (List.getElem?_eq_some_iff.1 g1).1
    exact ⟨u, by rw [List.append_assoc, List.getElem?_append_left hl]; exact g1, g2⟩
  · rw [List.getElem?_append_right hi] at hx
    obtain ⟨u, g1, g2⟩ := h2 _ x j p hx hp
    have hl := (List.getElem?_eq_some_iff.1 g1).1
    have e : i * sz + j = xs.length + ((i - es.length) * sz + j) := by
      rw [hlen, ← Nat.add_assoc, ← Nat.add_mul]; congr 2; omega
    refine ⟨u, ?_, g2⟩
    rw [e, List.append_assoc, List.getElem?_append_right (by omega), show xs.length + ((i - es.length) * sz + j) - xs.length = (i - es.length) * sz + j by omega, List.getElem?_append_left hl]
    exact g1

theorem sizes_append {sz : Nat} {es ys : List (List PV)} (h1 : ∀ (i : Nat) (x : List PV), es[i]? = some x → x.length = sz) (h2 : ∀ (i : Nat) (x : List PV), ys[i]? = some x → x.length = sz) :
    ∀ (i : Nat) (x : List PV), (es ++ ys)[i]? = some x → x.length = sz := by
  intro i x hx
  rcases Nat.lt_or_ge i es.length with hi | hi
  · rw [List.getElem?_append_left hi] at hx; exact h1 i x hx
  · rw [List.getElem?_append_right hi] at hx; exact h2 _ x hx

/-- append onto what no slot may append to just now: the row is rewritten, or made anew -/
theorem app_core (h : SR w0 N nt st a w M β) (d : Nat) (hd : d < nt) (t ty e sz : Nat) (i : TypeInfo) (z : Value) (ht : P.underlying t = some (.slice e)) (hi : P.info? e = some i) (hz : i.zero = some z)
    (hzs : z.cells.size = i.size) (hsz : i.size = sz) (hpos : 1 ≤ sz) (es ys : List (List PV)) (v u : Value) (o : Bool) (e2 : Nat)
    (hv : RelI w M (.sl true e sz es) v) (ht0 : TokOK w M w0.heap.size e sz es v) (hu : RelI w M (.sl o e2 sz ys) u)
    (hno : ∀ s e sz es g, st.get s = .sl true e sz es → v.ownBlock = some g → (a.tmps.getD s undef).ownBlock ≠ some g) (hbox : ∀ g x, v.ownBlock = some g → β x ≠ some g)
    (hb : (es.length + ys.length) * i.bytes ≤ 140737488355328) (hm : es.length + ys.length ≤ maxLen) :
    ∃ v' w' M', (Builtin.append_ #[t, t] ty #[v, u]).run P w = .ok v' w' ∧ SR w0 N nt (st.app ⟨[(d, .sl true e sz (es ++ ys))], []⟩) (a.put (some d) v') w' M' β := by
  subst hsz
  obtain ⟨A, c, xs, hv1, hv2, hv3, hv4, hv5, hv6, hv7, hv8⟩ := slice_cells hpos hv
  obtain ⟨A', c', news, hu1, hu2, hu3, hu4, hu5, hu6, hu7, hu8⟩ := slice_cells hpos hu
  have hmax : es.length + ys.length ≤ 9223372036854775807 := by simp only [maxLen] at hm; omega
  by_cases hy : ys.length = 0
  · have hy' : ys = [] := List.eq_nil_of_length_eq_zero hy
    subst hy'
    rw [List.append_nil]
    have hrun : (Builtin.append_ #[t, t] ty #[v, u]).run P w = .ok v w := by
      rw [hu1]
      refine run_append_zero t ty e i ht hi v ?_ A' c' w
      rcases ht0 with ⟨h1, _⟩ | ⟨g, c1, cur, h1, _, _, _, h5, _⟩
      · exact .inl h1
      · exact .inr ⟨_, _, _, h1, h5⟩
    exact ⟨v, w, M, hrun, h.putTok d v hd e i.size es hv ht0 (fun s e' sz' es' g _ hs hg => hno s e' sz' es' g hs hg) hbox⟩
  · obtain ⟨ad, hA⟩ := hu6 (by omega)
    subst hA
    -- a new block
    have fresh : ∀ (cap : Nat) (zs : List Value), es.length + ys.length ≤ cap → cap ≤ maxLen → (xs ++ news ++ zs).length = cap * i.size → ∀ (W : World), W = w ∨ W = w.drew →
        ∃ M', SR w0 N nt (st.app ⟨[(d, .sl true e i.size (es ++ ys))], []⟩) (a.put (some d) (.slice (some ⟨w.heap.size, 0, none⟩) (es.length + ys.length) cap)) (W.alloc (.cells (xs ++ news ++ zs).toArray e)) M' β := by
      intro cap zs hcap hcm hcs W hW
      have hW' : SR w0 N nt st a W M β := by rcases hW with rfl | rfl; exact h; exact h.drawn
      have hWs : W.heap.size = w.heap.size := by rcases hW with rfl | rfl <;> rfl
      have hWe : ∀ p v, RelI w M p v → RelI W M p v := by
        rcases hW with rfl | rfl
        · exact fun p v h => h
        · exact fun p v h => RelI.ext (w := w) (w' := w.drew) (fun x u h1 h2 => ⟨h1, h2⟩) h
      obtain ⟨hE, hS, hb1, hn1⟩ := hW'.rowNew (xs ++ news ++ zs).toArray e ((es.length + ys.length) * i.size)
      rw [hWs] at hE hS hb1 hn1
      have hh : (W.alloc (.cells (xs ++ news ++ zs).toArray e)).heap[w.heap.size]? = some (.cells (xs ++ news ++ zs).toArray e (0, 0)) := by rw [← hWs]; exact heap_alloc_new W _
      have hle : w0.heap.size ≤ w.heap.size := h.bel.size
      refine ⟨_, hS.putTok d _ hd e i.size (es ++ ys) ?_ (.inr ⟨w.heap.size, cap, _, by rw [List.length_append], hle, by simp, hh, by rw [List.length_append]; exact hcap, hcm, by simpa using hcs⟩) ?_ ?_⟩
      · refine RelI_row' (List.length_append).symm hh hcap (sizes_append hv7 hu7) (fun j hj n hn => ?_) (fun i0 x j p hx hp => ?_)
        · simp only [if_true] at hn
          injection hn with hn
          show j < n
          omega
        · obtain ⟨u0, q1, q2, q3⟩ := cells_append (rest := zs) hv3 hv8 hu8 i0 x j p hx hp
          exact ⟨u0, by simpa using q1, (hWe _ _ q2).ext hE, q3⟩
      · intro s e' sz' es' g _ hs hg
        have : w.heap.size = g := by simpa [Value.ownBlock] using hg
        rw [← this]; exact hn1 s _ _ _ hs
      · intro g x hg
        have : w.heap.size = g := by simpa [Value.ownBlock] using hg
        rw [← this]; exact hb1 x
    have zlen : ∀ n, (Builtin.zeroCells z.cells n).toList.length = n * i.size := fun n => by rw [Array.length_toList, size_zeroCells, hzs]
    have toA : ∀ n, xs.toArray ++ news.toArray ++ Builtin.zeroCells z.cells n = (xs ++ news ++ (Builtin.zeroCells z.cells n).toList).toArray := fun n => by
      apply Array.ext'; simp
    rcases ht0 with ⟨h1, h2⟩ | ⟨g, c1, cur, h1, h2, h3, h4, h5, h6, h7⟩
    · subst h2
      have hxs : xs = [] := List.eq_nil_of_length_eq_zero (by simpa using hv3)
      subst hxs
      have hr := run_append_nil (P := P) w t ty e i z ht hi hz ad ys.length c' news hu3 (fun j q hq => hu4 ad j q rfl hq) (by omega) (by simp only [List.length_nil] at hmax; omega) (by simp only [List.length_nil, Nat.zero_add] at hb; omega)
      have hge := grownCap_ge w ys.length 0 e
      have hle' := grownCap_le_maxLen w ys.length 0 e (by simp only [List.length_nil] at hm; omega)
      obtain ⟨M', hS⟩ := fresh (grownCap w ys.length 0 e) (Builtin.zeroCells z.cells (grownCap w ys.length 0 e - ys.length)).toList (by simp only [List.length_nil]; omega) hle' (by
        rw [List.length_append, List.length_append, zlen, hu3, List.length_nil, Nat.zero_add, ← Nat.add_mul]; congr 1; omega) w.drew (.inr rfl)
      refine ⟨_, _, M', by rw [h1, hu1]; exact hr, ?_⟩
      have := toA (grownCap w ys.length 0 e - ys.length)
      simp only [List.nil_append, List.length_nil, Nat.zero_add] at hS this ⊢
      have e0 : news.toArray ++ Builtin.zeroCells z.cells (grownCap w ys.length 0 e - ys.length) = (news ++ (Builtin.zeroCells z.cells (grownCap w ys.length 0 e - ys.length)).toList).toArray := by apply Array.ext'; simp
      rw [e0]
      exact hS
    · have hAg : A = some ⟨g, 0, none⟩ ∧ c = c1 := by rw [hv1] at h1; injection h1 with q1 _ q3; exact ⟨q1, q3⟩
      obtain ⟨hA1, hc1⟩ := hAg
      subst hc1
      have hcell : ∀ (j : Nat) (q : Value), xs[j]? = some q → w.cell? ((⟨g, 0, none⟩ : Addr).add j) = some q := fun j q hq => hv4 _ j q hA1 hq
      by_cases hroom : es.length + ys.length ≤ c
      · have hfit : es.length * i.size + news.length ≤ cur.size := by rw [hu3, h7, ← Nat.add_mul]; exact Nat.mul_le_mul_right _ hroom
        have hr := run_append_room (P := P) w t ty e i ht hi g es.length c cur h4 ad ys.length c' news hu3 (fun j q hq => hu4 ad j q rfl hq) hu5 hroom hfit
        have htake : cur.toList.take (es.length * i.size) = xs := by
          apply List.ext_getElem?
          intro j
          rcases Nat.lt_or_ge j (es.length * i.size) with hj | hj
          · have hx : xs[j]? = some (xs[j]'(by omega)) := List.getElem?_eq_getElem (by omega)
            have := hcell j _ hx
            rw [add_lit, World.cell?, h4] at this
            rw [List.getElem?_take, if_pos hj, hx]
            simpa using this
          · rw [List.getElem?_eq_none (by simp; omega), List.getElem?_eq_none (by omega)]
        rw [htake] at hr
        have hno' : ∀ s e sz es, st.get s = .sl true e sz es → (a.tmps.getD s undef).ownBlock ≠ some g := fun s e sz es hs => hno s e sz es g hs (by rw [h1]; rfl)
        have hbox' : ∀ x, β x ≠ some g := fun x => hbox g x (by rw [h1]; rfl)
        obtain ⟨hE, hS⟩ := h.rowWrite g (es.length * i.size) ((es.length + ys.length) * i.size) cur (xs ++ news ++ cur.toList.drop (es.length * i.size + news.length)).toArray e h2 h3 (Nat.mul_le_mul_right _ (by omega)) h4 (fun j hj => by
          have hx : xs[j]? = some (xs[j]'(by omega)) := List.getElem?_eq_getElem (by omega)
          have := hcell j _ hx
          rw [add_lit, World.cell?, h4] at this
          have h8 : cur[j]? = some (xs[j]'(by omega)) := by simpa using this
          rw [h8]
          simp only [List.getElem?_toArray]
          rw [List.append_assoc, List.getElem?_append_left (by omega)]
          exact hx) hbox' hno'
        have hh : (w.setRow g (xs ++ news ++ cur.toList.drop (es.length * i.size + news.length)).toArray).heap[g]? = some (.cells (xs ++ news ++ cur.toList.drop (es.length * i.size + news.length)).toArray e (0, 0)) := setRow_heap w g cur _ e (0, 0) h4
        refine ⟨_, _, _, by rw [h1, hu1]; exact hr, hS.putTok d _ hd e i.size (es ++ ys) ?_ (.inr ⟨g, c, _, by rw [List.length_append], h2, by simp, hh, by rw [List.length_append]; exact hroom, h6, ?_⟩) ?_ ?_⟩
        · refine RelI_row' (List.length_append).symm hh hroom (sizes_append hv7 hu7) (fun j hj n hn => ?_) (fun i0 x j p hx hp => ?_)
          · simp only [if_true] at hn
            injection hn with hn
            show j < n
            omega
          · obtain ⟨u0, q1, q2, q3⟩ := cells_append (rest := cur.toList.drop (es.length * i.size + news.length)) hv3 hv8 hu8 i0 x j p hx hp
            exact ⟨u0, by simpa using q1, q2.ext hE, q3⟩
        · simp only [List.size_toArray, List.length_append, List.length_drop, Array.length_toList]
          omega
        · intro s e' sz' es' g' _ hs hg
          have : g = g' := by simpa [Value.ownBlock] using hg
          rw [← this]; exact hno' s _ _ _ hs
        · intro g' x hg
          have : g = g' := by simpa [Value.ownBlock] using hg
          rw [← this]; exact hbox' x
      · have hr := run_append_grow (P := P) w t ty e i z ht hi hz ⟨g, 0, none⟩ es.length c xs hv3 hcell ad ys.length c' news hu3 (fun j q hq => hu4 ad j q rfl hq) (by omega) (by omega) (growslice_fits (by omega) hb)
        have hge := grownCap_ge w (es.length + ys.length) c e
        have hle' := grownCap_le_maxLen w (es.length + ys.length) c e hm
        obtain ⟨M', hS⟩ := fresh (grownCap w (es.length + ys.length) c e) (Builtin.zeroCells z.cells (grownCap w (es.length + ys.length) c e - (es.length + ys.length))).toList hge hle' (by
          rw [List.length_append, List.length_append, zlen, hu3, hv3, ← Nat.add_mul, ← Nat.add_mul]; congr 1; omega) w.drew (.inr rfl)
        refine ⟨_, _, M', by rw [h1, hu1]; exact hr, ?_⟩
        rw [toA]
        exact hS

end
end Go.Proofs.Ytflfeikkcpcdiaa.Ev
