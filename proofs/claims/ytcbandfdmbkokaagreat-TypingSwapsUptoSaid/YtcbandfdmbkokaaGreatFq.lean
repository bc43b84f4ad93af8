/-  What a readable argument is to the evaluator; from 'Holds .. true' to what a law's statement asks. -/
import Derived.Test.YtcbandfdmbkokaaGreatFn
import Derived.DataReads
import Derived.ProofKit
import Derived.OpenShut
import Derived.Carry
namespace Go.Proofs.YtcbandfdmbkokaaGreat.Ev
open Go Go.RowKit Go.ChangeShapes Go.WideShapes Go.ChangeAt
set_option linter.unusedVariables false
set_option linter.unusedSimpArgs false
set_option linter.unnecessarySimpa false

def contig (P : Program) (tot : Nat) : List Field → Nat → Bool
  | [], o => Nat.beq o tot
  | f :: r, o => Nat.beq f.offset o && contig P tot r (o + P.cellsOf f.type)

/-- data of a type -/
def Shps (S : TypeId → List PV → Prop) : List TypeId → List PV → Prop
  | [], l => l = []
  | t :: r, l => ∃ a b, l = a ++ b ∧ S t a ∧ Shps S r b
def Shp (P : Program) : Nat → TypeId → List PV → Prop
  | 0, _, _ => False
  | n + 1, t, l => match P.underlying t with
    | some .bool => ∃ b, l = [.val (.bool b)]
    | some (.int k) => ∃ n, l = [.val (.int k n)] ∧ (Lit.int k n).wf = true
    | some .string => ∃ s, l = [.val (.string s)] ∧ s.size ≤ maxLen
    | some (.slice e) => ∃ x : LX, l = [.lst false x] ∧ x.e = e ∧ x.len ≤ maxLen ∧ ∀ i, i < x.len → Shp P n e (x.row i)
    | some (.struct fs) => Shps (Shp P n) (fs.toList.map (·.type)) l
    | _ => False

/-- types that the rows are laid for -/
def okIn (t : Nat) : List Nat → Bool
  | [] => false
  | a :: r => match Nat.beq a t with
    | true => true
    | false => okIn t r
def okTy (P : Program) (L : List Nat) (t : TypeId) : Bool := match P.underlying t with
  | some .bool => true
  | some (.int _) => true
  | some .string => true
  | some (.slice e) => okIn e L && (LX.nil e).isSome
  | some (.struct fs) => contig P (P.cellsOf t) fs.toList 0 && fs.toList.all fun f => okIn f.type L
  | _ => false
def okAll (P : Program) (L : List Nat) : Bool := L.all (okTy P L)
theorem okIn_mem {t : Nat} : ∀ {L : List Nat}, okIn t L = true → t ∈ L
  | [], h => by cases h
  | a :: r, h => by
    simp only [okIn] at h
    cases hb : Nat.beq a t with
    | true => have := nat_beq hb; subst this; simp
    | false => rw [hb] at h; exact List.mem_cons_of_mem _ (okIn_mem h)

/-- rows that read so are a row of data -/
def MkRows (P : Program) (L : List Nat) : Prop := ∀ (e n m : Nat) (f : Nat → List PV), e ∈ L → (LX.nil e).isSome = true → (∀ i, i < m → Shp P n e (f i)) → ∃ x : LX, x.e = e ∧ x.len = m ∧ x.sz = P.cellsOf e ∧ ∀ i, i < m → x.row i = f i

abbrev RelN (w : World) (p : PV) (v : Value) : Prop := Rel w (fun _ => none) (fun _ => none) w.heap.size p v
def Rd (w : World) (l : List PV) (cs : List Value) : Prop :=
  l.length = cs.length ∧ ∀ (i : Nat) (p : PV) (v : Value), l[i]? = some p → cs[i]? = some v → RelN w p v ∧ v.oneCell' = true

theorem Rd.nil (w : World) : Rd w [] [] := ⟨rfl, fun i p v h => by simp at h⟩
theorem Rd.one {w : World} {p : PV} {v : Value} (h : RelN w p v) (h1 : v.oneCell' = true) : Rd w [p] [v] := by
  refine ⟨rfl, fun i q u hq hu => ?_⟩
  cases i with
  | zero => simp at hq hu; subst hq; subst hu; exact ⟨h, h1⟩
  | succ i => simp at hq
theorem Rd.append {w : World} {l m : List PV} {cs ds : List Value} (h : Rd w l cs) (h' : Rd w m ds) : Rd w (l ++ m) (cs ++ ds) := by
  refine ⟨by simp [h.1, h'.1], fun i p v hp hv => ?_⟩
  by_cases hi : i < l.length
  · rw [List.getElem?_append_left hi] at hp
    rw [List.getElem?_append_left (h.1 ▸ hi)] at hv
    exact h.2 i p v hp hv
  · rw [List.getElem?_append_right (by omega)] at hp
    rw [List.getElem?_append_right (by have := h.1; omega), ← h.1] at hv
    exact h'.2 _ p v hp hv

section
variable {H : Type} {enc : TypeId × Value → H} {P : Program} {w : World} {base : Nat} {spare : Nat → Bool} {held : Bool} {L : List Nat}

theorem read_fields {fuel : Nat} (ih : ∀ (t : TypeId) (cs : List Value) (x : DataW H × List MemPlace), t ∈ L → DataW.trod enc P w base spare held fuel t cs = some x → ∃ l, Rd w l cs ∧ Shp P fuel t l)
    {cs : List Value} {tot : Nat} (hcs : cs.length = tot) :
    ∀ (fs : List Field) (o : Nat) (xs : List (DataW H × List MemPlace)), contig P tot fs o = true → (∀ f ∈ fs, f.type ∈ L) →
      fs.mapM (fun f => DataW.trod enc P w base spare held fuel f.type ((cs.drop f.offset).take (P.cellsOf f.type))) = some xs →
      ∃ l, Rd w l (cs.drop o) ∧ Shps (Shp P fuel) (fs.map (·.type)) l
  | [], o, xs, hc, _, _ => by
    have : o = tot := Nat.eq_of_beq_eq_true hc
    refine ⟨[], ?_, rfl⟩
    rw [List.drop_of_length_le (by omega)]
    exact Rd.nil w
  | f :: r, o, xs, hc, hk, hm => by
    simp only [contig, Bool.and_eq_true] at hc
    have ho : f.offset = o := Nat.eq_of_beq_eq_true hc.1
    rw [List.mapM_cons] at hm
    cases hx : DataW.trod enc P w base spare held fuel f.type ((cs.drop f.offset).take (P.cellsOf f.type)) with
    | none => rw [hx] at hm; simp at hm
    | some x =>
      cases hr : r.mapM (fun f => DataW.trod enc P w base spare held fuel f.type ((cs.drop f.offset).take (P.cellsOf f.type))) with
      | none => rw [hx, hr] at hm; simp at hm
      | some xs' =>
        obtain ⟨a, ha, hsa⟩ := ih f.type _ x (hk f (by simp)) hx
        obtain ⟨b, hb, hsb⟩ := read_fields ih hcs r (o + P.cellsOf f.type) xs' hc.2 (fun g hg => hk g (List.mem_cons_of_mem _ hg)) hr
        refine ⟨a ++ b, ?_, ⟨a, b, rfl, hsa, hsb⟩⟩
        have e : cs.drop o = (cs.drop f.offset).take (P.cellsOf f.type) ++ cs.drop (o + P.cellsOf f.type) := by
          rw [ho, ← List.drop_drop, List.take_append_drop]
        rw [e]
        exact ha.append hb

theorem read (hL : okAll P L = true) (hmk : MkRows P L) : ∀ (fuel : Nat) (t : TypeId) (cs : List Value) (x : DataW H × List MemPlace), t ∈ L → DataW.trod enc P w base spare held fuel t cs = some x → ∃ l, Rd w l cs ∧ Shp P fuel t l
  | 0, _, _, _, _, h => by simp [DataW.trod] at h
  | fuel + 1, t, cs, x, hk, h => by
    have hok := List.all_eq_true.mp hL t hk
    unfold okTy at hok
    unfold Shp
    unfold DataW.trod at h
    cases hu : P.underlying t with
    | none => rw [hu] at hok; cases hok
    | some d =>
      cases d
      case bool =>
        simp only [hu] at h ⊢
        split at h <;> try simp_all <;> done
        rename_i b _
        exact ⟨[.val (.bool b)], Rd.one (.val _ rfl) rfl, b, rfl⟩
      case int k =>
        simp only [hu] at h ⊢
        split at h <;> try simp_all <;> done
        rename_i k1 k' n' h1
        obtain rfl : k = k1 := by simpa using h1
        split at h
        · rename_i hh
          obtain ⟨rfl, hw⟩ := hh
          exact ⟨[.val (.int _ n')], Rd.one (.val _ rfl) rfl, n', rfl, hw⟩
        · simp at h
      case string =>
        simp only [hu] at h ⊢
        split at h <;> try simp_all <;> done
        rename_i s _
        split at h
        · rename_i hh
          exact ⟨[.val (.string s)], Rd.one (.val _ rfl) rfl, s, rfl, hh⟩
        · simp at h
      case slice e =>
        simp only [hu] at h hok ⊢
        simp only [Bool.and_eq_true] at hok
        have heL := okIn_mem hok.1
        split at h <;> try simp_all <;> done
        · rename_i h1
          obtain ⟨y, hy⟩ := Option.isSome_iff_exists.1 hok.2
          obtain ⟨he, hn⟩ := LX.nil_spec e y hy
          refine ⟨[.lst false y], Rd.one ?_ rfl, y, rfl, he, by rw [hn]; exact Nat.zero_le _, fun i hi => by rw [hn] at hi; omega⟩
          exact Rel.le (.nil false y hn) (.val _ rfl)
        · rename_i e1 ad len cap h1
          obtain rfl : e = e1 := by simpa using h1
          split at h
          · rename_i hh
            obtain ⟨hb, hl, hc⟩ := hh
            cases hm : (List.range len).mapM (fun i => (w.cells? base (ad.add (i * P.cellsOf e)) (P.cellsOf e)).bind (DataW.trod enc P w base spare held fuel e)) with
            | none => simp [hm] at h
            | some ys =>
              have hlen : ys.length = len := by simpa using mapM_some_length hm
              have hget : ∀ i, i < len → ∃ (cs : List Value) (l : List PV), w.cells? base (ad.add (i * P.cellsOf e)) (P.cellsOf e) = some cs ∧ Rd w l cs ∧ Shp P fuel e l := by
                intro i hi
                have := mapM_some_get hm i i (by simp [hi])
                rw [List.getElem?_eq_getElem (by omega)] at this
                cases hcs : w.cells? base (ad.add (i * P.cellsOf e)) (P.cellsOf e) with
                | none => simp [hcs] at this
                | some cs =>
                  rw [hcs] at this
                  obtain ⟨l, h1, h2⟩ := read hL hmk fuel e cs _ heL this
                  exact ⟨cs, l, rfl, h1, h2⟩
              have hch : ∃ (f : Nat → List PV) (g : Nat → List Value), ∀ i, i < len → w.cells? base (ad.add (i * P.cellsOf e)) (P.cellsOf e) = some (g i) ∧ Rd w (f i) (g i) ∧ Shp P fuel e (f i) := by
                refine ⟨fun i => if hi : i < len then Classical.choose (Classical.choose_spec (hget i hi)) else [], fun i => if hi : i < len then Classical.choose (hget i hi) else [], fun i hi => ?_⟩
                simp only [hi, dif_pos]
                exact Classical.choose_spec (Classical.choose_spec (hget i hi))
              obtain ⟨f, g, hfg⟩ := hch
              obtain ⟨y, y1, y2, y3, y4⟩ := hmk e fuel len f heL hok.2 (fun i hi => (hfg i hi).2.2)
              refine ⟨[.lst false y], Rd.one ?_ rfl, y, rfl, y1, by rw [y2]; omega, fun i hi => by rw [y2] at hi; rw [y4 i hi]; exact (hfg i hi).2.2⟩
              have := Rel.row (w := w) (M := fun _ => none) (β := fun _ => none) (B := w.heap.size) (.lst false y) ⟨false, y.e, y.sz, y.len, y.row⟩ rfl (some ad) cap (fun i j => ((g i)[j]?).getD undef) (by show y.len ≤ cap; rw [y2]; exact hl)
                (fun i _ => LX.row_len _ _) (fun _ _ => ⟨ad, rfl⟩) ?_ ?_
              · simpa only [y2] using this
              · intro ad' i j p hea hi hp
                obtain rfl : ad = ad' := by simpa using hea
                have hi' : i < len := by rw [← y2]; exact hi
                obtain ⟨h1, h2, _⟩ := hfg i hi'
                obtain ⟨_, h4, h5⟩ := World.cells?_some h1
                have hp' : (f i)[j]? = some p := by rw [← y4 i hi']; exact hp
                have hj : j < (g i).length := by
                  have := (List.getElem?_eq_some_iff.mp hp').1
                  rw [h2.1] at this; exact this
                refine ⟨fun m hm => by simp at hm, ?_, ?_⟩
                · show w.cell? (ad.add (i * y.sz + j)) = _
                  rw [y3, ← add_add, h5 j (by omega), List.getElem?_eq_getElem hj]; simp
                · rw [List.getElem?_eq_getElem hj]
                  exact (h2.2 j p _ hp' (List.getElem?_eq_getElem hj)).2
              · intro i j p hi hp
                have hi' : i < len := by rw [← y2]; exact hi
                obtain ⟨h1, h2, _⟩ := hfg i hi'
                have hp' : (f i)[j]? = some p := by rw [← y4 i hi']; exact hp
                have hj : j < (g i).length := by
                  have := (List.getElem?_eq_some_iff.mp hp').1
                  rw [h2.1] at this; exact this
                rw [List.getElem?_eq_getElem hj]
                exact (h2.2 j p _ hp' (List.getElem?_eq_getElem hj)).1
          · simp at h
      case struct fs =>
        simp only [hu] at h hok ⊢
        simp only [Bool.and_eq_true] at hok
        split at h
        · rename_i hlen
          cases hm : fs.toList.mapM (fun f => DataW.trod enc P w base spare held fuel f.type ((cs.drop f.offset).take (P.cellsOf f.type))) with
          | none => rw [hm] at h; simp at h
          | some xs =>
            obtain ⟨l, h1, h2⟩ := read_fields (fun t cs x => read hL hmk fuel t cs x) hlen fs.toList 0 xs hok.1 (fun f hf => okIn_mem (List.all_eq_true.mp hok.2 f hf)) hm
            exact ⟨l, by simpa using h1, h2⟩
        · simp at h
      all_goals (rw [hu] at hok; cases hok)
end

def LeI (p q : PV) : Prop := ∀ (w : World) (M : Mut) (β : Loc) (B : Nat) (v : Value), Rel w M β B p v → Rel w M β B q v
theorem Holds.le {P : Program} {f : Nat} {args : List PV} {r r' : PV} (h : Holds P f args r) (hr : LeI r r') : Holds P f args r' :=
  fun w N vs h1 h2 h3 => (h w N vs h1 h2 h3).mono fun _ _ ⟨v, e, hv, hb⟩ => ⟨v, e, hr _ _ _ _ _ hv, hb⟩
theorem Holds.args {P : Program} {f : Nat} {args args' : List PV} {r : PV} (h : Holds P f args' r) (hl : args.length = args'.length) (ha : ∀ (i : Nat) (p q : PV), args[i]? = some p → args'[i]? = some q → LeI p q) : Holds P f args r := by
  intro w N vs h1 h2 h3
  refine h w N vs (by omega) (fun i q v hq hv => ?_) h3
  have hi : i < args.length := by have := (List.getElem?_eq_some_iff.mp hq).1; omega
  exact ha i _ q (List.getElem?_eq_getElem hi) hq _ _ _ _ _ (h2 i _ v (List.getElem?_eq_getElem hi) hv)
theorem LeI.nil {y : LX} {own : Bool} (h : y.len = 0) : LeI (.val (.slice none 0 0)) (.lst own y) := fun _ _ _ _ _ hv => hv.le (.nil own y h)
theorem LeI.view (p : PV) : LeI p p.view := fun _ _ _ _ _ hv => hv.view
theorem LeI.refl (p : PV) : LeI p p := fun _ _ _ _ _ hv => hv

section
variable {H : Type} {enc : TypeId × Value → H} {P : Program} {L : List Nat}
theorem post_below {f : Func} {s : ChangeSpec} {apart fresh handsOn again : Bool} {W W' : World} {args : Array Value} {v : Value} {ds gs : List (DataW H)} {before pa pv : List MemPlace}
    (hW : DataW.Whole enc P f.params.toList s.vars apart W args.toList ds gs before)
    (hres : ∀ (b : Nat) (sp : Nat → Bool) (hd : Bool), DataW.TrodAll enc P W' b sp hd f.resultTypes.toList (v.resultList f.resultTypes.size) (s.fn H (ds ++ gs)).results [])
    (hargs : ∀ sp : Nat → Bool, (∀ p ∈ before, sp p.block = true) → DataW.TrodAll enc P W' 0 sp true f.params.toList args.toList (s.fn H (ds ++ gs)).args pa)
    (hvars : ∀ sp : Nat → Bool, (∀ p ∈ before, sp p.block = true) → DataW.TrodVars enc P W' sp s.vars (s.fn H (ds ++ gs)).vars pv)
    (hps : before = pa ++ pv) (hb : Below W.heap.size W W')
    (hok : ∀ (j : Nat) (t : TypeId) (r : Value), f.resultTypes[j]? = some t → (v.resultList f.resultTypes.size)[j]? = some r → Value.okWide P W' .any 0 t r) :
    s.post enc P f apart fresh handsOn again W args v W' := by
  have hlt : ∀ p ∈ before, p.block < W.heap.size := fun p hp => hW.lt p hp
  have hold : ∀ p ∈ before, (fun b => decide (b < W.heap.size)) p.block = true := fun p hp => by simpa using hlt p hp
  refine ⟨ds, gs, before, [], pa, pv, hW, hres _ _ _, hargs _ hold, hvars _ hold, World.keptBut_mono (fun p hp => ⟨hp, ?_⟩) (hb.frame (· ∈ before)), fun _ => ?_⟩
  · rw [hps, List.mem_append] at hp
    exact Or.inr hp
  · obtain ⟨_, _, _, _, _, hz, hn⟩ := hW
    refine ⟨hok, _, _, ([] ++ pa) ++ pv, ⟨[] ++ pa, pv, trodAll_append (hargs _ (fun _ _ => rfl)) (hres _ _ _), hvars _ (fun _ _ => rfl), rfl, ?_, ?_⟩, ?_⟩
    · intro b off hp
      have hin : MemPlace.cell b off ∈ before := by rw [hps]; simpa using hp
      rw [hb.frozen (hlt _ hin)]
      exact hz b off hin
    · intro ha
      have := hn ha
      rw [hps] at this
      simpa using this
    · intro p hp _
      rw [hps]
      simpa using hp

/-- an argument -/
def argOK (P : Program) (t : TypeId) (p : PV) : Prop := ∃ n, match P.underlying t with
  | some (.struct _) => ∃ l, p = .agg l ∧ Shp P n t l
  | _ => Shp P n t [p]

def argsOK (P : Program) : List TypeId → List PV → Prop
  | [], l => l = []
  | t :: r, l => ∃ p q, l = p :: q ∧ argOK P t p ∧ argsOK P r q

/-- a parameter's type: is it all that the frame asks? -/
def parOK (P : Program) (L : List Nat) (t : TypeId) : Bool :=
  okIn t L && P.readableRec t && decide (t < P.types.size)

theorem noAgg {W : World} {r : Go.Reach} {base : Nat} {t : TypeId} {v : Value} (hk : okTy P L t = true) (hv : Value.okWide P W r base t v) :
    (∃ fs cs, P.underlying t = some (.struct fs) ∧ v = .agg cs) ∨ ((∀ fs, P.underlying t ≠ some (.struct fs)) ∧ v.cells.toList = [v] ∧ v.oneCell' = true) := by
  unfold okTy at hk
  cases hu : P.underlying t with
  | none => rw [hu] at hk; cases hk
  | some d =>
    cases d
    case bool => obtain ⟨b, rfl⟩ := okWide_bool hu hv; exact .inr ⟨by simp, rfl, rfl⟩
    case int k => obtain ⟨b, rfl⟩ := okWide_int hu hv; exact .inr ⟨by simp, rfl, rfl⟩
    case string => obtain ⟨b, rfl⟩ := okWide_string hu hv; exact .inr ⟨by simp, rfl, rfl⟩
    case slice e => obtain ⟨a, l, c, rfl⟩ := okWide_slice hu hv; exact .inr ⟨by simp, rfl, rfl⟩
    case struct fs =>
      simp only [Value.okWide, hu] at hv
      obtain ⟨cs, rfl, _⟩ := hv
      exact .inl ⟨_, cs, rfl, rfl⟩
    all_goals (rw [hu] at hk; cases hk)

theorem readArg (hL : okAll P L = true) (hmk : MkRows P L) {W : World} {r : Go.Reach} {base : Nat} {t : TypeId} {v : Value} {d : DataW H} {ps : List MemPlace} {sp : Nat → Bool}
    (hk : t ∈ L) (hv : Value.okWide P W r base t v) (h : DataW.Trod enc P W 0 sp true t v d ps) :
    ∃ p, argOK P t p ∧ RelN W p v := by
  obtain ⟨fuel, h⟩ := h
  obtain ⟨l, hl, hs⟩ := read hL hmk fuel t _ _ hk h
  rcases noAgg (List.all_eq_true.mp hL t hk) hv with ⟨fs, cs, e, rfl⟩ | ⟨e, h1, h2⟩
  · refine ⟨.agg l, ⟨fuel, ?_⟩, ?_⟩
    · rw [e]
      exact ⟨l, rfl, hs⟩
    · have : RelN W (.agg l) (.agg cs.toList.toArray) := .agg l cs.toList hl.1 (fun v hv => by
          obtain ⟨i, hi⟩ := List.getElem?_of_mem hv
          have hlt := (List.getElem?_eq_some_iff.mp hi).1
          have hlt' : i < l.length := by have := hl.1; simp only [Value.cells] at this; omega
          exact (hl.2 i _ v (List.getElem?_eq_getElem hlt') hi).2) (fun i p v h1 h2 => (hl.2 i p v h1 h2).1)
      exact this
  · rw [h1] at hl
    have hlen : l.length = 1 := hl.1
    obtain ⟨p, rfl⟩ : ∃ p, l = [p] := by
      match l, hlen with
      | [p], _ => exact ⟨p, rfl⟩
    refine ⟨p, ⟨fuel, ?_⟩, (hl.2 0 p v rfl rfl).1⟩
    split
    · rename_i fs hh; exact absurd hh (e _)
    · exact hs

theorem readArgs (hL : okAll P L = true) (hmk : MkRows P L) {W : World} {r : Go.Reach} {base : Nat} {sp : Nat → Bool} :
    ∀ (ts : List TypeId) (vs : List Value) (ds : List (DataW H)) (ps : List MemPlace), (∀ t ∈ ts, t ∈ L) →
      (∀ (j : Nat) (t : TypeId) (v : Value), ts[j]? = some t → vs[j]? = some v → Value.okWide P W r base t v) →
      DataW.TrodAll enc P W 0 sp true ts vs ds ps →
      ∃ l, argsOK P ts l ∧ vs.length = l.length ∧ ∀ (i : Nat) (p : PV) (v : Value), l[i]? = some p → vs[i]? = some v → RelN W p v
  | [], vs, ds, ps, _, _, h => by
    obtain ⟨rfl, rfl, rfl⟩ := trodAll_nil h
    exact ⟨[], rfl, rfl, fun i p v h => by simp at h⟩
  | t :: ts, vs, ds, ps, hk, hv, h => by
    obtain ⟨v, vs', d, ds', p, q, rfl, rfl, rfl, h1, h2⟩ := trodAll_cons h
    obtain ⟨a, ha, hra⟩ := readArg hL hmk (hk t (by simp)) (hv 0 t v rfl rfl) h1
    obtain ⟨l, hl, hlen, hr⟩ := readArgs hL hmk ts vs' ds' q (fun t ht => hk t (by simp [ht])) (fun j t v h1 h2 => hv (j + 1) t v (by simpa using h1) (by simpa using h2)) h2
    refine ⟨a :: l, ⟨a, l, rfl, ha, hl⟩, by simp [hlen], fun i p v hp hv => ?_⟩
    cases i with
    | zero => simp at hp hv; subst hp; subst hv; exact hra
    | succ i => exact hr i p v (by simpa using hp) (by simpa using hv)

theorem argsStay {W W' : World} (hl : laidOutB P = true) (hb : Below W.heap.size W W') {sp : Nat → Bool} :
    ∀ (ts : List TypeId) (vs : List Value) (ds : List (DataW H)) (ps : List MemPlace), (∀ t ∈ ts, P.readableRec t = true ∧ t < P.types.size) →
      DataW.TrodAll enc P W 0 (fun _ => true) true ts vs ds ps → (∀ p ∈ ps, p.block < W.heap.size) → (∀ p ∈ ps, sp p.block = true) →
      DataW.TrodAll enc P W' 0 sp true ts vs ds ps
  | [], vs, ds, ps, _, h, _, _ => by
    obtain ⟨rfl, rfl, rfl⟩ := trodAll_nil h
    exact rfl
  | t :: ts, vs, ds, ps, hk, h, hlt, hsp => by
    obtain ⟨v, vs', d, ds', p, q, rfl, rfl, rfl, h1, h2⟩ := trodAll_cons h
    have ht := hk t (by simp)
    exact trodAll_cons_mk (WideElems.Trod_stays hl ht.1 ht.2 h1 (fun x hx => hb.same (hlt x (by simp [hx]))) (fun x hx => hsp x (by simp [hx])))
      (argsStay hl hb ts vs' ds' q (fun t ht => hk t (by simp [ht])) h2 (fun x hx => hlt x (by simp [hx])) (fun x hx => hsp x (by simp [hx])))

theorem law_contract (hLk : okAll P L = true) (hmk : MkRows P L) {f : Nat} {fn : Func} {s : ChangeSpec} {tb : TypeId} {W : World} {base : Nat} {args : Array Value} {ds gs : List (DataW H)} {before : List MemPlace}
    (hl : laidOutB P = true) (hpar : (fn.params.toList.all (parOK P L)) = true) (hvars : s.vars = []) (hres : fn.resultTypes = #[tb]) (htb : P.underlying tb = some .bool)
    (hs : ∀ ds : List (DataW H), ds.length = fn.params.toList.length → s.fn H (ds ++ []) = { results := [.lit (.bool true)], args := ds })
    (hh : ∀ l, argsOK P fn.params.toList l → Holds P f l (.val (.bool true)))
    (hval : ∀ (j : Nat) t v, fn.params[j]? = some t → args[j]? = some v → Value.okWide P W .any base t v)
    {apart fresh handsOn again : Bool}
    (hW : DataW.Whole enc P fn.params.toList s.vars apart W args.toList ds gs before) :
    Calls P f args W fun e W' => ∃ v, e = .returned v ∧ s.post enc P fn apart fresh handsOn again W args v W' := by
  have hp : ∀ t ∈ fn.params.toList, t ∈ L ∧ P.readableRec t = true ∧ t < P.types.size := by
    intro t ht
    have := List.all_eq_true.mp hpar t ht
    simp only [parOK, Bool.and_eq_true, decide_eq_true_eq] at this
    exact ⟨okIn_mem this.1.1, this.1.2, this.2⟩
  have hW' := hW
  obtain ⟨p, q, hA, hV, rfl, hfz, hnd⟩ := hW
  rw [hvars] at hV
  obtain ⟨rfl, rfl⟩ := trodVars_none hV
  obtain ⟨l, hl1, hl2, hl3⟩ := readArgs hLk hmk fn.params.toList args.toList ds p (fun t ht => (hp t ht).1) (fun j t v h1 h2 => hval j t v (by simpa using h1) (by simpa using h2)) hA
  have hlen : ds.length = fn.params.toList.length := by
    clear hl1 hl2 hl3 hW' hfz hnd hval
    generalize fn.params.toList = ts at hA
    generalize args.toList = vs at hA
    induction ts generalizing vs ds p with
    | nil => obtain ⟨_, rfl, _⟩ := trodAll_nil hA; rfl
    | cons t ts ih =>
      obtain ⟨v, vs', d, ds', p, q, rfl, rfl, rfl, h1, h2⟩ := trodAll_cons hA
      simp [ih _ _ h2]
  have hc := hh l hl1 W (fun _ => none) args.toList hl2 hl3 (fun b n h => by simp at h)
  rw [Array.toArray_toList] at hc
  refine hc.mono fun e W' ⟨v, he, hr, hb⟩ => ⟨v, he, ?_⟩
  obtain rfl : v = .bool true := by exact hr.val_eq
  have hlt : ∀ x ∈ p, x.block < W.heap.size := fun x hx => hW'.lt x (by simpa using hx)
  refine post_below (pa := p) (pv := []) hW' ?_ ?_ ?_ rfl hb (ok_one hres rfl (okWide_bool_mk htb _))
  · intro b sp hd
    rw [hs ds hlen, hres]
    exact trodAll_cons_mk (shut_bool htb _) trodAll_mk0
  · intro sp hsp
    rw [hs ds hlen]
    exact argsStay hl hb _ _ _ _ (fun t ht => (hp t ht).2) hA hlt (fun x hx => hsp x (by simpa using hx))
  · intro sp _
    rw [hs ds hlen, hvars]
    rfl
end
end Go.Proofs.YtcbandfdmbkokaaGreat.Ev
