/-  What a readable argument is to the evaluator: 'read'. -/
import Derived.Test.YtflfeikkcpcdiaaEvN
import Derived.DataReads
namespace Go.Proofs.Ytflfeikkcpcdiaa.Ev
open Go
set_option linter.unusedVariables false
set_option linter.unusedSimpArgs false
set_option linter.unnecessarySimpa false

inductive Ty where
  | bool
  | int (k : IntKind)
  | str
  | any1
  | sl (e sz : Nat) (t : Ty)
  | st (ts : List Ty)
  | bad

def contig (P : Program) (tot : Nat) : List Field → Nat → Bool
  | [], o => Nat.beq o tot
  | f :: r, o => Nat.beq f.offset o && contig P tot r (o + P.cellsOf f.type)

def mkTy (P : Program) : Nat → TypeId → Ty
  | 0, _ => .bad
  | n + 1, t => match P.underlying t with
    | some .bool => .bool
    | some (.int k) => .int k
    | some .string => .str
    | some (.slice e) => .sl e (P.cellsOf e) (mkTy P n e)
    | some (.struct fs) => match contig P (P.cellsOf t) fs.toList 0 with
      | true => .st (fs.toList.map fun f => mkTy P n f.type)
      | false => .bad
    | _ => .bad

mutual
def Ty.ok : Ty → Bool
  | .bad => false
  | .sl _ _ t => t.ok
  | .st ts => oks ts
  | _ => true
def oks : List Ty → Bool
  | [] => true
  | t :: r => t.ok && oks r
end

mutual
def Shape : Ty → List PV → Prop
  | .bool, l => ∃ b, l = [.val (.bool b)]
  | .int k, l => ∃ n, l = [.val (.int k n)] ∧ (Lit.int k n).wf = true
  | .str, l => ∃ s, l = [.val (.string s)] ∧ s.size ≤ maxLen
  | .any1, l => l = [.any]
  | .sl e sz t, l => ∃ n f, l = [.arr e sz n f] ∧ n ≤ maxLen ∧ ∀ i, i < n → Shape t (f i)
  | .st ts, l => Shapes ts l
  | .bad, _ => False
def Shapes : List Ty → List PV → Prop
  | [], l => l = []
  | t :: r, l => ∃ a b, l = a ++ b ∧ Shape t a ∧ Shapes r b
end

def Rd (w : World) (l : List PV) (cs : List Value) : Prop :=
  l.length = cs.length ∧ ∀ (i : Nat) (p : PV) (v : Value), l[i]? = some p → cs[i]? = some v → RelI w (fun _ => none) p v ∧ v.oneCell' = true

theorem Rd.nil (w : World) : Rd w [] [] := ⟨rfl, fun i p v h => by simp at h⟩
theorem Rd.one {w : World} {p : PV} {v : Value} (h : RelI w (fun _ => none) p v) (h1 : v.oneCell' = true) : Rd w [p] [v] := by
  refine ⟨rfl, fun i q u hq hu => ?_⟩
  cases i with
  | zero => simp at hq hu; subst hq; subst hu; exact ⟨h, h1⟩
  | succ i => simp at hq
theorem Rd.append {w : World} {l m : List PV} {cs ds : List Value} (h : Rd w l cs) (h' : Rd w m ds) : Rd w (l ++ m) (cs ++ ds) := by
  refine ⟨by simp [h.1, h'.1], fun i p v hp hv => ?_⟩
  by_cases hi : i < l.length
  · rw [List.getElem?_append_left hi] at hp
    rw [List.getElem?_append_left (h.1 ▸ hi)] at hv
    exact h.2 i p v hp hv
  · rw [List.getElem?_append_right (by omega)] at hp
    rw [List.getElem?_append_right (by have := h.1; omega), ← h.1] at hv
    exact h'.2 _ p v hp hv

section
variable {H : Type} {enc : TypeId × Value → H} {P : Program} {w : World} {base : Nat} {spare : Nat → Bool} {held : Bool}

theorem read_fields {fuel n : Nat} (ih : ∀ (t : TypeId) (cs : List Value) (x : DataW H × List MemPlace), (mkTy P n t).ok = true → DataW.trod enc P w base spare held fuel t cs = some x → ∃ l, Rd w l cs ∧ Shape (mkTy P n t) l)
    {cs : List Value} {tot : Nat} (hcs : cs.length = tot) :
    ∀ (fs : List Field) (o : Nat) (xs : List (DataW H × List MemPlace)), contig P tot fs o = true → oks (fs.map fun f => mkTy P n f.type) = true →
      fs.mapM (fun f => DataW.trod enc P w base spare held fuel f.type ((cs.drop f.offset).take (P.cellsOf f.type))) = some xs →
      ∃ l, Rd w l (cs.drop o) ∧ Shapes (fs.map fun f => mkTy P n f.type) l
  | [], o, xs, hc, _, _ => by
    have : o = tot := Nat.eq_of_beq_eq_true hc
    refine ⟨[], ?_, rfl⟩
    rw [List.drop_of_length_le (by omega)]
    exact Rd.nil w
  | f :: r, o, xs, hc, hk, hm => by
    simp only [contig, Bool.and_eq_true] at hc
    have ho : f.offset = o := Nat.eq_of_beq_eq_true hc.1
    simp only [List.map_cons, oks, Bool.and_eq_true] at hk
    rw [List.mapM_cons] at hm
    cases hx : DataW.trod enc P w base spare held fuel f.type ((cs.drop f.offset).take (P.cellsOf f.type)) with
    | none => rw [hx] at hm; simp at hm
    | some x =>
      cases hr : r.mapM (fun f => DataW.trod enc P w base spare held fuel f.type ((cs.drop f.offset).take (P.cellsOf f.type))) with
      | none => rw [hx, hr] at hm; simp at hm
      | some xs' =>
        obtain ⟨a, ha, hsa⟩ := ih f.type _ x hk.1 hx
        obtain ⟨b, hb, hsb⟩ := read_fields ih hcs r (o + P.cellsOf f.type) xs' hc.2 hk.2 hr
        refine ⟨a ++ b, ?_, ⟨a, b, rfl, hsa, hsb⟩⟩
        have e : cs.drop o = (cs.drop f.offset).take (P.cellsOf f.type) ++ cs.drop (o + P.cellsOf f.type) := by
          rw [ho, ← List.drop_drop, List.take_append_drop]
        rw [e]
        exact ha.append hb

theorem read : ∀ (n fuel : Nat) (t : TypeId) (cs : List Value) (x : DataW H × List MemPlace), (mkTy P n t).ok = true → DataW.trod enc P w base spare held fuel t cs = some x → ∃ l, Rd w l cs ∧ Shape (mkTy P n t) l
  | 0, _, _, _, _, h, _ => by simp [mkTy, Ty.ok] at h
  | _ + 1, 0, _, _, _, _, h => by simp [DataW.trod] at h
  | n + 1, fuel + 1, t, cs, x, hk, h => by
    unfold mkTy at hk ⊢
    unfold DataW.trod at h
    cases hu : P.underlying t with
    | none => simp [hu, Ty.ok] at hk
    | some d =>
      cases d
      case bool =>
        simp only [hu] at h hk ⊢
        split at h <;> try simp_all <;> done
        rename_i b _
        exact ⟨[.val (.bool b)], Rd.one (.val _ rfl) rfl, b, rfl⟩
      case int k =>
        simp only [hu] at h hk ⊢
        split at h <;> try simp_all <;> done
        rename_i k1 k' n' h1
        obtain rfl : k = k1 := by simpa using h1
        split at h
        · rename_i hh
          obtain ⟨rfl, hw⟩ := hh
          exact ⟨[.val (.int _ n')], Rd.one (.val _ rfl) rfl, n', rfl, hw⟩
        · simp at h
      case string =>
        simp only [hu] at h hk ⊢
        split at h <;> try simp_all <;> done
        rename_i s _
        split at h
        · rename_i hh
          exact ⟨[.val (.string s)], Rd.one (.val _ rfl) rfl, s, rfl, hh⟩
        · simp at h
      case slice e =>
        simp only [hu] at h hk ⊢
        split at h <;> try simp_all <;> done
        · rename_i h1
          refine ⟨[.arr e (P.cellsOf e) 0 (fun _ => [])], Rd.one ?_ rfl, 0, _, rfl, by simp, by simp⟩
          exact .arr e _ 0 _ none 0 (fun _ _ => undef) (by simp) (by simp) (by simp) (by simp) (by simp)
        · rename_i e1 ad len cap h1
          obtain rfl : e = e1 := by simpa using h1
          split at h
          · rename_i hh
            obtain ⟨hb, hl, hc⟩ := hh
            cases hm : (List.range len).mapM (fun i => (w.cells? base (ad.add (i * P.cellsOf e)) (P.cellsOf e)).bind (DataW.trod enc P w base spare held fuel e)) with
            | none => simp [hm] at h
            | some ys =>
              have hlen : ys.length = len := by simpa using mapM_some_length hm
              have hget : ∀ i, i < len → ∃ (cs : List Value) (l : List PV), w.cells? base (ad.add (i * P.cellsOf e)) (P.cellsOf e) = some cs ∧ Rd w l cs ∧ Shape (mkTy P n e) l := by
                intro i hi
                have := mapM_some_get hm i i (by simp [hi])
                rw [List.getElem?_eq_getElem (by omega)] at this
                cases hcs : w.cells? base (ad.add (i * P.cellsOf e)) (P.cellsOf e) with
                | none => simp [hcs] at this
                | some cs =>
                  rw [hcs] at this
                  obtain ⟨l, h1, h2⟩ := read n fuel e cs _ (by simpa [Ty.ok] using hk) this
                  exact ⟨cs, l, rfl, h1, h2⟩
              have hch : ∃ (f : Nat → List PV) (g : Nat → List Value), ∀ i, i < len → w.cells? base (ad.add (i * P.cellsOf e)) (P.cellsOf e) = some (g i) ∧ Rd w (f i) (g i) ∧ Shape (mkTy P n e) (f i) := by
                refine ⟨fun i => if hi : i < len then Classical.choose (Classical.choose_spec (hget i hi)) else [], fun i => if hi : i < len then Classical.choose (hget i hi) else [], fun i hi => ?_⟩
                simp only [hi, dif_pos]
                exact Classical.choose_spec (Classical.choose_spec (hget i hi))
              obtain ⟨f, g, hfg⟩ := hch
              refine ⟨[.arr e (P.cellsOf e) len f], Rd.one ?_ rfl, len, f, rfl, by omega, fun i hi => (hfg i hi).2.2⟩
              refine .arr e _ len f (some ad) cap (fun i j => ((g i)[j]?).getD undef) hl ?_ (fun _ _ => ⟨ad, rfl⟩) ?_ ?_
              · intro i hi
                obtain ⟨h1, h2, _⟩ := hfg i hi
                rw [h2.1]
                exact (World.cells?_some h1).2.1
              · intro ad' i j p hea hi hp
                obtain rfl : ad = ad' := by simpa using hea
                obtain ⟨h1, h2, _⟩ := hfg i hi
                obtain ⟨_, h4, h5⟩ := World.cells?_some h1
                have hj : j < (g i).length := by
                  have := (List.getElem?_eq_some_iff.mp hp).1
                  rw [h2.1] at this; exact this
                refine ⟨fun m hm => by simp at hm, ?_, ?_⟩
                · rw [← add_add, h5 j (by omega), List.getElem?_eq_getElem hj]; simp
                · rw [List.getElem?_eq_getElem hj]
                  exact (h2.2 j p _ hp (List.getElem?_eq_getElem hj)).2
              · intro i j p hi hp
                obtain ⟨h1, h2, _⟩ := hfg i hi
                have hj : j < (g i).length := by
                  have := (List.getElem?_eq_some_iff.mp hp).1
                  rw [h2.1] at this; exact this
                rw [List.getElem?_eq_getElem hj]
                exact (h2.2 j p _ hp (List.getElem?_eq_getElem hj)).1
          · simp at h
      case struct fs =>
        simp only [hu] at h hk ⊢
        split at hk
        · rename_i hc
          split at h
          · rename_i hlen
            cases hm : fs.toList.mapM (fun f => DataW.trod enc P w base spare held fuel f.type ((cs.drop f.offset).take (P.cellsOf f.type))) with
            | none => rw [hm] at h; simp at h
            | some xs =>
              obtain ⟨l, h1, h2⟩ := read_fields (fun t cs x => read n fuel t cs x) hlen fs.toList 0 xs hc (by simpa [Ty.ok] using hk) hm
              exact ⟨l, by simpa using h1, h2⟩
          · simp at h
        · simp [Ty.ok] at hk
      all_goals (rw [hu] at hk; simp [Ty.ok] at hk)
end

/-- 'q' says less than 'p'. -/
def LeI (p q : PV) : Prop := ∀ (w : World) (M : Mut) (v : Value), RelI w M p v → RelI w M q v
def LeA (p q : PV) : Prop := ∀ (w : World) (N : Mut) (v : Value), RelA w N p v → RelA w N q v
theorem LeI.refl (p : PV) : LeI p p := fun _ _ _ h => h
theorem LeI.trans {p q r : PV} (h : LeI p q) (h' : LeI q r) : LeI p r := fun w M v hv => h' w M v (h w M v hv)
theorem LeI.arr {e sz n : Nat} {f g : Nat → List PV} (h : ∀ i, i < n → f i = g i) : LeI (.arr e sz n f) (.arr e sz n g) := by
  intro w M v hv
  cases hv with
  | arr _ _ _ _ a c vs hc hsz ha hm hr =>
    exact .arr e sz n g a c vs hc (fun i hi => h i hi ▸ hsz i hi) ha (fun ad i j p h1 h2 h3 => hm ad i j p h1 h2 (by rw [h i h2]; exact h3)) (fun i j p h1 h2 => hr i j p h1 (by rw [h i h1]; exact h2))
theorem LeI.sl_arr {own : Bool} {e sz : Nat} {es : List (List PV)} {g : Nat → List PV} (h : ∀ i x, es[i]? = some x → g i = x) : LeI (.sl own e sz es) (.arr e sz es.length g) := by
  intro w M v hv
  cases hv with
  | sl _ _ _ _ a c vs hc hsz ha hm hr =>
    have key : ∀ i, i < es.length → es[i]? = some (g i) := fun i hi => by
      have := List.getElem?_eq_getElem hi
      rw [this, h i _ this]
    exact .arr e sz _ g a c vs hc (fun i hi => hsz i _ (key i hi)) (fun i hi => ha i _ (key i hi)) (fun ad i j p h1 h2 h3 => hm ad i _ j p h1 (key i h2) h3) (fun i j p h1 h2 => hr i _ j p (key i h1) h2)
theorem Holds.le {P : Program} {f : Nat} {args : List PV} {r r' : PV} (h : Holds P f args r) (hr : LeI r r') : Holds P f args r' :=
  fun w N vs h1 h2 h3 => (h w N vs h1 h2 h3).mono fun _ _ ⟨v, e, hv, hb⟩ => ⟨v, e, hr _ _ _ hv, hb⟩
theorem LeI.toA {p q : PV} (h : LeI p q) (hp : ∀ l, p ≠ .ref l) (hp' : ∀ d o, p ≠ .loc d o) : LeA p q := by
  intro w N v hv
  cases hv with
  | imm _ _ h' => exact .imm _ _ (h _ _ _ h')
  | loc d o b h' => exact absurd rfl (hp' d o)
  | ref l ad vs hm hr => exact absurd rfl (hp l)
theorem Holds.args {P : Program} {f : Nat} {args args' : List PV} {r : PV} (h : Holds P f args' r) (hl : args.length = args'.length) (ha : ∀ (i : Nat) (p q : PV), args[i]? = some p → args'[i]? = some q → LeA p q) : Holds P f args r := by
  intro w N vs h1 h2 h3
  refine h w N vs (by omega) (fun i q v hq hv => ?_) h3
  have hi : i < args.length := by have := (List.getElem?_eq_some_iff.mp hq).1; omega
  exact ha i _ q (List.getElem?_eq_getElem hi) hq _ _ _ (h2 i _ v (List.getElem?_eq_getElem hi) hv)
end Go.Proofs.Ytflfeikkcpcdiaa.Ev
