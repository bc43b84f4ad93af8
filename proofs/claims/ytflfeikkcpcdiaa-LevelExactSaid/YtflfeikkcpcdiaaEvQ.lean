/-  From 'Holds .. true' to what a law's statement asks: 'law_contract'. -/
import Derived.Test.YtflfeikkcpcdiaaEvP
import Derived.ProofKit
import Derived.OpenShut
import Derived.Carry
namespace Go.Proofs.Ytflfeikkcpcdiaa.Ev
open Go Go.RowKit Go.ChangeShapes Go.WideShapes Go.ChangeAt
set_option linter.unusedVariables false
set_option linter.unusedSimpArgs false
set_option linter.unnecessarySimpa false

section
variable {H : Type} {enc : TypeId × Value → H} {P : Program}
theorem post_below {f : Func} {s : ChangeSpec} {apart fresh handsOn again : Bool} {W W' : World} {args : Array Value} {v : Value} {ds gs : List (DataW H)} {before pa pv : List MemPlace}
    (hW : DataW.Whole enc P f.params.toList s.vars apart W args.toList ds gs before)
    (hres : ∀ (b : Nat) (sp : Nat → Bool) (hd : Bool), DataW.TrodAll enc P W' b sp hd f.resultTypes.toList (v.resultList f.resultTypes.size) (s.fn H (ds ++ gs)).results [])
    (hargs : ∀ sp : Nat → Bool, (∀ p ∈ before, sp p.block = true) → DataW.TrodAll enc P W' 0 sp true f.params.toList args.toList (s.fn H (ds ++ gs)).args pa)
    (hvars : ∀ sp : Nat → Bool, (∀ p ∈ before, sp p.block = true) → DataW.TrodVars enc P W' sp s.vars (s.fn H (ds ++ gs)).vars pv)
    (hps : before = pa ++ pv) (hb : Below W.heap.size W W')
    (hok : ∀ (j : Nat) (t : TypeId) (r : Value), f.resultTypes[j]? = some t → (v.resultList f.resultTypes.size)[j]? = some r → Value.okWide P W' .any 0 t r) :
    s.post enc P f apart fresh handsOn again W args v W' := by
  have hlt : ∀ p ∈ before, p.block < W.heap.size := fun p hp => hW.lt p hp
  have hold : ∀ p ∈ before, (fun b => decide (b < W.heap.size)) p.block = true := fun p hp => by simpa using hlt p hp
  refine ⟨ds, gs, before, [], pa, pv, hW, hres _ _ _, hargs _ hold, hvars _ hold, World.keptBut_mono (fun p hp => ⟨hp, ?_⟩) (hb.frame (· ∈ before)), fun _ => ?_⟩
  · rw [hps, List.mem_append] at hp
    exact Or.inr hp
  · obtain ⟨_, _, _, _, _, hz, hn⟩ := hW
    refine ⟨hok, _, _, ([] ++ pa) ++ pv, ⟨[] ++ pa, pv, trodAll_append (hargs _ (fun _ _ => rfl)) (hres _ _ _), hvars _ (fun _ _ => rfl), rfl, ?_, ?_⟩, ?_⟩
    · intro b off hp
      have hin : MemPlace.cell b off ∈ before := by rw [hps]; simpa using hp
      rw [hb.frozen (hlt _ hin)]
      exact hz b off hin
    · intro ha
      have := hn ha
      rw [hps] at this
      simpa using this
    · intro p hp _
      rw [hps]
      simpa using hp

def argOK : Ty → PV → Prop
  | .st ts, p => ∃ l, p = .agg l ∧ Shapes ts l
  | t, p => Shape t [p]

def argsOK : List Ty → List PV → Prop
  | [], l => l = []
  | t :: r, l => ∃ p q, l = p :: q ∧ argOK t p ∧ argsOK r q

/-- a parameter's type: is it all that the frame asks? -/
def parOK (P : Program) (n : Nat) (t : TypeId) : Bool :=
  (mkTy P n t).ok && P.readableRec t && decide (t < P.types.size)

theorem noAgg {n : Nat} {W : World} {r : Go.Reach} {base : Nat} {t : TypeId} {v : Value} (hk : (mkTy P n t).ok = true) (hv : Value.okWide P W r base t v) :
    (∃ ts cs, mkTy P n t = .st ts ∧ v = .agg cs) ∨ ((∀ ts, mkTy P n t ≠ .st ts) ∧ v.cells.toList = [v] ∧ v.oneCell' = true) := by
  cases n with
  | zero => simp [mkTy, Ty.ok] at hk
  | succ n =>
    unfold mkTy at hk ⊢
    cases hu : P.underlying t with
    | none => simp [hu, Ty.ok] at hk
    | some d =>
      cases d
      case bool => obtain ⟨b, rfl⟩ := okWide_bool hu hv; exact .inr ⟨by simp, rfl, rfl⟩
      case int k => obtain ⟨b, rfl⟩ := okWide_int hu hv; exact .inr ⟨by simp, rfl, rfl⟩
      case string => obtain ⟨b, rfl⟩ := okWide_string hu hv; exact .inr ⟨by simp, rfl, rfl⟩
      case slice e => obtain ⟨a, l, c, rfl⟩ := okWide_slice hu hv; exact .inr ⟨by simp, rfl, rfl⟩
      case struct fs =>
        simp only [hu] at hk ⊢
        split at hk
        · rename_i hc
          simp only [Value.okWide, hu] at hv
          obtain ⟨cs, rfl, _⟩ := hv
          exact .inl ⟨_, cs, rfl, rfl⟩
        · simp [Ty.ok] at hk
      all_goals (rw [hu] at hk; simp [Ty.ok] at hk)

theorem readArg {n : Nat} {W : World} {r : Go.Reach} {base : Nat} {t : TypeId} {v : Value} {d : DataW H} {ps : List MemPlace} {sp : Nat → Bool}
    (hk : (mkTy P n t).ok = true) (hv : Value.okWide P W r base t v) (h : DataW.Trod enc P W 0 sp true t v d ps) :
    ∃ p, argOK (mkTy P n t) p ∧ RelA W (fun _ => none) p v := by
  obtain ⟨fuel, h⟩ := h
  obtain ⟨l, hl, hs⟩ := read n fuel t _ _ hk h
  rcases noAgg hk hv with ⟨ts, cs, e, rfl⟩ | ⟨e, h1, h2⟩
  · refine ⟨.agg l, ?_, ?_⟩
    · rw [e] at hs ⊢
      exact ⟨l, rfl, by simpa [Shape] using hs⟩
    · have : RelI W (fun _ => none) (.agg l) (.agg cs.toList.toArray) := .agg l cs.toList hl.1 (fun v hv => by
          obtain ⟨i, hi⟩ := List.getElem?_of_mem hv
          have hlt := (List.getElem?_eq_some_iff.mp hi).1
          have hlt' : i < l.length := by have := hl.1; simp only [Value.cells] at this; omega
          exact (hl.2 i _ v (List.getElem?_eq_getElem hlt') hi).2) (fun i p v h1 h2 => (hl.2 i p v h1 h2).1)
      exact .imm _ _ (by simpa using this)
  · rw [h1] at hl
    have hlen : l.length = 1 := hl.1
    obtain ⟨p, rfl⟩ : ∃ p, l = [p] := by
      match l, hlen with
      | [p], _ => exact ⟨p, rfl⟩
    refine ⟨p, ?_, .imm _ _ (hl.2 0 p v rfl rfl).1⟩
    unfold argOK
    split
    · rename_i ts _ hh; exact absurd hh (e _)
    · exact hs

theorem readArgs {n : Nat} {W : World} {r : Go.Reach} {base : Nat} {sp : Nat → Bool} :
    ∀ (ts : List TypeId) (vs : List Value) (ds : List (DataW H)) (ps : List MemPlace), (∀ t ∈ ts, (mkTy P n t).ok = true) →
      (∀ (j : Nat) (t : TypeId) (v : Value), ts[j]? = some t → vs[j]? = some v → Value.okWide P W r base t v) →
      DataW.TrodAll enc P W 0 sp true ts vs ds ps →
      ∃ l, argsOK (ts.map (mkTy P n)) l ∧ vs.length = l.length ∧ ∀ (i : Nat) (p : PV) (v : Value), l[i]? = some p → vs[i]? = some v → RelA W (fun _ => none) p v
  | [], vs, ds, ps, _, _, h => by
    obtain ⟨rfl, rfl, rfl⟩ := trodAll_nil h
    exact ⟨[], rfl, rfl, fun i p v h => by simp at h⟩
  | t :: ts, vs, ds, ps, hk, hv, h => by
    obtain ⟨v, vs', d, ds', p, q, rfl, rfl, rfl, h1, h2⟩ := trodAll_cons h
    obtain ⟨a, ha, hra⟩ := readArg (hk t (by simp)) (hv 0 t v rfl rfl) h1
    obtain ⟨l, hl, hlen, hr⟩ := readArgs ts vs' ds' q (fun t ht => hk t (by simp [ht])) (fun j t v h1 h2 => hv (j + 1) t v (by simpa using h1) (by simpa using h2)) h2
    refine ⟨a :: l, ⟨a, l, rfl, ha, hl⟩, by simp [hlen], fun i p v hp hv => ?_⟩
    cases i with
    | zero => simp at hp hv; subst hp; subst hv; exact hra
    | succ i => exact hr i p v (by simpa using hp) (by simpa using hv)

theorem argsStay {W W' : World} (hl : laidOutB P = true) (hb : Below W.heap.size W W') {sp : Nat → Bool} :
    ∀ (ts : List TypeId) (vs : List Value) (ds : List (DataW H)) (ps : List MemPlace), (∀ t ∈ ts, P.readableRec t = true ∧ t < P.types.size) →
      DataW.TrodAll enc P W 0 (fun _ => true) true ts vs ds ps → (∀ p ∈ ps, p.block < W.heap.size) → (∀ p ∈ ps, sp p.block = true) →
      DataW.TrodAll enc P W' 0 sp true ts vs ds ps
  | [], vs, ds, ps, _, h, _, _ => by
    obtain ⟨rfl, rfl, rfl⟩ := trodAll_nil h
    exact rfl
  | t :: ts, vs, ds, ps, hk, h, hlt, hsp => by
    obtain ⟨v, vs', d, ds', p, q, rfl, rfl, rfl, h1, h2⟩ := trodAll_cons h
    have ht := hk t (by simp)
    exact trodAll_cons_mk (WideElems.Trod_stays hl ht.1 ht.2 h1 (fun x hx => hb.same (hlt x (by simp [hx]))) (fun x hx => hsp x (by simp [hx])))
      (argsStay hl hb ts vs' ds' q (fun t ht => hk t (by simp [ht])) h2 (fun x hx => hlt x (by simp [hx])) (fun x hx => hsp x (by simp [hx])))

theorem law_contract {f n : Nat} {fn : Func} {s : ChangeSpec} {tb : TypeId} {W : World} {base : Nat} {args : Array Value} {ds gs : List (DataW H)} {before : List MemPlace}
    (hl : laidOutB P = true) (hpar : (fn.params.toList.all (parOK P n)) = true) (hvars : s.vars = []) (hres : fn.resultTypes = #[tb]) (htb : P.underlying tb = some .bool)
    (hs : ∀ ds : List (DataW H), ds.length = fn.params.toList.length → s.fn H (ds ++ []) = { results := [.lit (.bool true)], args := ds })
    (hh : ∀ l, argsOK (fn.params.toList.map (mkTy P n)) l → Holds P f l (.val (.bool true)))
    (hval : ∀ (j : Nat) t v, fn.params[j]? = some t → args[j]? = some v → Value.okWide P W .any base t v)
    {apart fresh handsOn again : Bool}
    (hW : DataW.Whole enc P fn.params.toList s.vars apart W args.toList ds gs before) :
    Calls P f args W fun e W' => ∃ v, e = .returned v ∧ s.post enc P fn apart fresh handsOn again W args v W' := by
  have hp : ∀ t ∈ fn.params.toList, (mkTy P n t).ok = true ∧ P.readableRec t = true ∧ t < P.types.size := by
    intro t ht
    have := List.all_eq_true.mp hpar t ht
    simp only [parOK, Bool.and_eq_true, decide_eq_true_eq] at this
    exact ⟨this.1.1, this.1.2, this.2⟩
  have hW' := hW
  obtain ⟨p, q, hA, hV, rfl, hfz, hnd⟩ := hW
  rw [hvars] at hV
  obtain ⟨rfl, rfl⟩ := trodVars_none hV
  obtain ⟨l, hl1, hl2, hl3⟩ := readArgs (n := n) fn.params.toList args.toList ds p (fun t ht => (hp t ht).1) (fun j t v h1 h2 => hval j t v (by simpa using h1) (by simpa using h2)) hA
  have hlen : ds.length = fn.params.toList.length := by
    clear hl1 hl2 hl3 hW' hfz hnd hval
    generalize fn.params.toList = ts at hA
    generalize args.toList = vs at hA
    induction ts generalizing vs ds p with
    | nil => obtain ⟨_, rfl, _⟩ := trodAll_nil hA; rfl
    | cons t ts ih =>
      obtain ⟨v, vs', d, ds', p, q, rfl, rfl, rfl, h1, h2⟩ := trodAll_cons hA
      simp [ih _ _ h2]
  have hc := hh l hl1 W (fun _ => none) args.toList hl2 hl3 (fun b n h => by simp at h)
  rw [Array.toArray_toList] at hc
  refine hc.mono fun e W' ⟨v, he, hr, hb⟩ => ⟨v, he, ?_⟩
  obtain rfl : v = .bool true := by cases hr with | val v h => rfl
  have hlt : ∀ x ∈ p, x.block < W.heap.size := fun x hx => hW'.lt x (by simpa using hx)
  refine post_below (pa := p) (pv := []) hW' ?_ ?_ ?_ rfl hb (ok_one hres rfl (okWide_bool_mk htb _))
  · intro b sp hd
    rw [hs ds hlen, hres]
    exact trodAll_cons_mk (shut_bool htb _) trodAll_mk0
  · intro sp hsp
    rw [hs ds hlen]
    exact argsStay hl hb _ _ _ _ (fun t ht => (hp t ht).2) hA hlt (fun x hx => hsp x (by simpa using hx))
  · intro sp _
    rw [hs ds hlen, hvars]
    rfl
end
end Go.Proofs.Ytflfeikkcpcdiaa.Ev
