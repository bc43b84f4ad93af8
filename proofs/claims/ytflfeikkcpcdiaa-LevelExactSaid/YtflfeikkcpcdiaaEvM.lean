/-  Regions in any order; code; functions. -/
import Derived.Test.YtflfeikkcpcdiaaEvL
namespace Go.Proofs.Ytflfeikkcpcdiaa.Ev
open Go Go.RowKit
set_option linter.unusedVariables false
set_option linter.unusedSimpArgs false
set_option linter.unnecessarySimpa false

section
variable {P : Program} {C : Oracle} {ban : List Nat} {w0 w : World} {N M : Mut} {β : Nat → Option Nat} {nt : Nat} {st : St} {a : Act}

def maskL (listed : Array Bool) : Nat → Bool := fun i => listed.getD i false

theorem madeBy_spec : ∀ (l : List EOp) (eo : EOp) (d : Nat), eo ∈ l → eo.k.makes = true → eo.dst = some d → d ∈ madeBy l := by
  intro l
  induction l with
  | nil => intro eo d h; cases h
  | cons e l ih =>
    intro eo d hm hk hd
    simp only [madeBy]
    rcases List.mem_cons.1 hm with e1 | e1
    · subst e1; rw [hk, hd]; simp
    · have := ih eo d e1 hk hd
      cases h1 : e.k.makes <;> cases h2 : e.dst <;> simp only [h1, h2] <;> first | exact this | exact List.mem_cons_of_mem _ this

theorem inPairs_spec {a b : Nat} : ∀ {ap : List (Nat × Nat)}, inPairs a b ap = true → ∃ c d, (c, d) ∈ ap ∧ ((a = c ∧ b = d) ∨ (a = d ∧ b = c))
  | [], h => by simp [inPairs] at h
  | (c, d) :: r, h => by
    simp only [inPairs, Bool.or_eq_true, Bool.and_eq_true] at h
    rcases h with (h | h) | h
    · exact ⟨c, d, by simp, .inl ⟨nat_beq h.1, nat_beq h.2⟩⟩
    · exact ⟨c, d, by simp, .inr ⟨nat_beq h.1, nat_beq h.2⟩⟩
    · obtain ⟨c', d', h1, h2⟩ := inPairs_spec h
      exact ⟨c', d', List.mem_cons_of_mem _ h1, h2⟩

theorem inPairs_symm (a b : Nat) : ∀ (ap : List (Nat × Nat)), inPairs a b ap = inPairs b a ap
  | [] => rfl
  | (c, d) :: r => by
    simp only [inPairs, inPairs_symm a b r]
    cases Nat.beq a c <;> cases Nat.beq b d <;> cases Nat.beq a d <;> cases Nat.beq b c <;> rfl

theorem freed_symm (ap : List (Nat × Nat)) (x y : EOp) : freed ap x y = freed ap y x := by
  unfold freed
  cases x.k.addr <;> cases y.k.addr <;> simp [inPairs_symm]

theorem apartOK_spec : ∀ {ap : List (Nat × Nat)}, apartOK st ap = true → ∀ a b, (a, b) ∈ ap → ∃ d o d' o', st.get a = .loc d o ∧ st.get b = .loc d' o' ∧ d ≠ d'
  | [], _, _, _, h => by cases h
  | (c, e) :: r, h, a, b, hm => by
    simp only [apartOK] at h
    split at h
    · rename_i d o d' o' h1 h2
      cases hb : Nat.beq d d' with
      | true => rw [hb] at h; cases h
      | false =>
        rw [hb] at h
        rcases List.mem_cons.1 hm with e' | e'
        · injection e' with e1 e2
          subst e1; subst e2
          exact ⟨d, o, d', o', h1, h2, fun e => by subst e; simp at hb⟩
        · exact apartOK_spec h a b e'
    · cases h

theorem unwritten_spec {a : Nat} : ∀ {l : List EOp}, unwritten a l = true → ∀ e ∈ l, a ∉ e.writes
  | [], _, _, h => by cases h
  | x :: r, h, e, hm => by
    simp only [unwritten] at h
    cases hn : notIn a x.writes with
    | false => rw [hn] at h; cases h
    | true =>
      rw [hn] at h
      rcases List.mem_cons.1 hm with e' | e'
      · subst e'; exact (notIn_iff _ _).1 hn
      · exact unwritten_spec h e e'

theorem apUnwritten_spec {l : List EOp} : ∀ {ap : List (Nat × Nat)}, apUnwritten l ap = true → ∀ a b, (a, b) ∈ ap → unwritten a l = true ∧ unwritten b l = true
  | [], _, _, _, h => by cases h
  | (c, e) :: r, h, a, b, hm => by
    simp only [apUnwritten, Bool.and_eq_true] at h
    rcases List.mem_cons.1 hm with e' | e'
    · injection e' with e1 e2
      subst e1; subst e2
      exact h.1
    · exact apUnwritten_spec h.2 a b e'

theorem draw_sound {ap : List (Nat × Nat)} (hap : apartOK st ap = true) {os : Array Oper} {l : List EOp} {δs : List Delta} {st' : St} (hr : Run P (madeBy l) l st δs st') (hco : cOps P os os.toList = some l) (hds : dstsOK nt l = true)
    (hok0 : drawOK ap os.toList l = true) {Q : Exit → Act → World → Prop} (hQ : ∀ a' w' M' β', SR w0 N nt st' a' w' M' β' → Q .normal a' w') :
    ∀ (fuel : Nat) (listed : Array Bool), listed.size = os.size → ((List.range os.size).filter fun i => !listed.getD i false).length = fuel →
      (∀ (j : Nat) (o : Oper), os[j]? = some o → listed.getD j false = true → ∀ e ∈ edgesOf o, listed.getD e false = true) →
      ∀ (a : Act) (w : World) (M : Mut) (β : Nat → Option Nat), SR w0 N nt (stM δs (maskL listed) st) a w M β → wpAny P .any os Q fuel listed a w := by
  simp only [drawOK, Bool.and_eq_true] at hok0
  obtain ⟨hau, hok⟩ := hok0
  obtain ⟨hlen, hsp⟩ := cOps_spec _ _ hco
  have hlen' : δs.length = os.size := by rw [hr.length, hlen]; simp
  have hll : l.length = os.size := by rw [hlen]; simp
  have hpair : ∀ i j, i < j → j < os.size → ∀ x y, l[i]? = some x → l[j]? = some y → clash ap x y = true → Reach os.toList j i := by
    intro i j hij hj x y hx hy hc
    have h1 := below_spec hok j (by simpa using hj)
    simp only [Bool.and_eq_true] at h1
    have h2 := below_spec h1.1 i hij
    simp only [pairOK, hx, hy, hc] at h2
    exact ancs_spec os.toList os.toList [] (fun k o hk => by simpa using hk) (fun j i hb => by simp at hb) j i h2
  have hedge : ∀ j (o : Oper), os[j]? = some o → ∀ e ∈ edgesOf o, e < j := by
    intro j o ho e he
    have hj : j < os.size := (Array.getElem?_eq_some_iff.1 ho).1
    have h1 := below_spec hok j (by simpa using hj)
    simp only [Bool.and_eq_true] at h1
    have h2 := h1.2
    rw [show os.toList[j]? = some o by simpa using ho] at h2
    exact edgesBelow_spec j _ h2 e he
  intro fuel
  induction fuel with
  | zero =>
    intro listed hs hc hcl a w M β h
    have hall : ∀ i, i < os.size → listed.getD i false = true := by
      intro i hi
      have h0 := List.eq_nil_of_length_eq_zero hc
      cases hb : listed.getD i false with
      | true => rfl
      | false =>
        have : i ∈ (List.range os.size).filter fun i => !listed.getD i false := List.mem_filter.2 ⟨by simpa using hi, by simp [hb]⟩
        rw [h0] at this; cases this
    have e : stM δs (maskL listed) st = st' := by
      rw [hr.last]
      exact stM_congr _ _ _ _ (fun j hj => hall j (by omega))
    rw [e] at h
    refine ⟨?_, hQ _ _ _ _ h⟩
    apply List.eq_nil_iff_forall_not_mem.2
    intro i hi
    obtain ⟨h1, o, ho, _⟩ := mem_ready.1 hi
    have hio : i < os.size := (Array.getElem?_eq_some_iff.1 ho).1
    have := hall i hio
    rw [Array.getD_eq_getD_getElem?] at this h1
    rw [Array.getElem?_eq_getElem (by omega)] at this h1
    simp at this h1
    rw [this] at h1; cases h1
  | succ fuel ih =>
    intro listed hs hc hcl a w M β h
    refine ⟨fun hn => ?_, fun i hi => ?_⟩
    · -- something is always ready
      exfalso
      have hex : ∃ i, i < os.size ∧ listed.getD i false = false := by
        have hne : ((List.range os.size).filter fun i => !listed.getD i false) ≠ [] := by intro e; rw [e] at hc; simp at hc
        obtain ⟨i, hi⟩ := List.exists_mem_of_ne_nil _ hne
        obtain ⟨h1, h2⟩ := List.mem_filter.1 hi
        exact ⟨i, by simpa using h1, by simpa using h2⟩
      have least : ∀ n, (∃ i, i < n ∧ i < os.size ∧ listed.getD i false = false) → ∃ i, i < os.size ∧ listed.getD i false = false ∧ ∀ j, j < i → listed.getD j false = true := by
        intro n
        induction n with
        | zero => rintro ⟨i, h1, _⟩; omega
        | succ n ihn =>
          rintro ⟨i, h1, h2, h3⟩
          by_cases hl : ∃ j, j < n ∧ j < os.size ∧ listed.getD j false = false
          · exact ihn hl
          · refine ⟨i, h2, h3, fun j hj => ?_⟩
            cases hb : listed.getD j false with
            | true => rfl
            | false => exact absurd ⟨j, by omega, by omega, hb⟩ hl
      obtain ⟨i0, hi0, hi0'⟩ := hex
      obtain ⟨i, h1, h2, h3⟩ := least os.size ⟨i0, hi0, hi0, hi0'⟩
      have ho : os[i]? = some os[i] := Array.getElem?_eq_getElem h1
      have : i ∈ Region.ready .any os listed := mem_ready.2 ⟨by
        rw [Array.getD_eq_getD_getElem?] at h2 ⊢
        rw [Array.getElem?_eq_getElem (by omega)] at h2 ⊢
        simpa using h2, _, ho, fun e he hb => h3 _ (hedge i _ ho _ (mem_edgesOf he hb))⟩
      rw [hn] at this; cases this
    · obtain ⟨h1, o, ho, hall⟩ := mem_ready.1 hi
      have hio : i < os.size := (Array.getElem?_eq_some_iff.1 ho).1
      have hun : listed.getD i false = false := by
        rw [Array.getD_eq_getD_getElem?] at h1 ⊢
        rw [Array.getElem?_eq_getElem (by omega)] at h1 ⊢
        simpa using h1
      have hdep : ∀ e ∈ edgesOf o, listed.getD e false = true := fun e he => by
        obtain ⟨ed, q1, q2, rfl⟩ := edgesOf_mem he
        exact hall ed q1 q2
      -- what must come before has come before
      have reach : ∀ j k, Reach os.toList j k → listed.getD j false = true → listed.getD k false = true := by
        intro j k hrk
        induction hrk with
        | one j o i ho hi => intro hj; exact hcl j o (by simpa using ho) hj i hi
        | more j o e i ho he _ ih2 => intro hj; exact ih2 (hcl j o (by simpa using ho) hj e he)
      have reachI : ∀ k, Reach os.toList i k → listed.getD k false = true := by
        intro k hrk
        cases hrk with
        | one _ o' _ ho' hi' =>
          have : o' = o := by rw [show os.toList[i]? = some o by simpa using ho] at ho'; injection ho' with ho'; exact ho'.symm
          subst this; exact hdep k hi'
        | more _ o' e _ ho' he' hr' =>
          have : o' = o := by rw [show os.toList[i]? = some o by simpa using ho] at ho'; injection ho' with ho'; exact ho'.symm
          subst this; exact reach e k hr' (hdep e he')
      obtain ⟨eo, g1, g2, g3, g4⟩ := hsp i o (by simpa using ho)
      have hd : δs[i]? = some (δs[i]'(by omega)) := List.getElem?_eq_getElem (by omega)
      have hos := hr.at i eo _ g1 hd
      have foot : ∀ (j : Nat) (δ : Delta), δs[j]? = some δ → ∃ ej : EOp, l[j]? = some ej ∧ (∀ s ∈ δ.s.map Prod.fst, s ∈ ej.writes) ∧ (∀ b ∈ δ.o.map Prod.fst, (ej.k.isStore = true ∧ ∀ a, ej.k.addr = some a → ∃ off, (stM δs (fun i => decide (i < j)) st).get a = .loc b off) ∨ (ej.k.makes = true ∧ ej.dst = some b)) := by
        intro j δ hj
        have hjl : j < l.length := by have := (List.getElem?_eq_some_iff.1 hj).1; omega
        have hej : l[j]? = some (l[j]) := List.getElem?_eq_getElem hjl
        exact ⟨_, hej, ostep_foot (hr.at j _ δ hej hj)⟩
      -- the masks agree on whatever clashes with i
      have same : ∀ (j : Nat) (ej : EOp), l[j]? = some ej → (clash ap ej eo = true ∨ clash ap eo ej = true) → (j = i → False) → (decide (j < i)) = maskL listed j := by
        intro j ej hej hcl' hne
        have hj : j < os.size := by have := (List.getElem?_eq_some_iff.1 hej).1; omega
        have hsym : clash ap ej eo = true ∧ clash ap eo ej = true := by
          have e : clash ap ej eo = clash ap eo ej := by
            have m : ∀ a b, meets a b = meets b a := fun a b => by
              rw [Bool.eq_iff_iff, meets_iff, meets_iff]
              exact ⟨fun ⟨s, x, y⟩ => ⟨s, y, x⟩, fun ⟨s, x, y⟩ => ⟨s, y, x⟩⟩
            simp only [clash]
            rw [m ej.writes eo.reads, m ej.writes eo.writes, m ej.reads eo.writes, freed_symm ap ej eo]
            cases meets eo.reads ej.writes <;> cases meets eo.writes ej.writes <;> cases meets eo.writes ej.reads <;> cases ej.k.isStore <;> cases eo.k.heapy <;> cases ej.k.heapy <;> cases eo.k.isStore <;> cases freed ap eo ej <;> rfl
          rcases hcl' with h | h
          · exact ⟨h, by rw [← e]; exact h⟩
          · exact ⟨by rw [e]; exact h, h⟩
        by_cases hlt : j < i
        · have := reachI j (hpair j i hlt hio _ _ hej g1 hsym.1)
          simp only [hlt, decide_true, maskL]; exact this.symm
        · have hne' : j ≠ i := hne
          have hlt' : i < j := by omega
          have hR := hpair i j hlt' hj _ _ g1 hej hsym.2
          have : maskL listed j = false := by
            cases hb : maskL listed j with
            | false => rfl
            | true => have := reach j i hR hb; rw [hun] at this; cases this
          simp only [hlt, decide_false]; exact this.symm
      have atI : (decide (i < i)) = maskL listed i := by simp only [Nat.lt_irrefl, decide_false, maskL]; exact hun.symm
      have clashW : ∀ (ej : EOp) (s : Nat), s ∈ ej.writes → s ∈ eo.reads → clash ap ej eo = true := fun ej s h1 h2 => by
        cases hc' : clash ap ej eo with
        | true => rfl
        | false => exact absurd h2 ((clash_slots hc').1 s h1)
      have hget : ∀ s, s ∈ eo.reads → (stM δs (maskL listed) st).get s = (stM δs (fun j => decide (j < i)) st).get s := by
        intro s hs
        refine stM_get _ _ _ _ _ s rfl (fun j δ hj hsj => ?_)
        obtain ⟨ej, hej, f1, _⟩ := foot j δ hj
        by_cases e : j = i
        · subst e; exact atI.symm
        · exact (same j ej hej (.inl (clashW ej s (f1 s hsj) hs)) e).symm
      have hopd : ∀ x ∈ eo.k.opds, (stM δs (maskL listed) st).opd x = (stM δs (fun j => decide (j < i)) st).opd x := by
        intro x hx
        cases x with
        | tmp t => exact hget t (opd_reads hx rfl)
        | _ => rfl
      -- pairs of variables that are known to differ
      have noFreed : ∀ (j : Nat) (ej : EOp) (b : Nat), l[j]? = some ej → freed ap ej eo = true → (∀ a, ej.k.addr = some a → ∃ off, (stM δs (fun i => decide (i < j)) st).get a = .loc b off) →
          (∀ a, eo.k.addr = some a → ∃ off, (stM δs (fun j => decide (j < i)) st).get a = .loc b off) → False := by
        intro j ej b hej hf h1 h2
        unfold freed at hf
        cases ha1 : ej.k.addr with
        | none => rw [ha1] at hf; cases hf
        | some a1 =>
          cases ha2 : eo.k.addr with
          | none => rw [ha1, ha2] at hf; cases hf
          | some a2 =>
            rw [ha1, ha2] at hf
            obtain ⟨c, d, hm, hcd⟩ := inPairs_spec hf
            obtain ⟨d1, o1, d2, o2, e1, e2, hne⟩ := apartOK_spec hap c d hm
            obtain ⟨u1, u2⟩ := apUnwritten_spec hau c d hm
            have keepS : ∀ (m : Nat → Bool) (s : Nat), unwritten s l = true → (stM δs m st).get s = st.get s := by
              intro m s hu
              have : (stM δs m st).get s = (stM δs (fun _ => false) st).get s := stM_get _ _ _ _ _ s rfl (fun k δ hk hs => by
                obtain ⟨ek, hek, f1, _⟩ := foot k δ hk
                exact absurd (f1 s hs) (unwritten_spec hu ek (List.mem_of_getElem? hek)))
              rw [this, stM_none _ _ _ (fun _ _ => rfl)]
            obtain ⟨p1, q1⟩ := h1 a1 ha1
            obtain ⟨p2, q2⟩ := h2 a2 ha2
            rcases hcd with ⟨rfl, rfl⟩ | ⟨rfl, rfl⟩
            · rw [keepS _ _ u1, e1] at q1
              rw [keepS _ _ u2, e2] at q2
              injection q1 with q1 _
              injection q2 with q2 _
              exact hne (q1.trans q2.symm)
            · rw [keepS _ _ u2, e2] at q1
              rw [keepS _ _ u1, e1] at q2
              injection q1 with q1 _
              injection q2 with q2 _
              exact hne (q2.trans q1.symm)
      have hobj : eo.k.heapy = true → ∀ b, (eo.k.isStore = true ∨ notIn b (madeBy l) = true) → (∀ a, eo.k.addr = some a → ∃ off, (stM δs (fun j => decide (j < i)) st).get a = .loc b off) → (stM δs (maskL listed) st).obj b = (stM δs (fun j => decide (j < i)) st).obj b := by
        intro hh b hb hta
        refine stM_obj _ _ _ _ _ b rfl (fun j δ hj hbj => ?_)
        obtain ⟨ej, hej, _, f2⟩ := foot j δ hj
        by_cases e : j = i
        · subst e; exact atI.symm
        · refine (same j ej hej ?_ e).symm
          cases hc' : clash ap ej eo with
          | true => exact .inl rfl
          | false =>
            exfalso
            obtain ⟨_, _, _, q1, q2⟩ := clash_slots hc'
            rcases f2 b hbj with f | ⟨f, fd⟩
            · exact noFreed j ej b hej (q1 f.1 hh) f.2 hta
            · rcases hb with hb | hb
              · have := q2 (makes_heapy f) hb
                unfold freed at this
                have hn : ej.k.addr = none := by cases hk : ej.k <;> rw [hk] at f <;> first | rfl | cases f
                rw [hn] at this; cases this
              · rw [notIn_iff] at hb
                exact hb (madeBy_spec l ej b (List.mem_of_getElem? hej) f fd)
      have hkey : eo.k.makes = true → ∀ s, eo.dst = some s → notIn s ((stM δs (fun j => decide (j < i)) st).ob.map Prod.fst) = true → notIn s ((stM δs (maskL listed) st).ob.map Prod.fst) = true := by
        intro hk s hs hn
        rw [stM_key δs (maskL listed) (fun j => decide (j < i)) st st s rfl (fun j δ hj hbj => ?_)]
        · exact hn
        · obtain ⟨ej, hej, _, f2⟩ := foot j δ hj
          by_cases e : j = i
          · subst e; exact atI.symm
          · refine (same j ej hej ?_ e).symm
            cases hc' : clash ap ej eo with
            | true => exact .inl rfl
            | false =>
              exfalso
              obtain ⟨_, w2, _, q1, q2⟩ := clash_slots hc'
              rcases f2 s hbj with f | ⟨f, fd⟩
              · have := q1 f.1 (makes_heapy hk)
                unfold freed at this
                have hn : eo.k.addr = none := by cases hk' : eo.k <;> rw [hk'] at hk <;> first | rfl | cases hk
                rw [hn] at this
                cases hz : ej.k.addr <;> rw [hz] at this <;> cases this
              · refine w2 s ?_ ?_
                · simp [EOp.writes, fd]
                · simp [EOp.writes, hs]
      have hos' : OStep P (madeBy l) eo (stM δs (maskL listed) st) (δs[i]'(by omega)) := by
        have hA : Agree (madeBy l) eo.k eo.dst (stM δs (fun j => decide (j < i)) st) (stM δs (maskL listed) st) := ⟨hopd, hobj, hkey, cOp_sel g2⟩
        unfold OStep at hos ⊢
        cases hg : eo.g with
        | none => rw [hg] at hos; exact step_agree hA hos
        | some sw =>
          obtain ⟨s, want⟩ := sw
          rw [hg] at hos
          rcases hos with ⟨t, q1, q2, q3⟩ | ⟨q1, q3⟩
          · exact .inl ⟨t, by rw [hget s (by simp [EOp.reads, hg])]; exact q1, fun e => step_agree hA (q2 e), q3⟩
          · exact .inr ⟨by rw [hget s (by simp [EOp.reads, hg])]; exact q1, q3⟩
      have hdst : ∀ x, o.dst = some x → x < nt := fun x hx => dstsOK_spec l hds eo (List.mem_of_getElem? g1) x (by rw [g3]; exact hx)
      have hset : ∀ j, (listed.setIfInBounds i true).getD j false = if j = i then true else listed.getD j false := by
        intro j
        rw [Array.getD_eq_getD_getElem?, Array.getD_eq_getD_getElem?, Array.getElem?_setIfInBounds]
        by_cases e : i = j
        · subst e; simp [hs, hio]
        · rw [if_neg e, if_neg (fun e' => e e'.symm)]
      have key := ostep_sound (os := os) (K := wpAny P .any os Q fuel (listed.setIfInBounds i true)) (Q := Q) h hos' g2 g3 g4 hdst (fun a' w' M' β' h' => by
        refine ih _ (by simp [hs]) ?_ ?_ a' w' M' β' (h'.equiv ?_)
        · have hmem : i ∈ List.range os.size := by simpa using hio
          have e1 : ((List.range os.size).filter fun j => !(listed.setIfInBounds i true).getD j false) = ((List.range os.size).filter fun j => !listed.getD j false).filter fun j => decide (j ≠ i) := by
            rw [List.filter_filter]
            apply List.filter_congr
            intro j _
            rw [hset]
            by_cases e : j = i
            · simp [e]
            · simp [e]
          rw [e1]
          have e2 : ((List.range os.size).filter fun j => !listed.getD j false).filter (fun j => decide (j ≠ i)) = ((List.range os.size).filter fun j => !listed.getD j false).erase i := by
            rw [List.Nodup.erase_eq_filter (List.Pairwise.filter _ List.nodup_range)]
            apply List.filter_congr
            intro j _
            by_cases e : j = i <;> simp [e]
          rw [e2, List.length_erase_of_mem (List.mem_filter.2 ⟨hmem, by simp [hun]⟩), hc]; rfl
        · intro j oj hoj hj e he
          rw [hset] at hj ⊢
          by_cases e1 : e = i
          · rw [if_pos e1]
          · rw [if_neg e1]
            by_cases e2 : j = i
            · subst e2
              rw [ho] at hoj; injection hoj with hoj; subst hoj
              exact hdep e he
            · rw [if_neg e2] at hj
              exact hcl j oj hoj hj e he
        · have := stM_push δs (maskL listed) i st _ hd hun (fun j δ' hj hm hδ' => by
            obtain ⟨ej, hej, f1, f2⟩ := foot j δ' hδ'
            obtain ⟨ei, hei, f3, f4⟩ := foot i _ hd
            have : ei = eo := by rw [g1] at hei; injection hei with hei; exact hei.symm
            subst this
            have hjs : j < os.size := by have := (List.getElem?_eq_some_iff.1 hej).1; omega
            have nc : clash ap ei ej = false := by
              cases hc' : clash ap ei ej with
              | false => rfl
              | true =>
                have := reach j i (hpair i j hj hjs _ _ g1 hej hc') hm
                rw [hun] at this; cases this
            obtain ⟨_, w2, _, q1, q2⟩ := clash_slots nc
            refine ⟨fun s hs' => fun hs2 => w2 s (f3 s hs') (f1 s hs2), fun b hb hb2 => ?_⟩
            rcases f4 b hb with f | ⟨f, fd⟩
            · rcases f2 b hb2 with f' | ⟨f', fd'⟩
              · have := q1 f.1 (store_heapy f'.1)
                rw [freed_symm] at this
                exact noFreed j ej b hej this f'.2 f.2
              · have := q1 f.1 (makes_heapy f')
                unfold freed at this
                have hn : ej.k.addr = none := by cases hk : ej.k <;> rw [hk] at f' <;> first | rfl | cases f'
                rw [hn] at this
                cases hz : ei.k.addr <;> rw [hz] at this <;> cases this
            · rcases f2 b hb2 with f' | ⟨f', fd'⟩
              · have := q2 (makes_heapy f) f'.1
                unfold freed at this
                have hn : ei.k.addr = none := by cases hk : ei.k <;> rw [hk] at f <;> first | rfl | cases f
                rw [hn] at this; cases this
              · exact w2 b (by simp [EOp.writes, fd]) (by simp [EOp.writes, fd']))
          have e : (fun j => if j = i then true else maskL listed j) = maskL (listed.setIfInBounds i true) := funext fun j => by
            simp only [maskL]; rw [hset]
          rw [e] at this
          exact this.symm)
      unfold wpOp
      simp only [ho]
      by_cases hw : Region.wanted o (yielded os a.tmps) = true
      · rw [if_pos hw] at key ⊢; exact .inl key
      · rw [if_neg hw] at key ⊢; exact key

end
end Go.Proofs.Ytflfeikkcpcdiaa.Ev
