/-  Regions: in the order of the text, or in any order. -/
import Derived.Test.YtonfmpiikdmndaaGreatFk0
namespace Go.Proofs.YtonfmpiikdmndaaGreat.Ev
open Go Go.RowKit
set_option linter.unusedVariables false
set_option linter.unusedSimpArgs false
set_option linter.unnecessarySimpa false
structure StEq (s t : St) : Prop where
  base : s.base = t.base
  get : ∀ x, s.get x = t.get x
  obj : ∀ d, s.obj d = t.obj d
  key : ∀ d, notIn d (s.ob.map Prod.fst) = notIn d (t.ob.map Prod.fst)
theorem StEq.refl (s : St) : StEq s s := ⟨rfl, fun _ => rfl, fun _ => rfl, fun _ => rfl⟩
theorem StEq.symm {s t : St} (h : StEq s t) : StEq t s := ⟨h.base.symm, fun x => (h.get x).symm, fun d => (h.obj d).symm, fun d => (h.key d).symm⟩
theorem StEq.trans {s t u : St} (h : StEq s t) (h' : StEq t u) : StEq s u := ⟨h.base.trans h'.base, fun x => (h.get x).trans (h'.get x), fun d => (h.obj d).trans (h'.obj d), fun d => (h.key d).trans (h'.key d)⟩
theorem app_get (st : St) (δ : Delta) (s : Nat) : (st.app δ).get s = if s ∈ δ.s.map Prod.fst then look .any δ.s s else st.get s := look_app _ _ _ _
theorem app_obj (st : St) (δ : Delta) (s : Nat) : (st.app δ).obj s = if s ∈ δ.o.map Prod.fst then look [] δ.o s else st.obj s := (mrg_look _ _ _).trans (look_app _ _ _ _)
theorem app_key (st : St) (δ : Delta) (s : Nat) : notIn s ((st.app δ).ob.map Prod.fst) = (notIn s (δ.o.map Prod.fst) && notIn s (st.ob.map Prod.fst)) := by
  rw [← notIn_app, ← List.map_append]; exact mrg_key _ _ _
theorem StEq.app {s t : St} (h : StEq s t) (δ : Delta) : StEq (s.app δ) (t.app δ) :=
  ⟨h.base, fun x => by rw [app_get, app_get, h.get], fun x => by rw [app_obj, app_obj, h.obj], fun x => by rw [app_key, app_key, h.key]⟩
section
variable {ι : Type} {cx : ι → PV × Value} {P : Program} {C : Oracle} {X : Inl} {ban : List Nat} {w0 w : World} {N M : Mut} {β : Loc} {nt : Nat} {st : St} {a : Act}
theorem SR.equiv {st' : St} (h : SR cx w0 N nt st a w M β) (he : StEq st st') : SR cx w0 N nt st' a w M β := by
  have e1 : st'.obj = st.obj := funext fun d => (he.obj d).symm
  have e2 : (fun d => notIn d (st'.ob.map Prod.fst)) = fun d => notIn d (st.ob.map Prod.fst) := funext fun d => (he.key d).symm
  have e3 : hold cx st' a = hold cx st a := funext fun k => by
    cases k with
    | inl s => simp only [hold]; rw [he.get]
    | inr i => rfl
  refine ⟨h.defs, h.nt, ?_⟩
  rw [e1, e2, e3]; exact h.sh
theorem StEq.opd {s t : St} (h : StEq s t) (x : Operand) : t.opd x = s.opd x := by
  cases x with
  | tmp n => exact (h.get n).symm
  | _ => rfl
theorem StEq.agree {s t : St} (h : StEq s t) (o : K) (d : Option Nat) (hsel : ∀ o', o = .scal o' → ∀ cs b, o'.op ≠ .select cs b) : Agree ban o d s t :=
  ⟨fun x _ => h.opd x, fun _ _ b _ _ => (h.obj b).symm, fun _ b _ _ => by unfold St.vobj; rw [h.obj b], fun _ s _ hs => by rw [← h.key]; exact hs, hsel, h.base.symm, fun _ => ⟨fun b => (h.obj b).symm, fun b => (h.key b).symm⟩⟩
/-- one operation, its guard looked at -/
def OStep (P : Program) (ban : List Nat) (eo : EOp) (st : St) (δ : Delta) : Prop := match eo.g with
  | none => stepD P (CStar P) (XStar P) ban eo.k eo.dst st (fun δ' => δ' = δ)
  | some (s, want) => (∃ t, st.get s = .val (.bool t) ∧ (t = want → stepD P (CStar P) (XStar P) ban eo.k eo.dst st (fun δ' => δ' = δ)) ∧ (t ≠ want → δ = dput eo.dst (.tup []))) ∨ (st.get s = .tup [] ∧ δ = dput eo.dst (.tup []))
inductive Run (P : Program) (ban : List Nat) : List EOp → St → List Delta → St → Prop
  | nil (st : St) : Run P ban [] st [] st
  | cons (eo : EOp) (l : List EOp) (st st' : St) (δ : Delta) (δs : List Delta) (h : OStep P ban eo st δ) (hr : Run P ban l (st.app δ) δs st') : Run P ban (eo :: l) st (δ :: δs) st'
theorem put_eq {st : St} {s : Nat} {p : PV} (h : st.get s = p) : StEq (st.put s p) st :=
  ⟨rfl, fun x => by
    have : (st.put s p).get x = if s = x then p else st.get x := look_one _ _ _ _ _
    rw [this]
    by_cases e : s = x
    · subst e; rw [if_pos rfl, h]
    · rw [if_neg e], fun _ => rfl, fun _ => rfl⟩
theorem evOps_run (hC : SoundC P C) (hX : SoundX P X) : ∀ (l : List EOp) (st st0 : St) (k : St → Prop), (∀ eo ∈ l, ∀ o', eo.k = .scal o' → ∀ cs b, o'.op ≠ .select cs b) → StEq st st0 → evOps P C X ban l st k →
    ∃ δs st1 st', Run P ban l st0 δs st1 ∧ StEq st' st1 ∧ k st' := by
  intro l
  induction l with
  | nil => intro st st0 k _ he h; exact ⟨[], st0, st, .nil _, he, h⟩
  | cons eo l ih =>
    intro st st0 k hsel he h
    have hsel1 := hsel eo (by simp)
    have hsel2 : ∀ eo ∈ l, ∀ o', eo.k = .scal o' → ∀ cs b, o'.op ≠ .select cs b := fun e hm => hsel e (List.mem_cons_of_mem _ hm)
    have run1 : ∀ (su : St), StEq su st0 → stepD P C X ban eo.k eo.dst su (fun δ => evOps P C X ban l (su.app δ) k) →
        ∃ δ, stepD P (CStar P) (XStar P) ban eo.k eo.dst st0 (fun δ' => δ' = δ) ∧ ∃ δs st1 st', Run P ban l (st0.app δ) δs st1 ∧ StEq st' st1 ∧ k st' := by
      intro su hu hs
      obtain ⟨δ, h1, h2⟩ := step_star hC hX _ _ _ _ hs
      exact ⟨δ, step_agree (hu.agree _ _ hsel1) (h2 (fun δ' => δ' = δ) rfl), ih _ _ _ hsel2 (hu.app δ) h1⟩
    simp only [evOps] at h
    cases hg : eo.g with
    | none =>
      rw [hg] at h
      obtain ⟨δ, h1, δs, st1, st', h2, h3, h4⟩ := run1 st he h
      exact ⟨δ :: δs, st1, st', .cons eo l st0 st1 δ δs (by unfold OStep; rw [hg]; exact h1) h2, h3, h4⟩
    | some sw =>
      obtain ⟨s, want⟩ := sw
      rw [hg] at h
      simp only at h
      cases hq : st.get s with
      | val v =>
        rw [hq] at h
        cases v with
        | bool t =>
          have hq0 : st0.get s = .val (.bool t) := by rw [← he.get, hq]
          have hu : StEq (st.put s (.val (.bool t))) st0 := (put_eq hq).trans he
          have skip : evOps P C X ban l ((st.put s (.val (.bool t))).app (dput eo.dst (.tup []))) k → t ≠ want →
              ∃ δs st1 st', Run P ban (eo :: l) st0 δs st1 ∧ StEq st' st1 ∧ k st' := by
            intro hs hne
            obtain ⟨δs, st1, st', h2, h3, h4⟩ := ih _ (st0.app (dput eo.dst (.tup []))) _ hsel2 (hu.app _) hs
            exact ⟨_ :: δs, st1, st', .cons eo l st0 st1 _ δs (by unfold OStep; rw [hg]; exact .inl ⟨t, hq0, fun e => absurd e hne, fun _ => rfl⟩) h2, h3, h4⟩
          have take : stepD P C X ban eo.k eo.dst (st.put s (.val (.bool t))) (fun δ => evOps P C X ban l ((st.put s (.val (.bool t))).app δ) k) → t = want →
              ∃ δs st1 st', Run P ban (eo :: l) st0 δs st1 ∧ StEq st' st1 ∧ k st' := by
            intro hs heq
            obtain ⟨δ, h1, δs, st1, st', h2, h3, h4⟩ := run1 _ hu hs
            exact ⟨δ :: δs, st1, st', .cons eo l st0 st1 δ δs (by unfold OStep; rw [hg]; exact .inl ⟨t, hq0, fun _ => h1, fun e => absurd heq e⟩) h2, h3, h4⟩
          cases t <;> cases want <;> simp only [br] at h <;> first | exact take h rfl | exact skip h (by decide)
        | _ => exact h.elim
      | tup l0 =>
        rw [hq] at h
        cases l0 with
        | nil =>
          have hq0 : st0.get s = .tup [] := by rw [← he.get, hq]
          obtain ⟨δs, st1, st', h2, h3, h4⟩ := ih _ (st0.app (dput eo.dst (.tup []))) _ hsel2 (he.app _) h
          exact ⟨_ :: δs, st1, st', .cons eo l st0 st1 _ δs (by unfold OStep; rw [hg]; exact .inr ⟨hq0, rfl⟩) h2, h3, h4⟩
        | cons _ _ => exact h.elim
      | _ => rw [hq] at h; exact h.elim
/-- the state when just those of a mask have been carried out -/
def stM : List Delta → (Nat → Bool) → St → St
  | [], _, st => st
  | δ :: r, m, st => stM r (fun i => m (i + 1)) (if m 0 then st.app δ else st)
theorem stM_congr : ∀ (δs : List Delta) (m m' : Nat → Bool) (st : St), (∀ i, i < δs.length → m i = m' i) → stM δs m st = stM δs m' st := by
  intro δs
  induction δs with
  | nil => intro m m' st _; rfl
  | cons δ r ih =>
    intro m m' st h
    simp only [stM]
    rw [h 0 (by simp)]
    exact ih _ _ _ (fun i hi => h (i + 1) (by simp; omega))
theorem stM_none : ∀ (δs : List Delta) (m : Nat → Bool) (st : St), (∀ i, i < δs.length → m i = false) → stM δs m st = st := by
  intro δs
  induction δs with
  | nil => intro m st _; rfl
  | cons δ r ih =>
    intro m st h
    simp only [stM]
    rw [h 0 (by simp)]
    exact ih _ _ (fun i hi => h (i + 1) (by simp; omega))
theorem Run.length {l : List EOp} {st st' : St} {δs : List Delta} (h : Run P ban l st δs st') : δs.length = l.length := by
  induction h with
  | nil => rfl
  | cons eo l st st' δ δs _ _ ih => simp [ih]
theorem Run.at {l : List EOp} {st st' : St} {δs : List Delta} (h : Run P ban l st δs st') : ∀ (i : Nat) (eo : EOp) (δ : Delta), l[i]? = some eo → δs[i]? = some δ → OStep P ban eo (stM δs (fun j => decide (j < i)) st) δ := by
  induction h with
  | nil => intro i eo δ h; simp at h
  | cons eo l st st' δ δs h1 _ ih =>
    intro i e d he hd
    cases i with
    | zero =>
      simp at he hd
      subst he; subst hd
      have : stM (δ :: δs) (fun j => decide (j < 0)) st = st := stM_none _ _ _ (fun i _ => by simp)
      rw [this]; exact h1
    | succ i =>
      have := ih i e d (by simpa using he) (by simpa using hd)
      simp only [stM]
      simpa using this
theorem Run.last {l : List EOp} {st st' : St} {δs : List Delta} (h : Run P ban l st δs st') : st' = stM δs (fun _ => true) st := by
  induction h with
  | nil => rfl
  | cons eo l st st' δ δs _ _ ih => simp only [stM]; exact ih
theorem stM_get : ∀ (δs : List Delta) (m m' : Nat → Bool) (st st' : St) (s : Nat), st.get s = st'.get s → (∀ (i : Nat) (δ : Delta), δs[i]? = some δ → s ∈ δ.s.map Prod.fst → m i = m' i) →
    (stM δs m st).get s = (stM δs m' st').get s := by
  intro δs
  induction δs with
  | nil => intro m m' st st' s h _; exact h
  | cons δ r ih =>
    intro m m' st st' s h hm
    simp only [stM]
    refine ih _ _ _ _ s ?_ (fun i δ' hi hs => hm (i + 1) δ' (by simpa using hi) hs)
    by_cases hs : s ∈ δ.s.map Prod.fst
    · rw [hm 0 δ rfl hs]
      cases m' 0
      · exact h
      · simp only [if_true]; rw [app_get, app_get, if_pos hs, if_pos hs]
    · have e1 : ∀ (b : Bool) (st : St), (if b then st.app δ else st).get s = st.get s := fun b st => by
        cases b
        · rfl
        · simp only [if_true]; rw [app_get, if_neg hs]
      rw [e1, e1]; exact h
theorem stM_obj : ∀ (δs : List Delta) (m m' : Nat → Bool) (st st' : St) (s : Nat), st.obj s = st'.obj s → (∀ (i : Nat) (δ : Delta), δs[i]? = some δ → s ∈ δ.o.map Prod.fst → m i = m' i) →
    (stM δs m st).obj s = (stM δs m' st').obj s := by
  intro δs
  induction δs with
  | nil => intro m m' st st' s h _; exact h
  | cons δ r ih =>
    intro m m' st st' s h hm
    simp only [stM]
    refine ih _ _ _ _ s ?_ (fun i δ' hi hs => hm (i + 1) δ' (by simpa using hi) hs)
    by_cases hs : s ∈ δ.o.map Prod.fst
    · rw [hm 0 δ rfl hs]
      cases m' 0
      · exact h
      · simp only [if_true]; rw [app_obj, app_obj, if_pos hs, if_pos hs]
    · have e1 : ∀ (b : Bool) (st : St), (if b then st.app δ else st).obj s = st.obj s := fun b st => by
        cases b
        · rfl
        · simp only [if_true]; rw [app_obj, if_neg hs]
      rw [e1, e1]; exact h
theorem stM_key : ∀ (δs : List Delta) (m m' : Nat → Bool) (st st' : St) (s : Nat), notIn s (st.ob.map Prod.fst) = notIn s (st'.ob.map Prod.fst) → (∀ (i : Nat) (δ : Delta), δs[i]? = some δ → s ∈ δ.o.map Prod.fst → m i = m' i) →
    notIn s ((stM δs m st).ob.map Prod.fst) = notIn s ((stM δs m' st').ob.map Prod.fst) := by
  intro δs
  induction δs with
  | nil => intro m m' st st' s h _; exact h
  | cons δ r ih =>
    intro m m' st st' s h hm
    simp only [stM]
    refine ih _ _ _ _ s ?_ (fun i δ' hi hs => hm (i + 1) δ' (by simpa using hi) hs)
    by_cases hs : s ∈ δ.o.map Prod.fst
    · rw [hm 0 δ rfl hs]
      cases m' 0
      · exact h
      · simp only [if_true]; rw [app_key, app_key, h]
    · have e0 : notIn s (δ.o.map Prod.fst) = true := (notIn_iff _ _).2 hs
      have e1 : ∀ (b : Bool) (st : St), notIn s ((if b then st.app δ else st).ob.map Prod.fst) = notIn s (st.ob.map Prod.fst) := fun b st => by
        cases b
        · rfl
        · simp only [if_true]; rw [app_key, e0, Bool.true_and]
      rw [e1, e1]; exact h
theorem stM_get1 : ∀ (δs : List Delta) (m : Nat → Bool) (st : St) (k : Nat) (δ : Delta) (a : Nat), δs[k]? = some δ → m k = true → a ∈ δ.s.map Prod.fst →
    (∀ (j : Nat) (δ' : Delta), j ≠ k → δs[j]? = some δ' → a ∉ δ'.s.map Prod.fst) → (stM δs m st).get a = look .any δ.s a := by
  intro δs
  induction δs with
  | nil => intro m st k δ a h; simp at h
  | cons δ0 r ih =>
    intro m st k δ a h hm ha hn
    simp only [stM]
    cases k with
    | zero =>
      simp at h
      subst h
      rw [hm]
      simp only [if_true]
      rw [stM_get r _ (fun _ => false) (st.app δ0) (st.app δ0) a rfl (fun i δ' hi hs => absurd hs (hn (i + 1) δ' (by omega) (by simpa using hi))), stM_none _ _ _ (fun _ _ => rfl), app_get, if_pos ha]
    | succ k => exact ih _ _ k δ a (by simpa using h) hm ha (fun j δ' hj hδ => hn (j + 1) δ' (by omega) (by simpa using hδ))
/-- which change of a variable is the last one -/
theorem stM_last : ∀ (δs : List Delta) (m : Nat → Bool) (st : St) (b : Nat),
    ((∀ (k : Nat) (δ : Delta), m k = true → δs[k]? = some δ → b ∉ δ.o.map Prod.fst) ∧ (stM δs m st).obj b = st.obj b) ∨
    ∃ k δ, m k = true ∧ δs[k]? = some δ ∧ b ∈ δ.o.map Prod.fst ∧ (∀ (j : Nat) (δ' : Delta), k < j → m j = true → δs[j]? = some δ' → b ∉ δ'.o.map Prod.fst) ∧ (stM δs m st).obj b = look [] δ.o b := by
  intro δs
  induction δs with
  | nil => intro m st b; exact .inl ⟨fun k δ _ h => by simp at h, rfl⟩
  | cons δ0 r ih =>
    intro m st b
    simp only [stM]
    rcases ih (fun i => m (i + 1)) (if m 0 then st.app δ0 else st) b with ⟨h1, h2⟩ | ⟨k, δ, h1, h2, h3, h4, h5⟩
    · by_cases hb : m 0 = true ∧ b ∈ δ0.o.map Prod.fst
      · refine .inr ⟨0, δ0, hb.1, rfl, hb.2, fun j δ' hj hm hδ => ?_, ?_⟩
        · cases j with
          | zero => omega
          | succ j => exact h1 j δ' hm (by simpa using hδ)
        · rw [h2, hb.1]
          simp only [if_true]
          rw [app_obj, if_pos hb.2]
      · refine .inl ⟨fun k δ hm hδ => ?_, ?_⟩
        · cases k with
          | zero => simp at hδ; subst hδ; exact fun h => hb ⟨hm, h⟩
          | succ k => exact h1 k δ hm (by simpa using hδ)
        · rw [h2]
          cases hm : m 0 with
          | false => rfl
          | true =>
            simp only [if_true]
            rw [app_obj, if_neg (fun h => hb ⟨hm, h⟩)]
    · refine .inr ⟨k + 1, δ, h1, by simpa using h2, h3, fun j δ' hj hm hδ => ?_, h5⟩
      cases j with
      | zero => omega
      | succ j => exact h4 j δ' (by omega) hm (by simpa using hδ)
/-- what takes only ownership does not change what is read -/
theorem stM_quiet {δs : List Delta} {st : St} {b : Nat} (T : Nat → Bool) (hT : ∀ (k : Nat) (δ : Delta), T k = true → δs[k]? = some δ → b ∈ δ.o.map Prod.fst → (look [] δ.o b).map PV.view = (stM δs (fun j => decide (j < k)) st).vobj b) :
    ∀ (n : Nat) (m : Nat → Bool), (∀ k, m k = true → (δs[k]?).isSome = true → k < n) →
      (∀ (k j : Nat) (δ δ' : Delta), T k = true → m k = true → δs[k]? = some δ → b ∈ δ.o.map Prod.fst → T j = false → δs[j]? = some δ' → b ∈ δ'.o.map Prod.fst → j < k → m j = true) →
      (stM δs m st).vobj b = (stM δs (fun j => m j && !T j) st).vobj b := by
  intro n
  induction n using Nat.strongRecOn with
  | ind n ih =>
    intro m hn hc
    rcases stM_last δs m st b with ⟨h1, h2⟩ | ⟨k, δ, h1, h2, h3, h4, h5⟩
    · unfold St.vobj
      rw [stM_obj δs (fun j => m j && !T j) (fun _ => false) st st b rfl (fun i δ hi hb => ?_), stM_none _ _ _ (fun _ _ => rfl), h2]
      cases hm : m i with
      | false => rfl
      | true => exact absurd hb (h1 i δ hm hi)
    · cases hk : T k with
      | false =>
        rcases stM_last δs (fun j => m j && !T j) st b with ⟨g1, g2⟩ | ⟨k', δ', g1, g2, g3, g4, g5⟩
        · exact absurd h3 (g1 k δ (by simp [h1, hk]) h2)
        · have e : k' = k := by
            rcases Nat.lt_trichotomy k k' with h | h | h
            · simp only [Bool.and_eq_true] at g1
              exact absurd g3 (h4 k' δ' h g1.1 g2)
            · exact h.symm
            · exact absurd h3 (g4 k δ h (by simp [h1, hk]) h2)
          subst e
          rw [h2] at g2
          injection g2 with g2
          subst g2
          unfold St.vobj
          rw [h5, g5]
      | true =>
        have hkn := hn k h1 (by rw [h2]; rfl)
        have hsub : ∀ (j : Nat) (δ' : Delta), T j = false → δs[j]? = some δ' → b ∈ δ'.o.map Prod.fst → (decide (j < k)) = m j := by
          intro j δ' hj hδ hb
          by_cases hlt : j < k
          · rw [hc k j δ δ' hk h1 h2 h3 hj hδ hb hlt]; simp [hlt]
          · cases hm : m j with
            | false => simp [hlt]
            | true =>
              have hne : j ≠ k := by rintro rfl; rw [hk] at hj; cases hj
              exact absurd hb (h4 j δ' (by omega) hm hδ)
        have e1 := ih k hkn (fun j => decide (j < k)) (fun j hj _ => by simpa using hj) (fun k' j _ _ _ hk' _ _ _ _ _ hj => by
          have := of_decide_eq_true hk'
          exact decide_eq_true (by omega))
        have e2 : (stM δs m st).vobj b = (stM δs (fun j => decide (j < k)) st).vobj b := by
          rw [← hT k δ hk h2 h3]
          unfold St.vobj
          rw [h5]
        rw [e2, e1]
        unfold St.vobj
        rw [stM_obj δs _ (fun j => m j && !T j) st st b rfl (fun i δ' hi hb => ?_)]
        cases hti : T i with
        | true => simp
        | false => simp only [Bool.not_false, Bool.and_true]; exact hsub i δ' hti hi hb
theorem setN_view (l : List PV) : ∀ (off : Nat), (setN l off [(getN l off).view]).map PV.view = l.map PV.view := by
  have vv : ∀ p : PV, p.view.view = p.view := fun p => by cases p <;> rfl
  induction l with
  | nil => intro off; rfl
  | cons p l ih =>
    intro off
    cases off with
    | zero =>
      have : setN (p :: l) 0 [(getN (p :: l) 0).view] = p.view :: l := by cases l <;> rfl
      rw [this]; simp [vv]
    | succ n =>
      have : setN (p :: l) (n + 1) [(getN (p :: l) (n + 1)).view] = p :: setN l n [(getN l n).view] := rfl
      rw [this]; simp [ih n]
theorem ostep_take {eo : EOp} {st : St} {δ : Delta} (h : OStep P ban eo st δ) (hk : eo.k.isTake = true) : ∀ b ∈ δ.o.map Prod.fst, (look [] δ.o b).map PV.view = st.vobj b := by
  obtain ⟨d, g, k⟩ := eo
  cases k with
  | loadT x =>
    have main : stepD P (CStar P) (XStar P) ban (.loadT x) d st (fun δ' => δ' = δ) → ∀ b ∈ δ.o.map Prod.fst, (look [] δ.o b).map PV.view = st.vobj b := by
      intro h b hb
      simp only [stepD, gd_and] at h
      split at h
      · rename_i b' off d' hq
        split at h
        · subst h
          simp at hb
          subst hb
          simp only [look, Nat.beq_refl]
          exact setN_view _ _
        · exact h.elim
      · exact h.elim
    have skip : δ = dput d (.tup []) → ∀ b ∈ δ.o.map Prod.fst, (look [] δ.o b).map PV.view = st.vobj b := by
      intro e b hb
      subst e
      cases d <;> simp [dput] at hb
    unfold OStep at h
    cases g with
    | none => exact main h
    | some sw =>
      obtain ⟨s, want⟩ := sw
      rcases h with ⟨t, _, h1, h2⟩ | ⟨_, h2⟩
      · by_cases e : t = want
        · exact main (h1 e)
        · exact skip (h2 e)
      · exact skip h2
  | _ => cases hk
theorem ostep_mk {eo : EOp} {st : St} {δ : Delta} {a : Nat} (h : OStep P ban eo st δ) (hk : eo.mkAt a = true) : a ∈ δ.s.map Prod.fst ∧ look .any δ.s a = .loc (st.base + a) 0 := by
  obtain ⟨d, g, k⟩ := eo
  unfold EOp.mkAt at hk
  cases k with
  | alloc z =>
    cases g with
    | some _ => cases hk
    | none =>
      cases d with
      | none => cases hk
      | some d =>
        have e := nat_beq hk
        subst e
        simp only [OStep, stepD, gd_and] at h
        split at h
        · subst h; exact ⟨by simp, by simp [look]⟩
        · exact h.elim
  | box x =>
    cases g with
    | some _ => cases hk
    | none =>
      cases d with
      | none => cases hk
      | some d =>
        have e := nat_beq hk
        subst e
        simp only [OStep, stepD, gd_and] at h
        split at h
        · subst h; exact ⟨by simp, by simp [look]⟩
        · exact h.elim
  | _ => cases hk
/-- two changes that touch nothing in common -/
def Disj (x y : Delta) : Prop := (∀ s, s ∈ x.s.map Prod.fst → s ∉ y.s.map Prod.fst) ∧ (∀ s, s ∈ x.o.map Prod.fst → s ∉ y.o.map Prod.fst)
theorem app_comm (st : St) (x y : Delta) (h : Disj x y) : StEq ((st.app x).app y) ((st.app y).app x) := by
  refine ⟨rfl, fun s => ?_, fun s => ?_, fun s => ?_⟩
  · rw [app_get, app_get, app_get, app_get]
    by_cases h1 : s ∈ x.s.map Prod.fst
    · rw [if_neg (h.1 s h1), if_pos h1, if_pos h1]
    · rw [if_neg h1, if_neg h1]
  · rw [app_obj, app_obj, app_obj, app_obj]
    by_cases h1 : s ∈ x.o.map Prod.fst
    · rw [if_neg (h.2 s h1), if_pos h1, if_pos h1]
    · rw [if_neg h1, if_neg h1]
  · rw [app_key, app_key, app_key, app_key]
    cases notIn s (y.o.map Prod.fst) <;> cases notIn s (x.o.map Prod.fst) <;> simp
theorem stM_eq : ∀ (δs : List Delta) (m : Nat → Bool) (st st' : St), StEq st st' → StEq (stM δs m st) (stM δs m st') := by
  intro δs
  induction δs with
  | nil => intro m st st' h; exact h
  | cons δ r ih =>
    intro m st st' h
    simp only [stM]
    refine ih _ _ _ ?_
    cases m 0
    · exact h
    · exact h.app δ
theorem stM_app : ∀ (δs : List Delta) (m : Nat → Bool) (st : St) (δ : Delta), (∀ (i : Nat) (δ' : Delta), m i = true → δs[i]? = some δ' → Disj δ δ') → StEq (stM δs m (st.app δ)) ((stM δs m st).app δ) := by
  intro δs
  induction δs with
  | nil => intro m st δ _; exact .refl _
  | cons δ' r ih =>
    intro m st δ h
    simp only [stM]
    have hr : ∀ (i : Nat) (d : Delta), m (i + 1) = true → r[i]? = some d → Disj δ d := fun i d hi hd => h (i + 1) d hi (by simpa using hd)
    cases hm : m 0 with
    | false => exact ih _ _ _ hr
    | true =>
      simp only [if_true]
      exact (stM_eq r _ _ _ (app_comm st δ δ' (h 0 δ' hm rfl))).trans (ih _ _ _ hr)
theorem stM_push : ∀ (δs : List Delta) (m : Nat → Bool) (i : Nat) (st : St) (δ : Delta), δs[i]? = some δ → m i = false → (∀ (j : Nat) (δ' : Delta), i < j → m j = true → δs[j]? = some δ' → Disj δ δ') →
    StEq (stM δs (fun j => if j = i then true else m j) st) ((stM δs m st).app δ) := by
  intro δs
  induction δs with
  | nil => intro m i st δ h; simp at h
  | cons δ0 r ih =>
    intro m i st δ h hm hd
    cases i with
    | zero =>
      simp at h
      subst h
      simp only [stM, hm, if_true]
      have : (fun j => if j + 1 = 0 then true else m (j + 1)) = fun j => m (j + 1) := funext fun j => by simp
      rw [this]
      exact stM_app r _ st δ0 (fun i δ' hi hδ => hd (i + 1) δ' (by omega) hi (by simpa using hδ))
    | succ i =>
      simp only [stM]
      have e0 : (if 0 = i + 1 then true else m 0) = m 0 := by simp
      have e1 : (fun j => if j + 1 = i + 1 then true else m (j + 1)) = fun j => if j = i then true else m (j + 1) := funext fun j => by simp
      simp only [e0, e1]
      exact ih _ i _ δ (by simpa using h) hm (fun j δ' hj hmj hδ => hd (j + 1) δ' (by omega) hmj (by simpa using hδ))
theorem ostep_foot {eo : EOp} {st : St} {δ : Delta} (h : OStep P ban eo st δ) : (∀ s ∈ δ.s.map Prod.fst, s ∈ eo.writes) ∧ (∀ b ∈ δ.o.map Prod.fst, Foot eo.k eo.dst st b) := by
  obtain ⟨d, g, k⟩ := eo
  unfold OStep at h
  cases g with
  | none => exact step_foot h
  | some sw =>
    obtain ⟨s, want⟩ := sw
    have skip : δ = dput d (.tup []) → (∀ s' ∈ δ.s.map Prod.fst, s' ∈ (EOp.mk d (some (s, want)) k).writes) ∧ (∀ b ∈ δ.o.map Prod.fst, Foot k d st b) := by
      intro e
      subst e
      cases d with
      | none => exact ⟨fun s hs => by simp [dput] at hs, fun b hb => by simp [dput] at hb⟩
      | some x => exact ⟨fun s hs => by simp [dput] at hs; simp [EOp.writes, hs], fun b hb => by simp [dput] at hb⟩
    rcases h with ⟨t, _, h1, h2⟩ | ⟨_, h2⟩
    · by_cases e : t = want
      · exact step_foot (h1 e)
      · exact skip (h2 e)
    · exact skip h2
end
end Go.Proofs.YtonfmpiikdmndaaGreat.Ev
