/-  Regions: in the order of the text, or in any order. -/
import Derived.Test.YtflfeikkcpcdiaaEvJ
namespace Go.Proofs.Ytflfeikkcpcdiaa.Ev
open Go Go.RowKit
set_option linter.unusedVariables false
set_option linter.unusedSimpArgs false
set_option linter.unnecessarySimpa false

def keysO (st : St) : List Nat := st.ob.map Prod.fst

structure StEq (s t : St) : Prop where
  get : ∀ x, s.get x = t.get x
  obj : ∀ d, s.obj d = t.obj d
  key : ∀ d, notIn d (s.ob.map Prod.fst) = notIn d (t.ob.map Prod.fst)

theorem StEq.refl (s : St) : StEq s s := ⟨fun _ => rfl, fun _ => rfl, fun _ => rfl⟩
theorem StEq.symm {s t : St} (h : StEq s t) : StEq t s := ⟨fun x => (h.get x).symm, fun d => (h.obj d).symm, fun d => (h.key d).symm⟩
theorem StEq.trans {s t u : St} (h : StEq s t) (h' : StEq t u) : StEq s u := ⟨fun x => (h.get x).trans (h'.get x), fun d => (h.obj d).trans (h'.obj d), fun d => (h.key d).trans (h'.key d)⟩

theorem look_app {α : Type} (d : α) (l r : List (Nat × α)) (s : Nat) : look d (l ++ r) s = if s ∈ l.map Prod.fst then look d l s else look d r s := by
  induction l with
  | nil => simp
  | cons x l ih =>
    obtain ⟨a, y⟩ := x
    rw [List.cons_append, look_one, look_one, ih]
    by_cases h : a = s
    · subst h; simp
    · have : ¬ s = a := fun e => h e.symm
      simp only [h, if_false, List.map_cons, List.mem_cons, this, false_or]

theorem app_get (st : St) (δ : Delta) (s : Nat) : (st.app δ).get s = if s ∈ δ.s.map Prod.fst then look .any δ.s s else st.get s := look_app _ _ _ _
theorem app_obj (st : St) (δ : Delta) (s : Nat) : (st.app δ).obj s = if s ∈ δ.o.map Prod.fst then look [] δ.o s else st.obj s := look_app _ _ _ _
theorem notIn_app (l r : List Nat) (d : Nat) : notIn d (l ++ r) = (notIn d l && notIn d r) := by
  rw [Bool.eq_iff_iff]; simp [notIn_iff]
theorem app_key (st : St) (δ : Delta) (s : Nat) : notIn s ((st.app δ).ob.map Prod.fst) = (notIn s (δ.o.map Prod.fst) && notIn s (st.ob.map Prod.fst)) := by
  rw [← notIn_app, ← List.map_append]; rfl

theorem StEq.app {s t : St} (h : StEq s t) (δ : Delta) : StEq (s.app δ) (t.app δ) :=
  ⟨fun x => by rw [app_get, app_get, h.get], fun x => by rw [app_obj, app_obj, h.obj], fun x => by rw [app_key, app_key, h.key]⟩

section
variable {P : Program} {C : Oracle} {ban : List Nat} {w0 w : World} {N M : Mut} {β : Nat → Option Nat} {nt : Nat} {st : St} {a : Act}

theorem SR.equiv {st' : St} (h : SR w0 N nt st a w M β) (he : StEq st st') : SR w0 N nt st' a w M β := by
  refine ⟨h.defs, h.nt, h.bel, h.mN, h.mlt, ?_, h.inj, ?_, ?_, ?_, ?_, ?_⟩
  · intro d b hb; rw [← he.obj]; exact h.box d b hb
  · intro d hd; exact h.dom d (by rw [he.key]; exact hd)
  · intro s; rw [← he.get]; exact h.reg s
  · intro s e sz es hs; exact h.tok s e sz es (by rw [he.get]; exact hs)
  · intro s s' e sz es e' sz' es' g hs hs'; exact h.tokne s s' e sz es e' sz' es' g (by rw [he.get]; exact hs) (by rw [he.get]; exact hs')
  · intro s e sz es g d hs; exact h.tokbox s e sz es g d (by rw [he.get]; exact hs)

theorem StEq.opd {s t : St} (h : StEq s t) (x : Operand) : t.opd x = s.opd x := by
  cases x with
  | tmp n => exact (h.get n).symm
  | _ => rfl

theorem StEq.agree {s t : St} (h : StEq s t) (o : K) (d : Option Nat) (hsel : ∀ o', o = .scal o' → ∀ cs b, o'.op ≠ .select cs b) : Agree ban o d s t :=
  ⟨fun x _ => h.opd x, fun _ b _ _ => (h.obj b).symm, fun _ s _ hs => by rw [← h.key]; exact hs, hsel⟩

/-- one operation, its guard looked at -/
def OStep (P : Program) (ban : List Nat) (eo : EOp) (st : St) (δ : Delta) : Prop := match eo.g with
  | none => stepD P (CStar P) ban eo.k eo.dst st (fun δ' => δ' = δ)
  | some (s, want) => (∃ t, st.get s = .val (.bool t) ∧ (t = want → stepD P (CStar P) ban eo.k eo.dst st (fun δ' => δ' = δ)) ∧ (t ≠ want → δ = dput eo.dst (.tup []))) ∨ (st.get s = .tup [] ∧ δ = dput eo.dst (.tup []))

inductive Run (P : Program) (ban : List Nat) : List EOp → St → List Delta → St → Prop
  | nil (st : St) : Run P ban [] st [] st
  | cons (eo : EOp) (l : List EOp) (st st' : St) (δ : Delta) (δs : List Delta) (h : OStep P ban eo st δ) (hr : Run P ban l (st.app δ) δs st') : Run P ban (eo :: l) st (δ :: δs) st'

theorem put_eq {st : St} {s : Nat} {p : PV} (h : st.get s = p) : StEq (st.put s p) st :=
  ⟨fun x => by
    have : (st.put s p).get x = if s = x then p else st.get x := look_one _ _ _ _ _
    rw [this]
    by_cases e : s = x
    · subst e; rw [if_pos rfl, h]
    · rw [if_neg e], fun _ => rfl, fun _ => rfl⟩

theorem evOps_run (hC : SoundC P C) : ∀ (l : List EOp) (st st0 : St) (k : St → Prop), (∀ eo ∈ l, ∀ o', eo.k = .scal o' → ∀ cs b, o'.op ≠ .select cs b) → StEq st st0 → evOps P C ban l st k →
    ∃ δs st1 st', Run P ban l st0 δs st1 ∧ StEq st' st1 ∧ k st' := by
  intro l
  induction l with
  | nil => intro st st0 k _ he h; exact ⟨[], st0, st, .nil _, he, h⟩
  | cons eo l ih =>
    intro st st0 k hsel he h
    have hsel1 := hsel eo (by simp)
    have hsel2 : ∀ eo ∈ l, ∀ o', eo.k = .scal o' → ∀ cs b, o'.op ≠ .select cs b := fun e hm => hsel e (List.mem_cons_of_mem _ hm)
    have run1 : ∀ (su : St), StEq su st0 → stepD P C ban eo.k eo.dst su (fun δ => evOps P C ban l (su.app δ) k) →
        ∃ δ, stepD P (CStar P) ban eo.k eo.dst st0 (fun δ' => δ' = δ) ∧ ∃ δs st1 st', Run P ban l (st0.app δ) δs st1 ∧ StEq st' st1 ∧ k st' := by
      intro su hu hs
      obtain ⟨δ, h1, h2⟩ := step_star hC _ _ _ _ hs
      exact ⟨δ, step_agree (hu.agree _ _ hsel1) (h2 (fun δ' => δ' = δ) rfl), ih _ _ _ hsel2 (hu.app δ) h1⟩
    simp only [evOps] at h
    cases hg : eo.g with
    | none =>
      rw [hg] at h
      obtain ⟨δ, h1, δs, st1, st', h2, h3, h4⟩ := run1 st he h
      exact ⟨δ :: δs, st1, st', .cons eo l st0 st1 δ δs (by unfold OStep; rw [hg]; exact h1) h2, h3, h4⟩
    | some sw =>
      obtain ⟨s, want⟩ := sw
      rw [hg] at h
      simp only at h
      cases hq : st.get s with
      | val v =>
        rw [hq] at h
        cases v with
        | bool t =>
          have hq0 : st0.get s = .val (.bool t) := by rw [← he.get, hq]
          have hu : StEq (st.put s (.val (.bool t))) st0 := (put_eq hq).trans he
          have skip : evOps P C ban l ((st.put s (.val (.bool t))).app (dput eo.dst (.tup []))) k → t ≠ want →
              ∃ δs st1 st', Run P ban (eo :: l) st0 δs st1 ∧ StEq st' st1 ∧ k st' := by
            intro hs hne
            obtain ⟨δs, st1, st', h2, h3, h4⟩ := ih _ (st0.app (dput eo.dst (.tup []))) _ hsel2 (hu.app _) hs
            exact ⟨_ :: δs, st1, st', .cons eo l st0 st1 _ δs (by unfold OStep; rw [hg]; exact .inl ⟨t, hq0, fun e => absurd e hne, fun _ => rfl⟩) h2, h3, h4⟩
          have take : stepD P C ban eo.k eo.dst (st.put s (.val (.bool t))) (fun δ => evOps P C ban l ((st.put s (.val (.bool t))).app δ) k) → t = want →
              ∃ δs st1 st', Run P ban (eo :: l) st0 δs st1 ∧ StEq st' st1 ∧ k st' := by
            intro hs heq
            obtain ⟨δ, h1, δs, st1, st', h2, h3, h4⟩ := run1 _ hu hs
            exact ⟨δ :: δs, st1, st', .cons eo l st0 st1 δ δs (by unfold OStep; rw [hg]; exact .inl ⟨t, hq0, fun _ => h1, fun e => absurd heq e⟩) h2, h3, h4⟩
          cases t <;> cases want <;> simp only [br] at h <;> first | exact take h rfl | exact skip h (by decide)
        | _ => exact h.elim
      | tup l0 =>
        rw [hq] at h
        cases l0 with
        | nil =>
          have hq0 : st0.get s = .tup [] := by rw [← he.get, hq]
          obtain ⟨δs, st1, st', h2, h3, h4⟩ := ih _ (st0.app (dput eo.dst (.tup []))) _ hsel2 (he.app _) h
          exact ⟨_ :: δs, st1, st', .cons eo l st0 st1 _ δs (by unfold OStep; rw [hg]; exact .inr ⟨hq0, rfl⟩) h2, h3, h4⟩
        | cons _ _ => exact h.elim
      | _ => rw [hq] at h; exact h.elim

/-- the state when just those of a mask have been carried out -/
def stM : List Delta → (Nat → Bool) → St → St
  | [], _, st => st
  | δ :: r, m, st => stM r (fun i => m (i + 1)) (if m 0 then st.app δ else st)

theorem stM_congr : ∀ (δs : List Delta) (m m' : Nat → Bool) (st : St), (∀ i, i < δs.length → m i = m' i) → stM δs m st = stM δs m' st := by
  intro δs
  induction δs with
  | nil => intro m m' st _; rfl
  | cons δ r ih =>
    intro m m' st h
    simp only [stM]
    rw [h 0 (by simp)]
    exact ih _ _ _ (fun i hi => h (i + 1) (by simp; omega))

theorem stM_none : ∀ (δs : List Delta) (m : Nat → Bool) (st : St), (∀ i, i < δs.length → m i = false) → stM δs m st = st := by
  intro δs
  induction δs with
  | nil => intro m st _; rfl
  | cons δ r ih =>
    intro m st h
    simp only [stM]
    rw [h 0 (by simp)]
    exact ih _ _ (fun i hi => h (i + 1) (by simp; omega))

theorem Run.length {l : List EOp} {st st' : St} {δs : List Delta} (h : Run P ban l st δs st') : δs.length = l.length := by
  induction h with
  | nil => rfl
  | cons eo l st st' δ δs _ _ ih => simp [ih]

theorem Run.at {l : List EOp} {st st' : St} {δs : List Delta} (h : Run P ban l st δs st') : ∀ (i : Nat) (eo : EOp) (δ : Delta), l[i]? = some eo → δs[i]? = some δ → OStep P ban eo (stM δs (fun j => decide (j < i)) st) δ := by
  induction h with
  | nil => intro i eo δ h; simp at h
  | cons eo l st st' δ δs h1 _ ih =>
    intro i e d he hd
    cases i with
    | zero =>
      simp at he hd
      subst he; subst hd
      have : stM (δ :: δs) (fun j => decide (j < 0)) st = st := stM_none _ _ _ (fun i _ => by simp)
      rw [this]; exact h1
    | succ i =>
      have := ih i e d (by simpa using he) (by simpa using hd)
      simp only [stM]
      simpa using this

theorem Run.last {l : List EOp} {st st' : St} {δs : List Delta} (h : Run P ban l st δs st') : st' = stM δs (fun _ => true) st := by
  induction h with
  | nil => rfl
  | cons eo l st st' δ δs _ _ ih => simp only [stM]; exact ih

theorem stM_get : ∀ (δs : List Delta) (m m' : Nat → Bool) (st st' : St) (s : Nat), st.get s = st'.get s → (∀ (i : Nat) (δ : Delta), δs[i]? = some δ → s ∈ δ.s.map Prod.fst → m i = m' i) →
    (stM δs m st).get s = (stM δs m' st').get s := by
  intro δs
  induction δs with
  | nil => intro m m' st st' s h _; exact h
  | cons δ r ih =>
    intro m m' st st' s h hm
    simp only [stM]
    refine ih _ _ _ _ s ?_ (fun i δ' hi hs => hm (i + 1) δ' (by simpa using hi) hs)
    by_cases hs : s ∈ δ.s.map Prod.fst
    · rw [hm 0 δ rfl hs]
      cases m' 0
      · exact h
      · simp only [if_true]; rw [app_get, app_get, if_pos hs, if_pos hs]
    · have e1 : ∀ (b : Bool) (st : St), (if b then st.app δ else st).get s = st.get s := fun b st => by
        cases b
        · rfl
        · simp only [if_true]; rw [app_get, if_neg hs]
      rw [e1, e1]; exact h

theorem stM_obj : ∀ (δs : List Delta) (m m' : Nat → Bool) (st st' : St) (s : Nat), st.obj s = st'.obj s → (∀ (i : Nat) (δ : Delta), δs[i]? = some δ → s ∈ δ.o.map Prod.fst → m i = m' i) →
    (stM δs m st).obj s = (stM δs m' st').obj s := by
  intro δs
  induction δs with
  | nil => intro m m' st st' s h _; exact h
  | cons δ r ih =>
    intro m m' st st' s h hm
    simp only [stM]
    refine ih _ _ _ _ s ?_ (fun i δ' hi hs => hm (i + 1) δ' (by simpa using hi) hs)
    by_cases hs : s ∈ δ.o.map Prod.fst
    · rw [hm 0 δ rfl hs]
      cases m' 0
      · exact h
      · simp only [if_true]; rw [app_obj, app_obj, if_pos hs, if_pos hs]
    · have e1 : ∀ (b : Bool) (st : St), (if b then st.app δ else st).obj s = st.obj s := fun b st => by
        cases b
        · rfl
        · simp only [if_true]; rw [app_obj, if_neg hs]
      rw [e1, e1]; exact h

theorem stM_key : ∀ (δs : List Delta) (m m' : Nat → Bool) (st st' : St) (s : Nat), notIn s (st.ob.map Prod.fst) = notIn s (st'.ob.map Prod.fst) → (∀ (i : Nat) (δ : Delta), δs[i]? = some δ → s ∈ δ.o.map Prod.fst → m i = m' i) →
    notIn s ((stM δs m st).ob.map Prod.fst) = notIn s ((stM δs m' st').ob.map Prod.fst) := by
  intro δs
  induction δs with
  | nil => intro m m' st st' s h _; exact h
  | cons δ r ih =>
    intro m m' st st' s h hm
    simp only [stM]
    refine ih _ _ _ _ s ?_ (fun i δ' hi hs => hm (i + 1) δ' (by simpa using hi) hs)
    by_cases hs : s ∈ δ.o.map Prod.fst
    · rw [hm 0 δ rfl hs]
      cases m' 0
      · exact h
      · simp only [if_true]; rw [app_key, app_key, h]
    · have e0 : notIn s (δ.o.map Prod.fst) = true := (notIn_iff _ _).2 hs
      have e1 : ∀ (b : Bool) (st : St), notIn s ((if b then st.app δ else st).ob.map Prod.fst) = notIn s (st.ob.map Prod.fst) := fun b st => by
        cases b
        · rfl
        · simp only [if_true]; rw [app_key, e0, Bool.true_and]
      rw [e1, e1]; exact h

/-- two changes that touch nothing in common -/
def Disj (x y : Delta) : Prop := (∀ s, s ∈ x.s.map Prod.fst → s ∉ y.s.map Prod.fst) ∧ (∀ s, s ∈ x.o.map Prod.fst → s ∉ y.o.map Prod.fst)

theorem app_comm (st : St) (x y : Delta) (h : Disj x y) : StEq ((st.app x).app y) ((st.app y).app x) := by
  refine ⟨fun s => ?_, fun s => ?_, fun s => ?_⟩
  · rw [app_get, app_get, app_get, app_get]
    by_cases h1 : s ∈ x.s.map Prod.fst
    · rw [if_neg (h.1 s h1), if_pos h1, if_pos h1]
    · rw [if_neg h1, if_neg h1]
  · rw [app_obj, app_obj, app_obj, app_obj]
    by_cases h1 : s ∈ x.o.map Prod.fst
    · rw [if_neg (h.2 s h1), if_pos h1, if_pos h1]
    · rw [if_neg h1, if_neg h1]
  · rw [app_key, app_key, app_key, app_key]
    cases notIn s (y.o.map Prod.fst) <;> cases notIn s (x.o.map Prod.fst) <;> simp

theorem stM_eq : ∀ (δs : List Delta) (m : Nat → Bool) (st st' : St), StEq st st' → StEq (stM δs m st) (stM δs m st') := by
  intro δs
  induction δs with
  | nil => intro m st st' h; exact h
  | cons δ r ih =>
    intro m st st' h
    simp only [stM]
    refine ih _ _ _ ?_
    cases m 0
    · exact h
    · exact h.app δ

theorem stM_app : ∀ (δs : List Delta) (m : Nat → Bool) (st : St) (δ : Delta), (∀ (i : Nat) (δ' : Delta), m i = true → δs[i]? = some δ' → Disj δ δ') → StEq (stM δs m (st.app δ)) ((stM δs m st).app δ) := by
  intro δs
  induction δs with
  | nil => intro m st δ _; exact .refl _
  | cons δ' r ih =>
    intro m st δ h
    simp only [stM]
    have hr : ∀ (i : Nat) (d : Delta), m (i + 1) = true → r[i]? = some d → Disj δ d := fun i d hi hd => h (i + 1) d hi (by simpa using hd)
    cases hm : m 0 with
    | false => exact ih _ _ _ hr
    | true =>
      simp only [if_true]
      exact (stM_eq r _ _ _ (app_comm st δ δ' (h 0 δ' hm rfl))).trans (ih _ _ _ hr)

theorem stM_push : ∀ (δs : List Delta) (m : Nat → Bool) (i : Nat) (st : St) (δ : Delta), δs[i]? = some δ → m i = false → (∀ (j : Nat) (δ' : Delta), i < j → m j = true → δs[j]? = some δ' → Disj δ δ') →
    StEq (stM δs (fun j => if j = i then true else m j) st) ((stM δs m st).app δ) := by
  intro δs
  induction δs with
  | nil => intro m i st δ h; simp at h
  | cons δ0 r ih =>
    intro m i st δ h hm hd
    cases i with
    | zero =>
      simp at h
      subst h
      simp only [stM, hm, if_true]
      have : (fun j => if j + 1 = 0 then true else m (j + 1)) = fun j => m (j + 1) := funext fun j => by simp
      rw [this]
      exact stM_app r _ st δ0 (fun i δ' hi hδ => hd (i + 1) δ' (by omega) hi (by simpa using hδ))
    | succ i =>
      simp only [stM]
      have e0 : (if 0 = i + 1 then true else m 0) = m 0 := by simp
      have e1 : (fun j => if j + 1 = i + 1 then true else m (j + 1)) = fun j => if j = i then true else m (j + 1) := funext fun j => by simp
      simp only [e0, e1]
      exact ih _ i _ δ (by simpa using h) hm (fun j δ' hj hmj hδ => hd (j + 1) δ' (by omega) hmj (by simpa using hδ))

/-- what an operation touches -/
theorem step_foot {o : K} {d : Option Nat} {st : St} {δ : Delta} (h : stepD P (CStar P) ban o d st (fun δ' => δ' = δ)) :
    (∀ s ∈ δ.s.map Prod.fst, s ∈ EOp.writes ⟨d, none, o⟩) ∧ (∀ b ∈ δ.o.map Prod.fst, (o.isStore = true ∧ ∀ a, o.addr = some a → ∃ off, st.get a = .loc b off) ∨ (o.makes = true ∧ d = some b)) := by
  have put : ∀ (p : PV), (∀ s ∈ (dput d p).s.map Prod.fst, s ∈ EOp.writes ⟨d, none, o⟩) ∧ (∀ b ∈ (dput d p).o.map Prod.fst, (o.isStore = true ∧ ∀ a, o.addr = some a → ∃ off, st.get a = .loc b off) ∨ (o.makes = true ∧ d = some b)) := by
    intro p
    cases d with
    | none => exact ⟨fun s hs => by simp [dput] at hs, fun b hb => by simp [dput] at hb⟩
    | some x => exact ⟨fun s hs => by simp [dput] at hs; simp [EOp.writes, hs], fun b hb => by simp [dput] at hb⟩
  cases o with
  | move x => exact h ▸ put _
  | take s =>
    cases d with
    | none => exact h.elim
    | some x => subst h; exact ⟨fun y hy => by simpa [EOp.writes] using hy, fun b hb => by simp at hb⟩
  | pick c x y =>
    simp only [stepD] at h
    cases hq : st.opd c with
    | val v =>
      rw [hq] at h
      cases v with
      | bool t => cases t <;> exact h ▸ put _
      | _ => exact h.elim
    | _ => rw [hq] at h; exact h.elim
  | alloc z =>
    simp only [stepD] at h
    cases d with
    | none => exact h.elim
    | some s =>
      simp only at h
      cases g1 : notIn s (st.ob.map Prod.fst) <;> cases g2 : ones (z.map PV.val) <;> simp only [g1, g2] at h
      subst h
      exact ⟨fun y hy => by simpa [EOp.writes] using hy, fun b hb => by simp at hb; subst hb; exact .inr ⟨rfl, rfl⟩⟩
  | box x =>
    simp only [stepD] at h
    cases d with
    | none => exact h.elim
    | some s =>
      simp only at h
      cases g1 : notIn s (st.ob.map Prod.fst) <;> cases g2 : ones (st.opd x).cells <;> simp only [g1, g2] at h
      subst h
      exact ⟨fun y hy => by simpa [EOp.writes] using hy, fun b hb => by simp at hb; subst hb; exact .inr ⟨rfl, rfl⟩⟩
  | build z parts =>
    simp only [stepD] at h
    cases g1 : ones (z.map PV.val) with
    | false => rw [g1] at h; exact h.elim
    | true =>
      rw [g1] at h
      obtain ⟨l, h1, _⟩ := fillN_pick st _ _ _ h
      exact h1 ▸ put _
  | bslice e sz parts =>
    simp only [stepD] at h
    obtain ⟨l, h1, _⟩ := elems_pick st _ _ _ h
    exact h1 ▸ put _
  | load g sz x =>
    simp only [stepD] at h
    cases hq : st.opd x with
    | loc b off =>
      rw [hq] at h
      simp only at h
      cases g1 : notIn b ban <;> cases g2 : lenGe ((st.obj b).drop off) sz <;> simp only [g1, g2] at h
      exact h ▸ put _
    | ref l =>
      rw [hq] at h
      simp only at h
      cases g2 : lenGe l sz <;> simp only [g2] at h
      exact h ▸ put _
    | _ => rw [hq] at h; exact h.elim
  | store sz x y =>
    simp only [stepD] at h
    cases hq : st.opd x with
    | loc b off =>
      rw [hq] at h
      simp only at h
      cases g1 : lenIs (st.opd y).cells sz <;> cases g2 : ones (st.opd y).cells <;> cases g3 : lenGe (st.obj b) (off + sz) <;> simp only [g1, g2, g3] at h
      subst h
      exact ⟨fun y hy => by simp at hy, fun b' hb => .inl ⟨rfl, fun a ha => by
        simp at hb
        subst hb
        cases x with
        | tmp t => simp only [K.addr, Option.some.injEq] at ha; subst ha; exact ⟨off, hq⟩
        | _ => cases ha⟩⟩
    | _ => rw [hq] at h; exact h.elim
  | scal o =>
    simp only [stepD, scalK] at h
    cases g1 : allVal st o.op.operands.toList with
    | false => rw [g1] at h; exact h.elim
    | true =>
      rw [g1] at h
      obtain ⟨n, h1, _⟩ := pureRun_pick _ _ h
      cases n with
      | value v =>
        simp only at h1
        cases g2 : oneV v with
        | false => rw [g2] at h1; exact h1.elim
        | true => rw [g2] at h1; have h1' : dput d (PV.val v) = δ := h1; exact h1' ▸ put _
      | _ => exact h1.elim
  | bin2 tag x y =>
    simp only [stepD] at h
    split at h
    · split at h
      · rename_i c r _
        cases c with
        | true => have h1' : dput d _ = δ := h; exact h1' ▸ put _
        | false => exact h.elim
      · exact h.elim
    · exact h.elim
  | eqA neg ts x y =>
    simp only [stepD] at h
    split at h
    · split at h
      · cases neg <;> exact h ▸ put _
      · exact h.elim
    · exact h.elim
  | field off x =>
    simp only [stepD] at h
    cases hq : st.opd x with
    | loc b o => rw [hq] at h; have h1' : dput d _ = δ := h; exact h1' ▸ put _
    | ref l => rw [hq] at h; have h1' : dput d _ = δ := h; exact h1' ▸ put _
    | _ => rw [hq] at h; exact h.elim
  | index sz x i =>
    simp only [stepD] at h
    cases hq : st.opd x with
    | sl own e sz' es =>
      cases hq' : st.opd i with
      | val v =>
        cases v with
        | int kk n =>
          rw [hq, hq'] at h
          simp only at h
          cases g1 : Nat.beq sz sz' with
          | false => rw [g1] at h; exact h.elim
          | true => rw [g1] at h; obtain ⟨_, c, _, h3⟩ := h; exact h3 ▸ put _
        | _ => rw [hq, hq'] at h; exact h.elim
      | _ => rw [hq, hq'] at h; exact h.elim
    | arr e sz' m f =>
      cases hq' : st.opd i with
      | val v =>
        cases v with
        | int kk n =>
          rw [hq, hq'] at h
          simp only at h
          cases g1 : Nat.beq sz sz' with
          | false => rw [g1] at h; exact h.elim
          | true => rw [g1] at h; obtain ⟨_, _, h3⟩ := h; exact h3 ▸ put _
        | _ => rw [hq, hq'] at h; exact h.elim
      | _ => rw [hq, hq'] at h; exact h.elim
    | _ => rw [hq] at h; exact h.elim
  | len x =>
    simp only [stepD] at h
    cases hq : st.opd x with
    | sl own e sz' es => rw [hq] at h; have h1' : dput d _ = δ := h; exact h1' ▸ put _
    | arr e sz' m f => rw [hq] at h; have h1' : dput d _ = δ := h; exact h1' ▸ put _
    | val v =>
      rw [hq] at h
      cases v with
      | slice A n c => have h1' : dput d _ = δ := h; exact h1' ▸ put _
      | _ => exact h.elim
    | _ => rw [hq] at h; exact h.elim
  | app e sz by_ s x =>
    simp only [stepD] at h
    cases d with
    | none => exact h.elim
    | some d =>
      simp only at h
      split at h
      · rename_i e' sz' es own e2' sz'' ys hgs hgx
        cases c1 : Nat.beq e e' <;> cases c2 : Nat.beq sz sz' <;> cases c3 : Nat.beq sz sz'' <;> simp only [c1, c2, c3] at h
        have h' := h.2.2
        subst h'
        exact ⟨fun y hy => by simpa [EOp.writes] using hy, fun b hb => by simp at hb⟩
      · rename_i own e2' sz'' ys hgs hgx
        cases c3 : Nat.beq sz sz'' <;> simp only [c3] at h
        have h' := h.2.2
        subst h'
        exact ⟨fun y hy => by simp at hy; simp [EOp.writes, hy], fun b hb => by simp at hb⟩
      · exact h.elim
  | call f args =>
    simp only [stepD] at h
    cases g1 : locsOk st ban args with
    | false => rw [g1] at h; exact h.elim
    | true => rw [g1] at h; obtain ⟨r, _, h2⟩ := h; exact h2 ▸ put _
  | extract x i =>
    simp only [stepD] at h
    cases hq : st.opd x with
    | tup l =>
      rw [hq] at h
      simp only at h
      cases g1 : lenGe l (i + 1) <;> simp only [g1] at h
      have h1' : dput d _ = δ := h
      exact h1' ▸ put _
    | _ => rw [hq] at h; exact h.elim
  | nil x =>
    simp only [stepD] at h
    cases hq : st.opd x with
    | loc b o => rw [hq] at h; have h1' : dput d _ = δ := h; exact h1' ▸ put _
    | ref l => rw [hq] at h; have h1' : dput d _ = δ := h; exact h1' ▸ put _
    | _ => rw [hq] at h; exact h.elim

theorem ostep_foot {eo : EOp} {st : St} {δ : Delta} (h : OStep P ban eo st δ) : (∀ s ∈ δ.s.map Prod.fst, s ∈ eo.writes) ∧ (∀ b ∈ δ.o.map Prod.fst, (eo.k.isStore = true ∧ ∀ a, eo.k.addr = some a → ∃ off, st.get a = .loc b off) ∨ (eo.k.makes = true ∧ eo.dst = some b)) := by
  obtain ⟨d, g, k⟩ := eo
  unfold OStep at h
  cases g with
  | none => exact step_foot h
  | some sw =>
    obtain ⟨s, want⟩ := sw
    have skip : δ = dput d (.tup []) → (∀ s' ∈ δ.s.map Prod.fst, s' ∈ (EOp.mk d (some (s, want)) k).writes) ∧ (∀ b ∈ δ.o.map Prod.fst, (k.isStore = true ∧ ∀ a, k.addr = some a → ∃ off, st.get a = .loc b off) ∨ (k.makes = true ∧ d = some b)) := by
      intro e
      subst e
      cases d with
      | none => exact ⟨fun s hs => by simp [dput] at hs, fun b hb => by simp [dput] at hb⟩
      | some x => exact ⟨fun s hs => by simp [dput] at hs; simp [EOp.writes, hs], fun b hb => by simp [dput] at hb⟩
    rcases h with ⟨t, _, h1, h2⟩ | ⟨_, h2⟩
    · by_cases e : t = want
      · exact step_foot (h1 e)
      · exact skip (h2 e)
    · exact skip h2

end
end Go.Proofs.Ytflfeikkcpcdiaa.Ev
