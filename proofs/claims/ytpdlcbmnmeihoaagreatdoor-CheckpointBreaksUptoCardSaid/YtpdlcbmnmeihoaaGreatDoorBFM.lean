/-  Regions in any order; code; functions. -/
import Derived.Test.YtpdlcbmnmeihoaaGreatDoorBFJ
set_option linter.unusedVariables false
set_option linter.unusedSimpArgs false
set_option linter.unnecessarySimpa false
namespace Go.Proofs.YtpdlcbmnmeihoaaGreatDoor.Ev
open Go Go.RowKit
section
variable {ι : Type} {cx : ι → PV × Value} {P : Program} {C : Oracle} {X : Inl} {inl : Nat → Bool} {once : Nat} {ban : List Nat} {w0 : Base} {w : World} {N M : Mut} {β : Loc} {nt : Nat} {st : St} {a : Act}
def maskL (listed : Array Bool) : Nat → Bool := fun i => listed.getD i false
/-! ### in the order of the text -/
theorem SR.weak {st' : St} (h : SR cx w0 N nt st a w M β) (hg : ∀ x, st'.get x = st.get x ∨ st'.get x = .any) (ho : ∀ d, st'.obj d = st.obj d) (hk : ∀ d, notIn d (st'.ob.map Prod.fst) = notIn d (st.ob.map Prod.fst)) : SR cx w0 N nt st' a w M β := by
  refine ⟨h.defs, h.nt, h.sh.perm (fun k => ?_) (fun d b n hd => by rw [ho]; exact (h.sh.box d b n hd).2.2) (fun d hd => h.sh.dom d (by rw [← hk]; exact hd)) some (fun key s v hw => ⟨key, rfl, ?_⟩) (fun k k' j h1 h2 => by injection h1 with h1; injection h2 with h2; rw [h1, h2])⟩
  · cases k with
    | inl s =>
      rcases hg s with e | e
      · show Rel _ _ _ _ (st'.get s) _
        rw [e]; exact h.sh.reg (.inl s)
      · show Rel _ _ _ _ (st'.get s) _
        rw [e]; exact .any _
    | inr i => exact h.sh.reg (.inr i)
  · cases key with
    | slot k =>
      cases k with
      | inl t =>
        obtain ⟨h1, h2, h3⟩ := hw
        simp only [hold] at h1
        rcases hg t with e | e
        · rw [e] at h1; exact ⟨h1, h2, h3⟩
        · rw [e] at h1; cases h1
      | inr i => exact hw
    | cell d i =>
      obtain ⟨b, n, p, h1, h2, h3⟩ := hw
      rw [ho] at h2
      exact ⟨b, n, p, h1, h2, h3⟩
/-- this one of the program's operations, compiled -/
def Here (P : Program) (inl : Nat → Bool) (once nt : Nat) (os : Array Oper) (i : Nat) (eo : EOp) : Prop :=
  ∃ o, os[i]? = some o ∧ cOp P inl once o = eo.k ∧ eo.dst = o.dst ∧ cGuard os o.guard = some eo.g ∧ ∀ x, o.dst = some x → x < nt
theorem run_sound {os : Array Oper} {l : List EOp} {δs : List Delta} {st' : St} (hr : Run P ban l st δs st') {Q : Exit → Act → World → Prop} : ∀ (i k : Nat), i + k = os.size → l.length ≤ k →
    (∀ j eo, l[j]? = some eo → Here P inl once nt os (i + j) eo) → ∀ (a : Act) (w : World) (M : Mut) (β : Loc), SR cx w0 N nt st a w M β →
    (∀ a' w' M' β', SR cx w0 N nt st' a' w' M' β' → wpOps P os Q (List.range' (i + l.length) (k - l.length)) a' w') → wpOps P os Q (List.range' i k) a w := by
  induction hr with
  | nil st => intro i k _ _ _ a w M β h hQ; exact hQ _ _ _ _ h
  | cons eo l st st' δ δs h1 _ ih =>
    intro i k hi hk hh a w M β h hQ
    cases k with
    | zero => simp at hk
    | succ k =>
      obtain ⟨o, ho, g2, g3, g4, hdst⟩ := hh 0 eo rfl
      rw [Nat.add_zero] at ho
      have key := ostep_sound (os := os) (K := wpOps P os Q (List.range' (i + 1) k)) (Q := Q) h h1 g2 g3 g4 hdst (fun a' w' M' β' h' =>
        ih (i + 1) k (by omega) (by simp at hk; omega) (fun j e hj => by have := hh (j + 1) e (by simpa using hj); rwa [show i + (j + 1) = i + 1 + j by omega] at this) a' w' M' β' h' (fun a' w' M' β' h' => by
          have := hQ a' w' M' β' h'
          simp only [List.length_cons] at this
          rwa [show i + (l.length + 1) = i + 1 + l.length by omega, show k + 1 - (l.length + 1) = k - l.length by omega] at this))
      rw [List.range'_succ]
      simp only [wpOps, ho]
      by_cases hw : Region.wanted o (yielded os a.tmps) = true
      · rw [if_pos hw] at key ⊢; exact .inl key
      · rw [if_neg hw] at key ⊢; exact key
theorem quiet_spec {k : K} (h : k.quiet = true) : k.isStore = false ∧ k.makes = false := by cases k <;> first | exact ⟨rfl, rfl⟩ | cases h
theorem quiet_writes {eo : EOp} (h : eo.k.quiet = true) : ∀ s ∈ eo.writes, eo.dst = some s := by
  intro s hs
  obtain ⟨d, g, k⟩ := eo
  cases k <;> first | cases h | skip
  all_goals (cases d with
    | none => simp [EOp.writes] at hs
    | some d => simp [EOp.writes] at hs; subst hs; rfl)
theorem run_quiet {l : List EOp} {δs : List Delta} {st' : St} (hr : Run P ban l st δs st') : (∀ eo ∈ l, eo.k.quiet = true) → st'.ob = st.ob ∧ st'.base = st.base ∧ ∀ x, x ∉ (anyD l).map Prod.fst → st'.get x = st.get x := by
  induction hr with
  | nil st => intro _; exact ⟨rfl, rfl, fun _ _ => rfl⟩
  | cons eo l st st' δ δs h1 _ ih =>
    intro hq
    obtain ⟨i1, i2, i3⟩ := ih (fun e he => hq e (List.mem_cons_of_mem _ he))
    have hqe := hq eo (by simp)
    obtain ⟨f1, f2⟩ := ostep_foot h1
    obtain ⟨q1, q2⟩ := quiet_spec hqe
    have ho : δ.o = [] := by
      cases hd : δ.o with
      | nil => rfl
      | cons x r =>
        rcases f2 x.1 (by rw [hd]; simp) with f | f
        · rw [q1] at f; cases f.1
        · rw [q2] at f; cases f.1
    have hob : (st.app δ).ob = st.ob := by simp [St.app, ho, mrgO]
    refine ⟨i1.trans hob, i2, fun x hx => ?_⟩
    have hx2 : x ∉ (anyD l).map Prod.fst := fun h => hx (by unfold anyD; cases eo.dst <;> simp_all)
    rw [i3 x hx2, app_get, if_neg]
    intro hm
    have := quiet_writes hqe x (f1 x hm)
    apply hx
    unfold anyD
    rw [this]
    simp
theorem anyD_look (l : List EOp) (x : Nat) : look .any (anyD l) x = .any := by
  induction l with
  | nil => rfl
  | cons eo l ih =>
    unfold anyD
    cases eo.dst with
    | none => exact ih
    | some d => simp only; rw [look_one, ih]; split <;> rfl
theorem stJ_weak {l : List EOp} {δs : List Delta} {st' : St} (hr : Run P ban l st δs st') (hq : ∀ eo ∈ l, eo.k.quiet = true) {pd : Nat} {v : Bool} (hv : st'.get pd = .val (.bool v)) (h : SR cx w0 N nt st' a w M β) : SR cx w0 N nt (stJ st l pd v) a w M β := by
  obtain ⟨i1, i2, i3⟩ := run_quiet hr hq
  refine h.weak (fun x => ?_) (fun d => ?_) (fun d => ?_)
  · unfold stJ
    rw [app_get]
    simp only [List.map_cons, List.mem_cons]
    by_cases e : x = pd
    · subst e
      rw [if_pos (.inl rfl), look_one, if_pos rfl, hv]; exact .inl rfl
    · by_cases e2 : x ∈ (anyD l).map Prod.fst
      · rw [if_pos (.inr e2), look_one, if_neg (fun h => e h.symm), anyD_look]; exact .inr rfl
      · rw [if_neg (fun h => h.elim e e2)]; exact .inl (i3 x e2).symm
  · show look [] (([] : List (Nat × List PV)) ++ st.ob) d = look [] st'.ob d
    rw [i1]; rfl
  · show notIn d ((([] : List (Nat × List PV)) ++ st.ob).map Prod.fst) = _
    rw [i1]; rfl
inductive RunS (P : Program) : List EOp → St → St → Prop
  | nil (st : St) : RunS P [] st st
  | cons (eo : EOp) (l : List EOp) (st st' : St) (δ : Delta) (h : OStep P [] eo st δ) (hr : RunS P l (st.app δ) st') : RunS P (eo :: l) st st'
  | join (B r : List EOp) (st : St) (δs : List Delta) (st1 st' : St) (pd : Nat) (v : Bool) (hB : Run P [] B st δs st1) (hq : ∀ eo ∈ B, eo.k.quiet = true) (hv : st1.get pd = .val (.bool v)) (hr : RunS P r (stJ st B pd v) st') : RunS P (B ++ r) st st'
theorem splitB_spec {s : Nat} : ∀ {l B r : List EOp} {pd : Nat}, splitB s l = some (B, pd, r) → l = B ++ r ∧ ∀ eo ∈ B, eo.k.quiet = true := by
  intro l
  induction l with
  | nil => intro B r pd h; cases h
  | cons eo l ih =>
    intro B r pd h
    unfold splitB at h
    cases hq : eo.k.quiet with
    | false => rw [hq] at h; cases h
    | true =>
      rw [hq] at h
      cases hg : eo.g with
      | some g =>
        rw [hg] at h
        simp only at h
        cases hs : splitB s l with
        | none => rw [hs] at h; cases h
        | some x =>
          obtain ⟨B', pd', r'⟩ := x
          rw [hs] at h
          simp only [Option.some.injEq, Prod.mk.injEq] at h
          obtain ⟨rfl, rfl, rfl⟩ := h
          obtain ⟨e1, e2⟩ := ih hs
          exact ⟨by rw [e1]; rfl, fun e he => by
            rcases List.mem_cons.1 he with rfl | h
            · exact hq
            · exact e2 e h⟩
      | none =>
        rw [hg] at h
        simp only at h
        split at h
        · split at h
          · simp only [Option.some.injEq, Prod.mk.injEq] at h
            obtain ⟨rfl, rfl, rfl⟩ := h
            exact ⟨rfl, fun e he => by simp at he; subst he; exact hq⟩
          · cases h
        · cases h
theorem evSeq_run (hC : SoundC P C) (hX : SoundX P X) : ∀ (n : Nat) (l : List EOp) (st st0 : St) (k : St → Prop), (∀ eo ∈ l, ∀ o', eo.k = .scal o' → ∀ cs b, o'.op ≠ .select cs b) → StEq st st0 → evSeq P C X n l st k →
    ∃ st1 st', RunS P l st0 st1 ∧ StEq st' st1 ∧ k st' := by
  intro n
  induction n with
  | zero =>
    intro l st st0 k hsel he h
    cases l with
    | nil => exact ⟨st0, st, .nil _, he, h⟩
    | cons _ _ => exact h.elim
  | succ n ih =>
    intro l st st0 k hsel he h
    cases l with
    | nil => exact ⟨st0, st, .nil _, he, h⟩
    | cons eo l =>
      have hsel1 := hsel eo (by simp)
      have hsel2 : ∀ eo ∈ l, ∀ o', eo.k = .scal o' → ∀ cs b, o'.op ≠ .select cs b := fun e hm => hsel e (List.mem_cons_of_mem _ hm)
      have run1 : ∀ (su : St), StEq su st0 → stepD P C X [] eo.k eo.dst su (fun δ => evSeq P C X n l (su.app δ) k) →
          ∃ δ, stepD P (CStar P) (XStar P) [] eo.k eo.dst st0 (fun δ' => δ' = δ) ∧ ∃ st1 st', RunS P l (st0.app δ) st1 ∧ StEq st' st1 ∧ k st' := by
        intro su hu hs
        obtain ⟨δ, h1, h2⟩ := step_star hC hX _ _ _ _ hs
        exact ⟨δ, step_agree (hu.agree _ _ hsel1) (h2 (fun δ' => δ' = δ) rfl), ih _ _ _ _ hsel2 (hu.app δ) h1⟩
      simp only [evSeq] at h
      cases hg : eo.g with
      | none =>
        rw [hg] at h
        obtain ⟨δ, h1, st1, st', h2, h3, h4⟩ := run1 st he h
        exact ⟨st1, st', .cons eo l st0 st1 δ (by unfold OStep; rw [hg]; exact h1) h2, h3, h4⟩
      | some sw =>
        obtain ⟨s, want⟩ := sw
        rw [hg] at h
        simp only at h
        cases hq : st.get s with
        | val v =>
          rw [hq] at h
          cases v with
          | bool t =>
            simp only at h
            have hq0 : st0.get s = .val (.bool t) := by rw [← he.get, hq]
            have hu : StEq (st.put s (.val (.bool t))) st0 := (put_eq hq).trans he
            cases hsp : splitB s (eo :: l) with
            | some x =>
              obtain ⟨B, pd, r'⟩ := x
              rw [hsp] at h
              obtain ⟨e1, e2⟩ := splitB_spec hsp
              simp only [jn] at h
              have go : ∀ su, StEq su st0 → evOps P C X [] B su (jPick pd (fun b => evSeq P C X n r' (stJ st B pd b) k)) → ∃ st1 st', RunS P (eo :: l) st0 st1 ∧ StEq st' st1 ∧ k st' := by
                intro su hsu hs
                have hselB : ∀ eo ∈ B, ∀ o', eo.k = .scal o' → ∀ cs b, o'.op ≠ .select cs b := fun e hm => hsel e (by rw [e1]; exact List.mem_append_left _ hm)
                have hselr : ∀ eo ∈ r', ∀ o', eo.k = .scal o' → ∀ cs b, o'.op ≠ .select cs b := fun e hm => hsel e (by rw [e1]; exact List.mem_append_right _ hm)
                obtain ⟨δs, s1, s', h1, h2, h3⟩ := evOps_run hC hX B su st0 _ hselB hsu hs
                unfold jPick at h3
                split at h3
                · rename_i b hb
                  obtain ⟨st1, st', h4, h5, h6⟩ := ih r' (stJ st B pd b) (stJ st0 B pd b) k hselr (he.app _) h3
                  refine ⟨st1, st', ?_, h5, h6⟩
                  rw [e1]
                  exact .join B r' st0 δs s1 st1 pd b h1 e2 (by rw [← h2.get, hb]) h4
                · exact h3.elim
              cases t <;> simp only [br] at h
              · exact go _ hu h
              · exact go _ hu h
            | none =>
              rw [hsp] at h
              have skip : evSeq P C X n l ((st.put s (.val (.bool t))).app (dput eo.dst (.tup []))) k → t ≠ want →
                  ∃ st1 st', RunS P (eo :: l) st0 st1 ∧ StEq st' st1 ∧ k st' := by
                intro hs hne
                obtain ⟨st1, st', h2, h3, h4⟩ := ih _ _ (st0.app (dput eo.dst (.tup []))) _ hsel2 (hu.app _) hs
                exact ⟨st1, st', .cons eo l st0 st1 _ (by unfold OStep; rw [hg]; exact .inl ⟨t, hq0, fun e => absurd e hne, fun _ => rfl⟩) h2, h3, h4⟩
              have take : stepD P C X [] eo.k eo.dst (st.put s (.val (.bool t))) (fun δ => evSeq P C X n l ((st.put s (.val (.bool t))).app δ) k) → t = want →
                  ∃ st1 st', RunS P (eo :: l) st0 st1 ∧ StEq st' st1 ∧ k st' := by
                intro hs heq
                obtain ⟨δ, h1, st1, st', h2, h3, h4⟩ := run1 _ hu hs
                exact ⟨st1, st', .cons eo l st0 st1 δ (by unfold OStep; rw [hg]; exact .inl ⟨t, hq0, fun _ => h1, fun e => absurd heq e⟩) h2, h3, h4⟩
              cases t <;> cases want <;> simp only [br] at h <;> first | exact take h rfl | exact skip h (by decide)
          | _ => exact h.elim
        | tup l0 =>
          rw [hq] at h
          cases l0 with
          | nil =>
            have hq0 : st0.get s = .tup [] := by rw [← he.get, hq]
            obtain ⟨st1, st', h2, h3, h4⟩ := ih _ _ (st0.app (dput eo.dst (.tup []))) _ hsel2 (he.app _) h
            exact ⟨st1, st', .cons eo l st0 st1 _ (by unfold OStep; rw [hg]; exact .inr ⟨hq0, rfl⟩) h2, h3, h4⟩
          | cons _ _ => exact h.elim
        | _ => rw [hq] at h; exact h.elim
theorem runS_sound {os : Array Oper} {l : List EOp} {st' : St} (hr : RunS P l st st') {Q : Exit → Act → World → Prop} : ∀ (i k : Nat), i + k = os.size → l.length ≤ k →
    (∀ j eo, l[j]? = some eo → Here P inl once nt os (i + j) eo) → ∀ (a : Act) (w : World) (M : Mut) (β : Loc), SR cx w0 N nt st a w M β →
    (∀ a' w' M' β', SR cx w0 N nt st' a' w' M' β' → wpOps P os Q (List.range' (i + l.length) (k - l.length)) a' w') → wpOps P os Q (List.range' i k) a w := by
  induction hr with
  | nil st => intro i k _ _ _ a w M β h hQ; exact hQ _ _ _ _ h
  | cons eo l st st' δ h1 _ ih =>
    intro i k hi hk hh a w M β h hQ
    refine run_sound (inl := inl) (once := once) (Run.cons eo [] st (st.app δ) δ [] h1 (.nil _)) i k hi (by simp at hk ⊢; omega) (fun j e hj => ?_) a w M β h (fun a' w' M' β' h' => ?_)
    · cases j with
      | zero => simp at hj; subst hj; exact hh 0 eo rfl
      | succ j => simp at hj
    · refine ih (i + 1) (k - 1) (by simp at hk; omega) (by simp at hk; omega) (fun j e hj => by have := hh (j + 1) e (by simpa using hj); rwa [show i + (j + 1) = i + 1 + j by omega] at this) a' w' M' β' h' (fun a' w' M' β' h' => ?_)
      have := hQ a' w' M' β' h'
      simp only [List.length_cons] at this
      rwa [show i + (l.length + 1) = i + 1 + l.length by omega, show k - (l.length + 1) = k - 1 - l.length by omega] at this
  | join B r st δs st1 st' pd v hB hq hv _ ih =>
    intro i k hi hk hh a w M β h hQ
    simp only [List.length_append] at hk hQ
    refine run_sound (inl := inl) (once := once) hB i k hi (by omega) (fun j e hj => hh j e (by rw [List.getElem?_append_left (List.getElem?_eq_some_iff.1 hj).1]; exact hj)) a w M β h (fun a' w' M' β' h' => ?_)
    refine ih (i + B.length) (k - B.length) (by omega) (by omega) (fun j e hj => ?_) a' w' M' β' (stJ_weak hB hq hv h') (fun a' w' M' β' h' => ?_)
    · have := hh (B.length + j) e (by rw [List.getElem?_append_right (by omega)]; simpa using hj)
      rwa [show i + (B.length + j) = i + B.length + j by omega] at this
    · have := hQ a' w' M' β' h'
      rwa [show i + (B.length + r.length) = i + B.length + r.length by omega, show k - (B.length + r.length) = k - B.length - r.length by omega] at this
theorem madeBy_spec : ∀ (l : List EOp) (eo : EOp) (d : Nat), eo ∈ l → eo.k.makes = true → eo.dst = some d → d ∈ madeBy l := by
  intro l
  induction l with
  | nil => intro eo d h; cases h
  | cons e l ih =>
    intro eo d hm hk hd
    simp only [madeBy]
    rcases List.mem_cons.1 hm with e1 | e1
    · subst e1; rw [hk, hd]; simp
    · have := ih eo d e1 hk hd
      cases h1 : e.k.makes <;> cases h2 : e.dst <;> simp only [h1, h2] <;> first | exact this | exact List.mem_cons_of_mem _ this
theorem inPairs_spec {a b : Nat} : ∀ {ap : List (Nat × Nat)}, inPairs a b ap = true → ∃ c d, (c, d) ∈ ap ∧ ((a = c ∧ b = d) ∨ (a = d ∧ b = c))
  | [], h => by simp [inPairs] at h
  | (c, d) :: r, h => by
    simp only [inPairs, Bool.or_eq_true, Bool.and_eq_true] at h
    rcases h with (h | h) | h
    · exact ⟨c, d, by simp, .inl ⟨nat_beq h.1, nat_beq h.2⟩⟩
    · exact ⟨c, d, by simp, .inr ⟨nat_beq h.1, nat_beq h.2⟩⟩
    · obtain ⟨c', d', h1, h2⟩ := inPairs_spec h
      exact ⟨c', d', List.mem_cons_of_mem _ h1, h2⟩
theorem inPairs_symm (a b : Nat) : ∀ (ap : List (Nat × Nat)), inPairs a b ap = inPairs b a ap
  | [] => rfl
  | (c, d) :: r => by
    simp only [inPairs, inPairs_symm a b r]
    cases Nat.beq a c <;> cases Nat.beq b d <;> cases Nat.beq a d <;> cases Nat.beq b c <;> rfl
theorem freed_symm (ap : List (Nat × Nat)) (x y : EOp) : freed ap x y = freed ap y x := by
  unfold freed
  cases x.k.addr <;> cases y.k.addr <;> simp [inPairs_symm]
theorem apartOK_spec : ∀ {ap : List (Nat × Nat)}, apartOK st ap = true → ∀ a b, (a, b) ∈ ap → ∃ d o d' o', st.get a = .loc d o ∧ st.get b = .loc d' o' ∧ d ≠ d'
  | [], _, _, _, h => by cases h
  | (c, e) :: r, h, a, b, hm => by
    simp only [apartOK] at h
    split at h
    · rename_i d o d' o' h1 h2
      cases hb : Nat.beq d d' with
      | true => rw [hb] at h; cases h
      | false =>
        rw [hb] at h
        rcases List.mem_cons.1 hm with e' | e'
        · injection e' with e1 e2
          subst e1; subst e2
          exact ⟨d, o, d', o', h1, h2, fun e => by subst e; simp at hb⟩
        · exact apartOK_spec h a b e'
    · cases h
theorem unwritten_spec {a : Nat} : ∀ {l : List EOp}, unwritten a l = true → ∀ e ∈ l, a ∉ e.writes
  | [], _, _, h => by cases h
  | x :: r, h, e, hm => by
    simp only [unwritten] at h
    cases hn : notIn a x.writes with
    | false => rw [hn] at h; cases h
    | true =>
      rw [hn] at h
      rcases List.mem_cons.1 hm with e' | e'
      · subst e'; exact (notIn_iff _ _).1 hn
      · exact unwritten_spec h e e'
theorem apUnwritten_spec {l : List EOp} : ∀ {ap : List (Nat × Nat)}, apUnwritten l ap = true → ∀ a b, (a, b) ∈ ap → unwritten a l = true ∧ unwritten b l = true
  | [], _, _, _, h => by cases h
  | (c, e) :: r, h, a, b, hm => by
    simp only [apUnwritten, Bool.and_eq_true] at h
    rcases List.mem_cons.1 hm with e' | e'
    · injection e' with e1 e2
      subst e1; subst e2
      exact h.1
    · exact apUnwritten_spec h.2 a b e'
theorem stM_base : ∀ (δs : List Delta) (m : Nat → Bool) (st : St), (stM δs m st).base = st.base := by
  intro δs
  induction δs with
  | nil => intro m st; rfl
  | cons δ r ih =>
    intro m st
    simp only [stM]
    rw [ih]
    cases m 0 <;> rfl
theorem At_loc {d o b : Nat} (h : At (.loc d o) b) : d = b := by
  rcases h with ⟨off, h⟩ | ⟨sz, i, off, h⟩
  · injection h
  · cases h
theorem draw_sound {ap : List (Nat × Nat)} (hap : apartOK st ap = true) {os : Array Oper} {l : List EOp} {δs : List Delta} {st' : St} (hr : Run P ((madeBy l).map (st.base + ·)) l st δs st') (hco : cOps P inl once os os.toList = some l) (hds : dstsOK nt l = true)
    (hok0 : drawOK ap os.toList l = true) {Q : Exit → Act → World → Prop} (hQ : ∀ a' w' M' β', SR cx w0 N nt st' a' w' M' β' → Q .normal a' w') :
    ∀ (fuel : Nat) (listed : Array Bool), listed.size = os.size → ((List.range os.size).filter fun i => !listed.getD i false).length = fuel →
      (∀ (j : Nat) (o : Oper), os[j]? = some o → listed.getD j false = true → ∀ e ∈ edgesOf o, listed.getD e false = true) →
      ∀ (a : Act) (w : World) (M : Mut) (β : Loc), SR cx w0 N nt (stM δs (maskL listed) st) a w M β → wpAny P .any os Q fuel listed a w := by
  simp only [drawOK, Bool.and_eq_true] at hok0
  obtain ⟨hau, hok⟩ := hok0
  obtain ⟨hlen, hsp⟩ := cOps_spec _ _ hco
  have hlen' : δs.length = os.size := by rw [hr.length, hlen]; simp
  have hll : l.length = os.size := by rw [hlen]; simp
  have hpair : ∀ i j, i < j → j < os.size → ∀ x y, l[i]? = some x → l[j]? = some y → clash ap (freshOp l i) x (freshOp l j) y = true → Reach os.toList j i := by
    intro i j hij hj x y hx hy hc
    have h1 := below_spec hok j (by simpa using hj)
    simp only [Bool.and_eq_true] at h1
    have h2 := below_spec h1.1 i hij
    simp only [pairOK, hx, hy, hc] at h2
    exact ancs_spec os.toList os.toList [] (fun k o hk => by simpa using hk) (fun j i hb => by simp at hb) j i h2
  have hedge : ∀ j (o : Oper), os[j]? = some o → ∀ e ∈ edgesOf o, e < j := by
    intro j o ho e he
    have hj : j < os.size := (Array.getElem?_eq_some_iff.1 ho).1
    have h1 := below_spec hok j (by simpa using hj)
    simp only [Bool.and_eq_true] at h1
    have h2 := h1.2
    rw [show os.toList[j]? = some o by simpa using ho] at h2
    exact edgesBelow_spec j _ h2 e he
  intro fuel
  induction fuel with
  | zero =>
    intro listed hs hc hcl a w M β h
    have hall : ∀ i, i < os.size → listed.getD i false = true := by
      intro i hi
      have h0 := List.eq_nil_of_length_eq_zero hc
      cases hb : listed.getD i false with
      | true => rfl
      | false =>
        have : i ∈ (List.range os.size).filter fun i => !listed.getD i false := List.mem_filter.2 ⟨by simpa using hi, by simp [hb]⟩
        rw [h0] at this; cases this
    have e : stM δs (maskL listed) st = st' := by
      rw [hr.last]
      exact stM_congr _ _ _ _ (fun j hj => hall j (by omega))
    rw [e] at h
    refine ⟨?_, hQ _ _ _ _ h⟩
    apply List.eq_nil_iff_forall_not_mem.2
    intro i hi
    obtain ⟨h1, o, ho, _⟩ := mem_ready.1 hi
    have hio : i < os.size := (Array.getElem?_eq_some_iff.1 ho).1
    have := hall i hio
    rw [Array.getD_eq_getD_getElem?] at this h1
    rw [Array.getElem?_eq_getElem (by omega)] at this h1
    simp at this h1
    rw [this] at h1; cases h1
  | succ fuel ih =>
    intro listed hs hc hcl a w M β h
    refine ⟨fun hn => ?_, fun i hi => ?_⟩
    · -- something is always ready
      exfalso
      have hex : ∃ i, i < os.size ∧ listed.getD i false = false := by
        have hne : ((List.range os.size).filter fun i => !listed.getD i false) ≠ [] := by intro e; rw [e] at hc; simp at hc
        obtain ⟨i, hi⟩ := List.exists_mem_of_ne_nil _ hne
        obtain ⟨h1, h2⟩ := List.mem_filter.1 hi
        exact ⟨i, by simpa using h1, by simpa using h2⟩
      have least : ∀ n, (∃ i, i < n ∧ i < os.size ∧ listed.getD i false = false) → ∃ i, i < os.size ∧ listed.getD i false = false ∧ ∀ j, j < i → listed.getD j false = true := by
        intro n
        induction n with
        | zero => rintro ⟨i, h1, _⟩; omega
        | succ n ihn =>
          rintro ⟨i, h1, h2, h3⟩
          by_cases hl : ∃ j, j < n ∧ j < os.size ∧ listed.getD j false = false
          · exact ihn hl
          · refine ⟨i, h2, h3, fun j hj => ?_⟩
            cases hb : listed.getD j false with
            | true => rfl
            | false => exact absurd ⟨j, by omega, by omega, hb⟩ hl
      obtain ⟨i0, hi0, hi0'⟩ := hex
      obtain ⟨i, h1, h2, h3⟩ := least os.size ⟨i0, hi0, hi0, hi0'⟩
      have ho : os[i]? = some os[i] := Array.getElem?_eq_getElem h1
      have : i ∈ Region.ready .any os listed := mem_ready.2 ⟨by
        rw [Array.getD_eq_getD_getElem?] at h2 ⊢
        rw [Array.getElem?_eq_getElem (by omega)] at h2 ⊢
        simpa using h2, _, ho, fun e he hb => h3 _ (hedge i _ ho _ (mem_edgesOf he hb))⟩
      rw [hn] at this; cases this
    · obtain ⟨h1, o, ho, hall⟩ := mem_ready.1 hi
      have hio : i < os.size := (Array.getElem?_eq_some_iff.1 ho).1
      have hun : listed.getD i false = false := by
        rw [Array.getD_eq_getD_getElem?] at h1 ⊢
        rw [Array.getElem?_eq_getElem (by omega)] at h1 ⊢
        simpa using h1
      have hdep : ∀ e ∈ edgesOf o, listed.getD e false = true := fun e he => by
        obtain ⟨ed, q1, q2, rfl⟩ := edgesOf_mem he
        exact hall ed q1 q2
      -- what must come before has come before
      have reach : ∀ j k, Reach os.toList j k → listed.getD j false = true → listed.getD k false = true := by
        intro j k hrk
        induction hrk with
        | one j o i ho hi => intro hj; exact hcl j o (by simpa using ho) hj i hi
        | more j o e i ho he _ ih2 => intro hj; exact ih2 (hcl j o (by simpa using ho) hj e he)
      have reachI : ∀ k, Reach os.toList i k → listed.getD k false = true := by
        intro k hrk
        cases hrk with
        | one _ o' _ ho' hi' =>
          have : o' = o := by rw [show os.toList[i]? = some o by simpa using ho] at ho'; injection ho' with ho'; exact ho'.symm
          subst this; exact hdep k hi'
        | more _ o' e _ ho' he' hr' =>
          have : o' = o := by rw [show os.toList[i]? = some o by simpa using ho] at ho'; injection ho' with ho'; exact ho'.symm
          subst this; exact reach e k hr' (hdep e he')
      obtain ⟨eo, g1, g2, g3, g4⟩ := hsp i o (by simpa using ho)
      have hd : δs[i]? = some (δs[i]'(by omega)) := List.getElem?_eq_getElem (by omega)
      have hos := hr.at i eo _ g1 hd
      have foot : ∀ (j : Nat) (δ : Delta), δs[j]? = some δ → ∃ ej : EOp, l[j]? = some ej ∧ (∀ s ∈ δ.s.map Prod.fst, s ∈ ej.writes) ∧ (∀ b ∈ δ.o.map Prod.fst, Foot ej.k ej.dst (stM δs (fun i => decide (i < j)) st) b) := by
        intro j δ hj
        have hjl : j < l.length := by have := (List.getElem?_eq_some_iff.1 hj).1; omega
        have hej : l[j]? = some (l[j]) := List.getElem?_eq_getElem hjl
        exact ⟨_, hej, ostep_foot (hr.at j _ δ hej hj)⟩
      -- the masks agree on whatever clashes with i
      have same : ∀ (j : Nat) (ej : EOp), l[j]? = some ej → (clash ap (freshOp l j) ej (freshOp l i) eo = true ∨ clash ap (freshOp l i) eo (freshOp l j) ej = true) → (j = i → False) → (decide (j < i)) = maskL listed j := by
        intro j ej hej hcl' hne
        have hj : j < os.size := by have := (List.getElem?_eq_some_iff.1 hej).1; omega
        have hsym : clash ap (freshOp l j) ej (freshOp l i) eo = true ∧ clash ap (freshOp l i) eo (freshOp l j) ej = true := by
          have e : clash ap (freshOp l j) ej (freshOp l i) eo = clash ap (freshOp l i) eo (freshOp l j) ej := by
            have m : ∀ a b, meets a b = meets b a := fun a b => by
              rw [Bool.eq_iff_iff, meets_iff, meets_iff]
              exact ⟨fun ⟨s, x, y⟩ => ⟨s, y, x⟩, fun ⟨s, x, y⟩ => ⟨s, y, x⟩⟩
            simp only [clash]
            rw [m ej.writes eo.reads, m ej.writes eo.writes, m ej.reads eo.writes, freed_symm ap ej eo, calm_symm (freshOp l j) (freshOp l i)]
            cases calm (freshOp l i) eo.k (freshOp l j) ej.k <;> cases meets eo.reads ej.writes <;> cases meets eo.writes ej.writes <;> cases meets eo.writes ej.reads <;> cases ej.k.isStore <;> cases eo.k.heapy <;> cases ej.k.heapy <;> cases eo.k.isStore <;> cases freed ap eo ej <;> rfl
          rcases hcl' with h | h
          · exact ⟨h, by rw [← e]; exact h⟩
          · exact ⟨by rw [e]; exact h, h⟩
        by_cases hlt : j < i
        · have := reachI j (hpair j i hlt hio _ _ hej g1 hsym.1)
          simp only [hlt, decide_true, maskL]; exact this.symm
        · have hne' : j ≠ i := hne
          have hlt' : i < j := by omega
          have hR := hpair i j hlt' hj _ _ g1 hej hsym.2
          have : maskL listed j = false := by
            cases hb : maskL listed j with
            | false => rfl
            | true => have := reach j i hR hb; rw [hun] at this; cases this
          simp only [hlt, decide_false]; exact this.symm
      have atI : (decide (i < i)) = maskL listed i := by simp only [Nat.lt_irrefl, decide_false, maskL]; exact hun.symm
      have clashW : ∀ (j : Nat) (ej : EOp) (s : Nat), s ∈ ej.writes → s ∈ eo.reads → clash ap (freshOp l j) ej (freshOp l i) eo = true := fun j ej s h1 h2 => by
        cases hc' : clash ap (freshOp l j) ej (freshOp l i) eo with
        | true => rfl
        | false => exact absurd h2 ((clash_slots hc').1 s h1)
      have hget : ∀ s, s ∈ eo.reads → (stM δs (maskL listed) st).get s = (stM δs (fun j => decide (j < i)) st).get s := by
        intro s hs
        refine stM_get _ _ _ _ _ s rfl (fun j δ hj hsj => ?_)
        obtain ⟨ej, hej, f1, _⟩ := foot j δ hj
        by_cases e : j = i
        · subst e; exact atI.symm
        · exact (same j ej hej (.inl (clashW j ej s (f1 s hsj) hs)) e).symm
      have hopd : ∀ x ∈ eo.k.opds, (stM δs (maskL listed) st).opd x = (stM δs (fun j => decide (j < i)) st).opd x := by
        intro x hx
        cases x with
        | tmp t => exact hget t (opd_reads hx rfl)
        | _ => rfl
      -- pairs of variables that are known to differ
      have noFreed2 : ∀ (i : Nat) (eo : EOp) (j : Nat) (ej : EOp) (b : Nat), l[i]? = some eo → l[j]? = some ej → freed ap ej eo = true → (∀ a, ej.k.addr = some a → At ((stM δs (fun i => decide (i < j)) st).get a) b) →
          (∀ a, eo.k.addr = some a → At ((stM δs (fun j => decide (j < i)) st).get a) b) → False := by
        intro i eo j ej b _ hej hf h1 h2
        unfold freed at hf
        cases ha1 : ej.k.addr with
        | none => rw [ha1] at hf; cases hf
        | some a1 =>
          cases ha2 : eo.k.addr with
          | none => rw [ha1, ha2] at hf; cases hf
          | some a2 =>
            rw [ha1, ha2] at hf
            obtain ⟨c, d, hm, hcd⟩ := inPairs_spec hf
            obtain ⟨d1, o1, d2, o2, e1, e2, hne⟩ := apartOK_spec hap c d hm
            obtain ⟨u1, u2⟩ := apUnwritten_spec hau c d hm
            have keepS : ∀ (m : Nat → Bool) (s : Nat), unwritten s l = true → (stM δs m st).get s = st.get s := by
              intro m s hu
              have : (stM δs m st).get s = (stM δs (fun _ => false) st).get s := stM_get _ _ _ _ _ s rfl (fun k δ hk hs => by
                obtain ⟨ek, hek, f1, _⟩ := foot k δ hk
                exact absurd (f1 s hs) (unwritten_spec hu ek (List.mem_of_getElem? hek)))
              rw [this, stM_none _ _ _ (fun _ _ => rfl)]
            have q1 := h1 a1 ha1
            have q2 := h2 a2 ha2
            rcases hcd with ⟨rfl, rfl⟩ | ⟨rfl, rfl⟩
            · rw [keepS _ _ u1, e1] at q1
              rw [keepS _ _ u2, e2] at q2
              exact hne ((At_loc q1).trans (At_loc q2).symm)
            · rw [keepS _ _ u2, e2] at q1
              rw [keepS _ _ u1, e1] at q2
              exact hne ((At_loc q2).trans (At_loc q1).symm)
      have noFreed : ∀ (j : Nat) (ej : EOp) (b : Nat), l[j]? = some ej → freed ap ej eo = true → (∀ a, ej.k.addr = some a → At ((stM δs (fun i => decide (i < j)) st).get a) b) →
          (∀ a, eo.k.addr = some a → At ((stM δs (fun j => decide (j < i)) st).get a) b) → False := fun j ej b => noFreed2 i eo j ej b g1
      have hvob : eo.k.isLoad = true → ∀ b, notIn b ((madeBy l).map (st.base + ·)) = true → (∀ a, eo.k.addr = some a → At ((stM δs (fun j => decide (j < i)) st).get a) b) → (stM δs (maskL listed) st).vobj b = (stM δs (fun j => decide (j < i)) st).vobj b := by
        intro hl b hb hta
        -- what touches this variable stores into it, or takes ownership from it
        have touch : ∀ (j : Nat) (δ : Delta), δs[j]? = some δ → b ∈ δ.o.map Prod.fst → ∃ ej, l[j]? = some ej ∧ ej.k.isStore = true ∧ ∀ a, ej.k.addr = some a → At ((stM δs (fun i => decide (i < j)) st).get a) b := by
          intro j δ hj hbj
          obtain ⟨ej, hej, _, f2⟩ := foot j δ hj
          rcases f2 b hbj with f | ⟨f, fs, fd, fb⟩
          · exact ⟨ej, hej, f⟩
          · exfalso
            rw [notIn_iff] at hb
            rw [stM_base] at fb
            exact hb (List.mem_map.2 ⟨fs, madeBy_spec l ej fs (List.mem_of_getElem? hej) f fd, fb.symm⟩)
        -- a store into a fresh variable does not touch it
        have nofresh : ∀ (j : Nat) (δ : Delta), δs[j]? = some δ → b ∈ δ.o.map Prod.fst → freshOp l j = false := by
          intro j δ hj hbj
          obtain ⟨ej, hej, hst, hat⟩ := touch j δ hj hbj
          cases hf : freshOp l j with
          | false => rfl
          | true =>
            exfalso
            unfold freshOp at hf
            rw [hej] at hf
            simp only [Bool.and_eq_true] at hf
            obtain ⟨_, hf⟩ := hf
            cases ha : ej.k.addr with
            | none => rw [ha] at hf; cases hf
            | some a =>
              rw [ha] at hf
              simp only [Bool.not_eq_true'] at hf
              obtain ⟨k, hk, hkk⟩ := below_false hf
              simp only [Bool.not_eq_false'] at hkk
              have hkl : k < l.length := by have := (List.getElem?_eq_some_iff.1 hej).1; omega
              have hek : l[k]? = some l[k] := List.getElem?_eq_getElem hkl
              rw [hek] at hkk
              simp only [Bool.and_eq_true] at hkk
              obtain ⟨m1, m2⟩ := hkk
              have hdk : δs[k]? = some (δs[k]'(by omega)) := List.getElem?_eq_getElem (by omega)
              obtain ⟨n1, n2⟩ := ostep_mk (hr.at k _ _ hek hdk) m1
              rw [stM_base] at n2
              have hg := stM_get1 δs (fun i => decide (i < j)) st k _ a hdk (decide_eq_true hk) n1 (fun j' δ' hne hδ' hin => by
                obtain ⟨e', he', f1, _⟩ := foot j' δ' hδ'
                have := below_spec m2 j' ((List.getElem?_eq_some_iff.1 he').1)
                rw [he'] at this
                simp only [Bool.or_eq_true] at this
                rcases this with h1 | h1
                · exact hne (nat_beq h1)
                · rw [notIn_iff] at h1; exact h1 (f1 a hin))
              have := hat a ha
              rw [hg, n2] at this
              have hbb := At_loc this
              rw [notIn_iff] at hb
              refine hb (List.mem_map.2 ⟨a, madeBy_spec l l[k] a (List.getElem_mem hkl) ?_ ?_, hbb⟩)
              · cases hq : l[k].k <;> simp only [EOp.mkAt, hq] at m1 <;> first | rfl | cases m1
              · unfold EOp.mkAt at m1
                split at m1
                · rename_i hd; rw [hd, nat_beq m1]
                · rename_i hd; rw [hd, nat_beq m1]
                · cases m1
        let T : Nat → Bool := fun j => match l[j]? with | some e => e.k.isTake | none => false
        have hT : ∀ (k : Nat) (δ : Delta), T k = true → δs[k]? = some δ → b ∈ δ.o.map Prod.fst → (look [] δ.o b).map PV.view = (stM δs (fun j => decide (j < k)) st).vobj b := by
          intro k δ hk hδ hbk
          obtain ⟨ek, hek, _, _⟩ := foot k δ hδ
          have hk' : ek.k.isTake = true := by simp only [T, hek] at hk; exact hk
          exact ostep_take (hr.at k ek δ hek hδ) hk' b hbk
        have bound : ∀ (m : Nat → Bool) (k : Nat), m k = true → (δs[k]?).isSome = true → k < δs.length := by
          intro m k _ h
          cases hq : δs[k]? with
          | none => rw [hq] at h; cases h
          | some _ => exact (List.getElem?_eq_some_iff.1 hq).1
        have c1 := stM_quiet T hT δs.length (maskL listed) (bound _) (fun k j δ δ' hTk hmk hδ hbk hTj hδ' hbj hjk => by
          obtain ⟨ek, hek, hsk, hak⟩ := touch k δ hδ hbk
          obtain ⟨ej, hej, hsj, haj⟩ := touch j δ' hδ' hbj
          have hks : k < os.size := by have := (List.getElem?_eq_some_iff.1 hek).1; omega
          cases hc' : clash ap (freshOp l j) ej (freshOp l k) ek with
          | true => exact reach k j (hpair j k hjk hks _ _ hej hek hc') hmk
          | false =>
            exfalso
            obtain ⟨_, _, _, q1, _⟩ := clash_slots hc'
            have hfr := freed_of (q1 hsj (store_heapy hsk)) (store_noload hsj) (store_noload hsk)
            exact noFreed2 k ek j ej b hek hej hfr haj hak)
        have c2 := stM_quiet T hT δs.length (fun j => decide (j < i)) (bound _) (fun k j δ δ' hTk hmk hδ hbk hTj hδ' hbj hjk => by
          have := of_decide_eq_true hmk
          exact decide_eq_true (by omega))
        rw [c1, c2]
        unfold St.vobj
        rw [stM_obj δs (fun j => maskL listed j && !T j) (fun j => decide (j < i) && !T j) st st b rfl (fun j δ hj hbj => ?_)]
        cases hTj : T j with
        | true => simp
        | false =>
          simp only [Bool.not_false, Bool.and_true]
          obtain ⟨ej, hej, hsj, haj⟩ := touch j δ hj hbj
          by_cases e : j = i
          · subst e; exact atI.symm
          · refine (same j ej hej ?_ e).symm
            cases hc' : clash ap (freshOp l j) ej (freshOp l i) eo with
            | true => exact .inl rfl
            | false =>
              exfalso
              obtain ⟨_, _, _, q1, _⟩ := clash_slots hc'
              have hh : eo.k.heapy = true := by cases hk : eo.k <;> rw [hk] at hl <;> first | rfl | cases hl
              rcases q1 hsj hh with hq | hq
              · exact noFreed j ej b hej hq haj hta
              · have hnf := nofresh j δ hj hbj
                have hnt : ej.k.isTake = false := by simp only [T, hej] at hTj; exact hTj
                have hnl := store_noload hsj
                rw [hnf] at hq
                simp [calm, hnt, hnl] at hq
      have hobj : eo.k.heapy = true → eo.k.isLoad = false → ∀ b, (eo.k.isStore = true ∨ notIn b ((madeBy l).map (st.base + ·)) = true) → (∀ a, eo.k.addr = some a → At ((stM δs (fun j => decide (j < i)) st).get a) b) → (stM δs (maskL listed) st).obj b = (stM δs (fun j => decide (j < i)) st).obj b := by
        intro hh hnl b hb hta
        refine stM_obj _ _ _ _ _ b rfl (fun j δ hj hbj => ?_)
        obtain ⟨ej, hej, _, f2⟩ := foot j δ hj
        by_cases e : j = i
        · subst e; exact atI.symm
        · refine (same j ej hej ?_ e).symm
          cases hc' : clash ap (freshOp l j) ej (freshOp l i) eo with
          | true => exact .inl rfl
          | false =>
            exfalso
            obtain ⟨_, _, _, q1, q2⟩ := clash_slots hc'
            rcases f2 b hbj with f | ⟨f, fs, fd, fb⟩
            · exact noFreed j ej b hej (freed_of (q1 f.1 hh) (store_noload f.1) hnl) f.2 hta
            · rcases hb with hb | hb
              · have := freed_of (q2 (makes_heapy f) hb) (makes_noload f) hnl
                unfold freed at this
                have hn : ej.k.addr = none := by cases hk : ej.k <;> rw [hk] at f <;> first | rfl | cases f
                rw [hn] at this; cases this
              · rw [notIn_iff] at hb
                rw [stM_base] at fb
                exact hb (List.mem_map.2 ⟨fs, madeBy_spec l ej fs (List.mem_of_getElem? hej) f fd, fb.symm⟩)
      have hkey : eo.k.makes = true → ∀ s, eo.dst = some s → notIn ((stM δs (fun j => decide (j < i)) st).base + s) ((stM δs (fun j => decide (j < i)) st).ob.map Prod.fst) = true → notIn ((stM δs (fun j => decide (j < i)) st).base + s) ((stM δs (maskL listed) st).ob.map Prod.fst) = true := by
        intro hk s hs hn
        rw [stM_base] at hn ⊢
        rw [stM_key δs (maskL listed) (fun j => decide (j < i)) st st (st.base + s) rfl (fun j δ hj hbj => ?_)]
        · exact hn
        · obtain ⟨ej, hej, _, f2⟩ := foot j δ hj
          by_cases e : j = i
          · subst e; exact atI.symm
          · refine (same j ej hej ?_ e).symm
            cases hc' : clash ap (freshOp l j) ej (freshOp l i) eo with
            | true => exact .inl rfl
            | false =>
              exfalso
              obtain ⟨_, w2, _, q1, q2⟩ := clash_slots hc'
              rcases f2 (st.base + s) hbj with f | ⟨f, fs, fd, fb⟩
              · have := freed_of (q1 f.1 (makes_heapy hk)) (store_noload f.1) (makes_noload hk)
                unfold freed at this
                have hn : eo.k.addr = none := by cases hk' : eo.k <;> rw [hk'] at hk <;> first | rfl | cases hk
                rw [hn] at this
                cases hz : ej.k.addr <;> rw [hz] at this <;> cases this
              · rw [stM_base] at fb
                have e' : s = fs := by omega
                refine w2 s ?_ ?_
                · simp [EOp.writes, fd, e']
                · simp [EOp.writes, hs]
      have hwild : eo.k.wild = true → (∀ b, (stM δs (maskL listed) st).obj b = (stM δs (fun j => decide (j < i)) st).obj b) ∧ ∀ b, notIn b ((stM δs (maskL listed) st).ob.map Prod.fst) = notIn b ((stM δs (fun j => decide (j < i)) st).ob.map Prod.fst) := by
        intro hw
        have hst : eo.k.isStore = true := by cases hk : eo.k <;> rw [hk] at hw <;> first | rfl | cases hw
        have had : eo.k.addr = none := by cases hk : eo.k <;> rw [hk] at hw <;> first | rfl | cases hw
        have cl : ∀ (j : Nat) (δ : Delta) (b : Nat), δs[j]? = some δ → b ∈ δ.o.map Prod.fst → maskL listed j = decide (j < i) := by
          intro j δ b hj hbj
          obtain ⟨ej, hej, _, f2⟩ := foot j δ hj
          by_cases e : j = i
          · subst e; exact atI.symm
          · refine (same j ej hej ?_ e).symm
            cases hc' : clash ap (freshOp l j) ej (freshOp l i) eo with
            | true => exact .inl rfl
            | false =>
              exfalso
              obtain ⟨_, _, _, q1, q2⟩ := clash_slots hc'
              have hh : ej.k.heapy = true ∧ ej.k.isLoad = false := by
                rcases f2 b hbj with f | ⟨f, _⟩
                · exact ⟨store_heapy f.1, store_noload f.1⟩
                · exact ⟨makes_heapy f, makes_noload f⟩
              have := freed_of (q2 hh.1 hst) hh.2 (wild_noload hw)
              unfold freed at this
              rw [had] at this
              cases hz : ej.k.addr <;> rw [hz] at this <;> cases this
        exact ⟨fun b => stM_obj _ _ _ _ _ b rfl (fun j δ hj hbj => cl j δ b hj hbj), fun b => stM_key _ _ _ _ _ b rfl (fun j δ hj hbj => cl j δ b hj hbj)⟩
      have hos' : OStep P ((madeBy l).map (st.base + ·)) eo (stM δs (maskL listed) st) (δs[i]'(by omega)) := by
        have hA : Agree ((madeBy l).map (st.base + ·)) eo.k eo.dst (stM δs (fun j => decide (j < i)) st) (stM δs (maskL listed) st) := ⟨hopd, hobj, hvob, hkey, cOp_sel g2, by rw [stM_base, stM_base], hwild⟩
        unfold OStep at hos ⊢
        cases hg : eo.g with
        | none => rw [hg] at hos; exact step_agree hA hos
        | some sw =>
          obtain ⟨s, want⟩ := sw
          rw [hg] at hos
          rcases hos with ⟨t, q1, q2, q3⟩ | ⟨q1, q3⟩
          · exact .inl ⟨t, by rw [hget s (by simp [EOp.reads, hg])]; exact q1, fun e => step_agree hA (q2 e), q3⟩
          · exact .inr ⟨by rw [hget s (by simp [EOp.reads, hg])]; exact q1, q3⟩
      have hdst : ∀ x, o.dst = some x → x < nt := fun x hx => dstsOK_spec l hds eo (List.mem_of_getElem? g1) x (by rw [g3]; exact hx)
      have hset : ∀ j, (listed.setIfInBounds i true).getD j false = if j = i then true else listed.getD j false := by
        intro j
        rw [Array.getD_eq_getD_getElem?, Array.getD_eq_getD_getElem?, Array.getElem?_setIfInBounds]
        by_cases e : i = j
        · subst e; simp [hs, hio]
        · rw [if_neg e, if_neg (fun e' => e e'.symm)]
      have key := ostep_sound (os := os) (K := wpAny P .any os Q fuel (listed.setIfInBounds i true)) (Q := Q) h hos' g2 g3 g4 hdst (fun a' w' M' β' h' => by
        refine ih _ (by simp [hs]) ?_ ?_ a' w' M' β' (h'.equiv ?_)
        · have hmem : i ∈ List.range os.size := by simpa using hio
          have e1 : ((List.range os.size).filter fun j => !(listed.setIfInBounds i true).getD j false) = ((List.range os.size).filter fun j => !listed.getD j false).filter fun j => decide (j ≠ i) := by
            rw [List.filter_filter]
            apply List.filter_congr
            intro j _
            rw [hset]
            by_cases e : j = i
            · simp [e]
            · simp [e]
          rw [e1]
          have e2 : ((List.range os.size).filter fun j => !listed.getD j false).filter (fun j => decide (j ≠ i)) = ((List.range os.size).filter fun j => !listed.getD j false).erase i := by
            rw [List.Nodup.erase_eq_filter (List.Pairwise.filter _ List.nodup_range)]
            apply List.filter_congr
            intro j _
            by_cases e : j = i <;> simp [e]
          rw [e2, List.length_erase_of_mem (List.mem_filter.2 ⟨hmem, by simp [hun]⟩), hc]; rfl
        · intro j oj hoj hj e he
          rw [hset] at hj ⊢
          by_cases e1 : e = i
          · rw [if_pos e1]
          · rw [if_neg e1]
            by_cases e2 : j = i
            · subst e2
              rw [ho] at hoj; injection hoj with hoj; subst hoj
              exact hdep e he
            · rw [if_neg e2] at hj
              exact hcl j oj hoj hj e he
        · have := stM_push δs (maskL listed) i st _ hd hun (fun j δ' hj hm hδ' => by
            obtain ⟨ej, hej, f1, f2⟩ := foot j δ' hδ'
            obtain ⟨ei, hei, f3, f4⟩ := foot i _ hd
            have : ei = eo := by rw [g1] at hei; injection hei with hei; exact hei.symm
            subst this
            have hjs : j < os.size := by have := (List.getElem?_eq_some_iff.1 hej).1; omega
            have nc : clash ap (freshOp l i) ei (freshOp l j) ej = false := by
              cases hc' : clash ap (freshOp l i) ei (freshOp l j) ej with
              | false => rfl
              | true =>
                have := reach j i (hpair i j hj hjs _ _ g1 hej hc') hm
                rw [hun] at this; cases this
            obtain ⟨_, w2, _, q1, q2⟩ := clash_slots nc
            refine ⟨fun s hs' => fun hs2 => w2 s (f3 s hs') (f1 s hs2), fun b hb hb2 => ?_⟩
            rcases f4 b hb with f | ⟨f, fs, fd, fb⟩
            · rcases f2 b hb2 with f' | ⟨f', fs', fd', fb'⟩
              · have := freed_of (q1 f.1 (store_heapy f'.1)) (store_noload f.1) (store_noload f'.1)
                rw [freed_symm] at this
                exact noFreed j ej b hej this f'.2 f.2
              · have := freed_of (q1 f.1 (makes_heapy f')) (store_noload f.1) (makes_noload f')
                unfold freed at this
                have hn : ej.k.addr = none := by cases hk : ej.k <;> rw [hk] at f' <;> first | rfl | cases f'
                rw [hn] at this
                cases hz : ei.k.addr <;> rw [hz] at this <;> cases this
            · rcases f2 b hb2 with f' | ⟨f', fs', fd', fb'⟩
              · have := freed_of (q2 (makes_heapy f) f'.1) (makes_noload f) (store_noload f'.1)
                unfold freed at this
                have hn : ei.k.addr = none := by cases hk : ei.k <;> rw [hk] at f <;> first | rfl | cases f
                rw [hn] at this; cases this
              · rw [stM_base] at fb fb'
                have e' : fs' = fs := by omega
                exact w2 fs (by simp [EOp.writes, fd]) (by simp [EOp.writes, fd', e']))
          have e : (fun j => if j = i then true else maskL listed j) = maskL (listed.setIfInBounds i true) := funext fun j => by
            simp only [maskL]; rw [hset]
          rw [e] at this
          exact this.symm)
      unfold wpOp
      simp only [ho]
      by_cases hw : Region.wanted o (yielded os a.tmps) = true
      · rw [if_pos hw] at key ⊢; exact .inl key
      · rw [if_neg hw] at key ⊢; exact key
end
end Go.Proofs.YtpdlcbmnmeihoaaGreatDoor.Ev
namespace Go.Proofs.YtpdlcbmnmeihoaaGreatDoor.Ev
open Go Go.RowKit
theorem allP_mem {f : PV → Bool} : ∀ {l : List PV}, allP f l = true → ∀ p ∈ l, f p = true
  | [], _, p, h => by cases h
  | q :: l, h, p, hp => by
    simp only [allP] at h
    cases hq : f q with
    | false => rw [hq] at h; cases h
    | true =>
      rw [hq] at h
      rcases List.mem_cons.1 hp with rfl | hp
      · exact hq
      · exact allP_mem h p hp
theorem cellOK_own {p : PV} (h : p.cellOK = true) : ∀ s, p.sv = some s → s.own = false := by
  intro s hs
  cases p with
  | lst own x =>
    cases own with
    | false => injection hs with hs; subst hs; rfl
    | true => cases h
  | sl own e sz es => cases h
  | _ => cases hs
theorem cellOD_flat {p : PV} (h : p.cellOD = true) : p.flat = true := by
  cases p <;> first | rfl | cases h
theorem okD_plain : ∀ {l : List PV}, okD l = true → plain l = true
  | [], _ => rfl
  | p :: l, h => by
    have h1 := allP_mem h p (by simp)
    have h2 : okD l = true := by
      simp only [okD, allP, h1] at h
      exact h
    have h3 := okD_plain h2
    cases p <;> first | exact h3 | cases h1
section
variable {w w' : World} {M M' : Mut} {β β' : Loc} {B B' : Nat → Prop}
theorem Rel.fx1 {p : PV} {v : Value} (h : Rel w M β B p v) (hf : p.fx1 = true) : Rel w M β' B' p v := by
  cases p with
  | agg l =>
    cases h with
    | row p s hs => cases hs
    | agg l cs hl h1 hr =>
      exact .agg l cs hl h1 fun i p v hp hv => (hr i p v hp hv).flat (allP_mem hf p (List.mem_of_getElem? hp))
  | _ => exact h.flat hf
theorem Rel.fx {p : PV} {v : Value} (h : Rel w M β B p v) (hf : p.fx = true) : Rel w M β' B' p v := by
  cases p with
  | tup l =>
    cases h with
    | row p s hs => cases hs
    | tup l cs hl hr =>
      exact .tup l cs hl fun i p v hp hv => (hr i p v hp hv).fx1 (allP_mem hf p (List.mem_of_getElem? hp))
  | _ => exact h.fx1 hf
theorem Rel.cross {p : PV} {v : Value} (h : Rel w M β B p v) : Rel w M β' B' p.cross v := by
  cases p with
  | agg l =>
    cases h with
    | row p s hs => cases hs
    | agg l cs hl h1 hr =>
      refine .agg _ cs (by rw [List.length_map, hl]) h1 (fun i q u hq hu => ?_)
      rw [List.getElem?_map] at hq
      obtain ⟨p, hp, rfl⟩ := Option.map_eq_some_iff.1 hq
      exact (hr i p u hp hu).pure0
  | _ => exact h.pure0
end
/-- ... of variables' cells -/
theorem ObjOK.cellsOf {w w' : World} {M M' : Mut} {β β' : Loc} {B B' : Nat → Prop} {b n n' : Nat} {l : List PV} (h : ObjOK w M β B b n l) (hf : ∀ p ∈ l, p.flat = true) (hp : plain l = true) (hh : w'.heap[b]? = w.heap[b]?)
    (hR : ∀ p v, p.flat = true → Rel w M β B p v → Rel w' M' β' B' p v) : ObjOK w' M' β' B' b n' l := by
  obtain ⟨cs, t, q1, q2, q3⟩ := cells_of_obj h hp
  exact .cells l cs t (by rw [hh]; exact q1) q2 (fun i p v hp hv => ⟨hR _ _ (hf p (List.mem_of_getElem? hp)) (q3 i p v hp hv).1, (q3 i p v hp hv).2⟩)
theorem frame_call {P : Program} {f : Nat} {cells cells' : List PV} {ps : List PV} {r : PV} {o' : List (Nat × List PV)} (hI : HoldsI P f (.loc 0 0 :: ps.map PV.cross) [(0, cells)] r o') (hlo : look [] (o' ++ [(0, cells)]) 0 = cells')
    (hcc : okD cells = true) (hcc' : okD cells' = true) (hr' : r.fx = true)
    (d : Nat) (ob : List (Nat × List PV)) (hd : look [] ob d = cells) (hdk : notIn d (ob.map Prod.fst) = false) : HoldsI P f (.loc d 0 :: ps) ob r [(d, cells')] := by
  have hc : ∀ p ∈ cells, p.flat = true := fun p h => cellOD_flat (allP_mem hcc p h)
  have hp := okD_plain hcc
  have hc' : ∀ p ∈ cells', p.flat = true := fun p h => cellOD_flat (allP_mem hcc' p h)
  have hp' := okD_plain hcc'
  intro κ H w0 w N M β O D vs hO hD hS hl hr
  match vs, hl with
  | v0 :: vs, hl =>
  obtain ⟨bd, n, hβ, hv0⟩ := loc_eq (hr 0 _ v0 rfl rfl)
  subst hv0
  obtain ⟨hb1, hb2, hb3⟩ := hS.box d bd n hβ
  have hbw : bd < w.heap.size := hS.mlt bd 0 hb2
  rw [hO, hd] at hb3
  let T : Nat → Prop := fun b => ∃ i s v, Own H O w β (.cell d i) s v ∧ tb v = some b
  let B' : Base := ⟨w, fun b => b < w.heap.size ∧ b ≠ bd ∧ ¬ T b, fun b h => h.1⟩
  let β0 : Loc := fun x => if x = 0 then some (bd, n) else none
  have hβ0 : ∀ x b m, β0 x = some (b, m) → x = 0 ∧ b = bd ∧ m = n := fun x b m h => by
    simp only [β0] at h
    by_cases e : x = 0
    · rw [if_pos e] at h; injection h with h; injection h with h1 h2; exact ⟨e, h1.symm, h2.symm⟩
    · rw [if_neg e] at h; cases h
  let H0 : Option { q : PV × Value // Rel w M (fun _ => none) B'.old q.1 q.2 ∧ ∀ s, q.1.sv = some s → s.own = false } → PV × Value := fun k => match k with
    | none => (PV.loc 0 0, Value.pointer (some ⟨bd, 0, none⟩))
    | some q => q.1
  have hown : ∀ key s v, Own H0 (look [] [(0, cells)]) w β0 key s v → ∃ i, key = .cell 0 i ∧ Own H O w β (.cell d i) s v := by
    intro key s v h
    cases key with
    | slot k =>
      cases k with
      | none => cases h.1
      | some q =>
        have := q.2.2 s h.1
        rw [h.2.1] at this
        cases this
    | cell x i =>
      obtain ⟨b, m, p, h1, h2, h3, h4, h5⟩ := h
      obtain ⟨rfl, rfl, rfl⟩ := hβ0 x b m h1
      exact ⟨i, rfl, b, m, p, hβ, by rw [hO, hd]; exact h2, h3, h4, h5⟩
  have hwr : ∀ b, w0.old b → b < w.heap.size ∧ b ≠ bd ∧ ¬ T b := fun b hb => ⟨hS.bel.lt hb, fun e => hb1 (by rw [← e]; exact hb), fun ⟨i, s, v, ho, ht⟩ => ((hS.tok _ s v ho).lt ht).1 hb⟩
  have S0 : SH H0 B' M (look [] [(0, cells)]) (fun x => notIn x ([(0, cells)].map Prod.fst)) w M β0 := by
    refine ⟨Bel.of w B' rfl, ⟨fun _ _ => rfl, hS.mN.gl.to hS.bel hS.mN.eq B' rfl fun b hb => hwr b hb⟩, hS.mlt, fun x b m hx => ?_, fun x y b m m' hx hy => ?_, fun x hx => ?_, fun k => ?_, fun key s v h => ?_, fun key key' s s' v v' g h h' hne hg => ?_, fun key s v g x m h hg hx => ?_⟩
    · obtain ⟨rfl, rfl, rfl⟩ := hβ0 x b m hx
      exact ⟨fun h => h.2.1 rfl, hb2, hb3.cellsOf hc hp rfl (fun p v hf h => h.flat hf)⟩
    · rw [(hβ0 x b m hx).1, (hβ0 y b m' hy).1]
    · simp only [β0]
      by_cases e : x = 0
      · subst e; simp [notIn] at hx
      · rw [if_neg e]
    · cases k with
      | none => exact .loc 0 0 bd n (if_pos rfl)
      | some q => exact q.2.1.ext (Ext.refl w M) (fun _ _ => rfl) (fun _ _ h => by cases h)
    · obtain ⟨i, rfl, ho⟩ := hown key s v h
      rcases (hS.tok _ s v ho).cut with h1 | ⟨g, c, cur, q1, q2, q3, q4, q5, q6, q7, q8⟩
      · exact .inl h1
      · exact .inr ⟨g, c, cur, q1, fun h3 => h3.2.2 ⟨i, s, v, ho, q8⟩, q3, q4, q5, q6, q7⟩
    · obtain ⟨i, rfl, ho⟩ := hown key s v h
      obtain ⟨i', rfl, ho'⟩ := hown key' s' v' h'
      exact hS.tokne (.cell d i) (.cell d i') s s' v v' g ho ho' (fun e => hne (by injection e with _ e; rw [e])) hg
    · obtain ⟨i, rfl, ho⟩ := hown key s v h
      obtain ⟨rfl, rfl, rfl⟩ := hβ0 x g m hx
      exact hS.tokbox _ s v g d m ho hg hβ
  refine Calls.mono (hI _ B' w M M β0 _ _ (.pointer (some ⟨bd, 0, none⟩) :: vs) (fun _ => rfl) (fun _ => rfl) S0 (by simpa using hl) (fun i p v h1 h2 => ?_)) ?_
  · cases i with
    | zero => injection h1 with h1; injection h2 with h2; subst h1; subst h2; exact .loc 0 0 bd n (if_pos rfl)
    | succ i =>
      have h1 : (ps.map PV.cross)[i]? = some p := h1
      rw [List.getElem?_map] at h1
      obtain ⟨q, hq, rfl⟩ := Option.map_eq_some_iff.1 h1
      exact (hr (i + 1) q v hq h2).cross
  rintro e w' ⟨v, M', β', rfl, S1⟩
  obtain ⟨b2, n2, hb', hv2⟩ := loc_eq (S1.reg (some none))
  have hbb : b2 = bd := by injection hv2 with hv2; injection hv2 with hv2; injection hv2 with hv2; exact hv2.symm
  subst hbb
  have hMM : ∀ b, b < w.heap.size → ¬ T b → M' b = M b := fun b hb hT => by
    by_cases e : b = b2
    · subst e; rw [hb2]; exact (S1.box 0 b n2 hb').2.1
    · exact S1.mN b ⟨hb, e, hT⟩
  have hhh : ∀ b, b < w.heap.size ∧ b ≠ b2 ∧ ¬ T b → w'.heap[b]? = w.heap[b]? := fun b h => S1.bel.block b h
  have hE : ∀ a v, v.oneCell' = true → imm M a → w.cell? a = some v → imm M' a ∧ w'.cell? a = some v := fun a v h1 hi hx => by
    have hq : Rel w M (fun _ => none) B'.old (.ref [.val v]) (.pointer (some a)) := by
      refine .ref [.val v] a (fun _ => v) (fun i p hp => ?_) (fun i p hp => ?_)
      · cases i with
        | zero => exact ⟨.inr hi, hx, h1⟩
        | succ i => simp at hp
      · cases i with
        | zero => simp at hp; subst hp; exact .val v h1
        | succ i => simp at hp
    have h2 : Rel w' M' β' B'.old (.ref [.val v]) (.pointer (some a)) := S1.reg (some (some ⟨(.ref [.val v], .pointer (some a)), hq, fun s h => by cases h⟩))
    cases h2 with
    | ref l ad vs hm hr =>
      obtain ⟨g1, g2, _⟩ := hm 0 _ rfl
      rw [(hr 0 _ rfl).val_eq] at g2
      refine ⟨?_, g2⟩
      rcases g1 with g1 | g1
      · intro m hm'
        exact hi m (by rw [← S1.mN a.block g1]; exact hm')
      · exact g1
  have hR : ∀ p u, Rel w M β w0.old p u → Rel w' M' β w0.old p u := fun p u h => h.ext1 hE (fun x hx => World.cell?_of_block (w := w) (hhh _ (hwr _ hx))) (fun _ _ h => h)
  have hO1 : look [] ([(d, cells')] ++ ob) d = cells' := by simp [look]
  have hO2 : ∀ x, x ≠ d → look [] ([(d, cells')] ++ ob) x = O x := fun x hx => by
    rw [hO]
    have : Nat.beq d x = false := by
      cases hb : Nat.beq d x with
      | false => rfl
      | true => exact absurd (Nat.eq_of_beq_eq_true hb).symm hx
    simp [look, this]
  have hbx : ∀ x b m, x ≠ d → β x = some (b, m) → b < w.heap.size ∧ b ≠ b2 ∧ ¬ T b := fun x b m e h1 =>
    ⟨hS.mlt b 0 (hS.box x b m h1).2.1, fun e' => e (hS.inj x d b m n h1 (by rw [e']; exact hβ)), fun ⟨i, s, v, ho, ht⟩ => hS.tokbox _ s v b x m ho ht h1⟩
  have hOwn : ∀ key s u, Own H (look [] ([(d, cells')] ++ ob)) w' β key s u → (∃ i, key = .cell d i ∧ Own (ocons (r, v) H0) (look [] (o' ++ [(0, cells)])) w' β' (.cell 0 i) s u) ∨ ((∀ i, key ≠ .cell d i) ∧ Own H O w β key s u) := by
    intro key s u h
    cases key with
    | slot k => exact .inr ⟨fun i e => (by cases e), h⟩
    | cell x i =>
      obtain ⟨b, m, p, h1, h2, h3, h4, h5⟩ := h
      by_cases e : x = d
      · subst e
        rw [hO1] at h2
        rw [hβ] at h1
        injection h1 with h1
        injection h1 with h11 h12
        subst h11
        exact .inl ⟨i, rfl, b2, n2, p, hb', by rw [hlo]; exact h2, h3, h4, h5⟩
      · rw [hO2 x e] at h2
        exact .inr ⟨fun j e' => (by injection e' with e' _; exact e e'), b, m, p, h1, h2, h3, h4, by rw [← World.cell?_of_block (w := w) (a := ⟨b, i, none⟩) (hhh b (hbx x b m e h1))]; exact h5⟩
  have htk : ∀ key s u, (∀ i, key ≠ .cell d i) → Own H O w β key s u → ∀ g, tb u = some g → g < w.heap.size ∧ g ≠ b2 ∧ ¬ T g := fun key s u hk h g hg => by
    obtain ⟨_, k, hk'⟩ := (hS.tok key s u h).lt hg
    exact ⟨hS.mlt g k hk', fun e => hS.tokbox key s u g d n h hg (by rw [e]; exact hβ), fun ⟨i, s', v', ho', ht'⟩ => hS.tokne key (.cell d i) s s' u v' g h ho' (hk i) hg ht'⟩
  have hnew : ∀ {key s u}, Own (ocons (r, v) H0) (look [] (o' ++ [(0, cells)])) w' β' key s u → ∀ {g}, tb u = some g → ¬ (g < w.heap.size ∧ g ≠ b2 ∧ ¬ T g) := fun {key s u} h {g} hg => ((S1.tok key s u h).lt hg).1
  have htok : ∀ {key s u}, Own (ocons (r, v) H0) (look [] (o' ++ [(0, cells)])) w' β' key s u → TokOK w' M' w0.old s u := fun {key s u} h => by
    rcases S1.tok key s u h with h1 | ⟨g, c, cur, q1, q2, q3⟩
    · exact .inl h1
    · exact .inr ⟨g, c, cur, q1, fun h2 => q2 (hwr g h2), q3⟩
  have hnb : ∀ {key s u}, Own (ocons (r, v) H0) (look [] (o' ++ [(0, cells)])) w' β' key s u → ∀ {g x m}, tb u = some g → β x ≠ some (g, m) := fun {key s u} h {g x m} hg hx => by
    by_cases e : x = d
    · subst e
      rw [hβ] at hx
      injection hx with hx
      injection hx with hx1 hx2
      exact S1.tokbox key s u g 0 n2 h hg (by rw [← hx1]; exact hb')
    · exact hnew h hg (hbx x g m e hx)
  have SB : SH H w0 N (look [] ([(d, cells')] ++ ob)) (fun x => notIn x (([(d, cells')] ++ ob).map Prod.fst)) w' M' β := by
    refine ⟨⟨S1.bel.os.trans hS.bel.os, S1.bel.tape.trans hS.bel.tape, S1.bel.output.trans hS.bel.output, Nat.le_trans hS.bel.size S1.bel.size, fun b hb => (hhh b (hwr b hb)).trans (hS.bel.block b hb)⟩,
      ⟨fun b hb => (hMM b (hwr b hb).1 (hwr b hb).2.2).trans (hS.mN b hb), hS.mN.gl⟩, S1.mlt, fun x b m hx => ?_, hS.inj, fun x hx => ?_, fun k => hR _ _ (hS.reg k), fun key s u h => ?_, fun key key' s s' u u' g h h' hne hg => ?_, fun key s u g x m h hg => ?_⟩
    · obtain ⟨k1, k2, k3⟩ := hS.box x b m hx
      by_cases e : x = d
      · subst e
        rw [hβ] at hx
        injection hx with hx
        injection hx with hx1 hx2
        subst hx1; subst hx2
        obtain ⟨_, j2, j3⟩ := S1.box 0 b2 n2 hb'
        rw [hlo] at j3
        exact ⟨k1, j2, by rw [hO1]; exact j3.cellsOf hc' hp' rfl (fun p v hf h => h.flat hf)⟩
      · have hb4 := hbx x b m e hx
        exact ⟨k1, by rw [hMM b hb4.1 hb4.2.2]; exact k2, by rw [hO2 x e]; exact k3.ext (hhh b hb4) hR⟩
    · rw [List.map_append, notIn_app, Bool.and_eq_true] at hx
      exact hS.dom x (by rw [hD]; exact hx.2)
    · rcases hOwn key s u h with ⟨i, rfl, h1⟩ | ⟨hk, h1⟩
      · exact htok h1
      · exact (hS.tok key s u h1).ext (fun g hg => ⟨hhh g (htk key s u hk h1 g hg), hMM g (htk key s u hk h1 g hg).1 (htk key s u hk h1 g hg).2.2⟩)
    · rcases hOwn key s u h with ⟨i, rfl, h1⟩ | ⟨hk, h1⟩ <;> rcases hOwn key' s' u' h' with ⟨i', rfl, h2⟩ | ⟨hk', h2⟩
      · exact S1.tokne (.cell 0 i) (.cell 0 i') s s' u u' g h1 h2 (fun e => hne (by injection e with _ e; rw [e])) hg
      · exact fun hg' => hnew h1 hg (htk key' s' u' hk' h2 g hg')
      · exact fun hg' => hnew h2 hg' (htk key s u hk h1 g hg)
      · exact hS.tokne key key' s s' u u' g h1 h2 hne hg
    · rcases hOwn key s u h with ⟨i, rfl, h1⟩ | ⟨hk, h1⟩
      · exact hnb h1 hg
      · exact hS.tokbox key s u g x m h1 hg
  refine ⟨v, M', β, rfl, SB.cons r v ((S1.reg none).fx hr') (fun s h1 h2 => ?_)⟩
  have hOn : Own (ocons (r, v) H0) (look [] (o' ++ [(0, cells)])) w' β' (.slot none) s v := ⟨h1, h2, rfl⟩
  refine ⟨htok hOn, fun key s' v' g h3 h4 h5 => ?_, fun g x m h3 => hnb hOn h3⟩
  rcases hOwn key s' v' h3 with ⟨i, rfl, h6⟩ | ⟨hk, h6⟩
  · exact S1.tokne (.slot none) (.cell 0 i) s s' v v' g hOn h6 (fun e => by cases e) h4 h5
  · exact hnew hOn h4 (htk key s' v' hk h6 g h5)
end Go.Proofs.YtpdlcbmnmeihoaaGreatDoor.Ev
namespace Go.Proofs.YtpdlcbmnmeihoaaGreatDoor.Ev
open Go Go.RowKit
/-- which variables of ours a datum mentions -/
inductive LocsIn (S : Nat → Prop) : PV → Prop
  | any : LocsIn S .any
  | val (v : Value) : LocsIn S (.val v)
  | lst (own : Bool) (x : LX) : LocsIn S (.lst own x)
  | agg (l : List PV) (h : ∀ (i : Nat) (p : PV), l[i]? = some p → LocsIn S p) : LocsIn S (.agg l)
  | tup (l : List PV) (h : ∀ (i : Nat) (p : PV), l[i]? = some p → LocsIn S p) : LocsIn S (.tup l)
  | ref (l : List PV) (h : ∀ (i : Nat) (p : PV), l[i]? = some p → LocsIn S p) : LocsIn S (.ref l)
  | clo (f n : Nat) (l : List PV) (h : ∀ (i : Nat) (p : PV), l[i]? = some p → LocsIn S p) : LocsIn S (.clo f n l)
  | sl (own : Bool) (e sz : Nat) (es : List (List PV)) (h : ∀ (i j : Nat) (p : PV), i < es.length → (es.getD i [])[j]? = some p → LocsIn S p) : LocsIn S (.sl own e sz es)
  | loc (d off : Nat) (h : S d) : LocsIn S (.loc d off)
  | el (d sz i off : Nat) (h : S d) : LocsIn S (.el d sz i off)
  | vw (c : Bool) (d e sz n : Nat) (h : S d) : LocsIn S (.vw c d e sz n)
  | mp (d : Nat) (h : S d) : LocsIn S (.mp d)
section
variable {w : World} {M : Mut} {β : Loc} {B : Nat → Prop}
theorem get_of_len {l : List PV} {cs : List Value} (hl : l.length = cs.length) {i : Nat} {p : PV} (h : l[i]? = some p) : ∃ v, cs[i]? = some v :=
  ⟨_, List.getElem?_eq_getElem (by have := (List.getElem?_eq_some_iff.1 h).1; omega)⟩
theorem Rel.locs {p : PV} {v : Value} (h : Rel w M β B p v) : LocsIn (fun d => ∃ x, β d = some x) p := by
  induction h with
  | any v => exact .any
  | val v h => exact .val v
  | agg l cs hl h1 hr ih => exact .agg l (fun i p hp => let ⟨v, hv⟩ := get_of_len hl hp; ih i p v hp hv)
  | tup l cs hl hr ih => exact .tup l (fun i p hp => let ⟨v, hv⟩ := get_of_len hl hp; ih i p v hp hv)
  | row p s hs a c vs hc hsz ha hm hr ih =>
    cases p with
    | sl own e sz es =>
      injection hs with hs; subst hs
      exact .sl own e sz es (fun i j p hi hp => ih i j p hi hp)
    | lst own x => exact .lst own x
    | _ => cases hs
  | loc d off b n h => exact .loc d off ⟨_, h⟩
  | el d sz i off b n h hi => exact .el d sz i off ⟨_, h⟩
  | vw cf d e sz n b c h hc => exact .vw cf d e sz n ⟨_, h⟩
  | mp d b n h => exact .mp d ⟨_, h⟩
  | clo f n l cs hl hr ih => exact .clo f n l (fun i p hp => let ⟨v, hv⟩ := get_of_len hl hp; ih i p v hp hv)
  | ref l ad vs hm hr ih => exact .ref l (fun i p hp => ih i p hp)
theorem Rel.cutL {S : Nat → Prop} {D : Nat → Bool} (hSD : ∀ d, S d → D d = false) {p : PV} {v : Value} (h : Rel w M β B p v) (hl : LocsIn S p) : Rel w M (β.cut D) B p v := by
  induction h with
  | any v => exact .any v
  | val v h => exact .val v h
  | agg l cs hl' h1 hr ih => cases hl with | agg l hq => exact .agg l cs hl' h1 (fun i p v hp hv => ih i p v hp hv (hq i p hp))
  | tup l cs hl' hr ih => cases hl with | tup l hq => exact .tup l cs hl' (fun i p v hp hv => ih i p v hp hv (hq i p hp))
  | row p s hs a c vs hc hsz ha hm hr ih =>
    cases hl with
    | sl own e sz es hq =>
      injection hs with hs; subst hs
      exact .row _ _ rfl a c vs hc hsz ha hm (fun i j p hi hp => ih i j p hi hp (hq i j p hi hp))
    | lst own x => exact (Rel.row (β := β) (B := B) _ s hs a c vs hc hsz ha hm hr).flat rfl
    | _ => cases hs
  | loc d off b n h => cases hl with | loc d off hq => exact .loc d off b n (by rw [Loc.cut_eq (hSD d hq)]; exact h)
  | el d sz i off b n h hi => cases hl with | el d sz i off hq => exact .el d sz i off b n (by rw [Loc.cut_eq (hSD d hq)]; exact h) hi
  | vw cf d e sz n b c h hc => cases hl with | vw c d e sz n hq => exact .vw cf d e sz n b _ (by rw [Loc.cut_eq (hSD d hq)]; exact h) hc
  | mp d b n h => cases hl with | mp d hq => exact .mp d b n (by rw [Loc.cut_eq (hSD d hq)]; exact h)
  | clo f n l cs hl' hr ih => cases hl with | clo f n l hq => exact .clo f n l cs hl' (fun i p v hp hv => ih i p v hp hv (hq i p hp))
  | ref l ad vs hm hr ih => cases hl with | ref l hq => exact .ref l ad vs hm (fun i p hp => ih i p hp (hq i p hp))
end
section
variable {ι : Type} {cx : ι → PV × Value} {P : Program} {C : Oracle} {X : Inl} {inl : Nat → Bool} {w0 : Base} {w : World} {N M : Mut} {β : Loc} {nt : Nat} {st : St} {a : Act}
theorem clean_box {B : Nat → Prop} {b n : Nat} {l : List PV} {D : Nat → Bool} (h : ObjOK w M β B b n l) : ObjOK w M (β.cut D) B b n (l.map fun p => p.clean D) := by
  cases h with
  | cells l cs t q1 q2 q3 =>
    refine .cells _ cs t q1 (by rw [List.length_map]; exact q2) (fun i q v hq hv => ?_)
    rw [List.getElem?_map] at hq
    cases hp : l[i]? with
    | none => rw [hp] at hq; cases hq
    | some p =>
      rw [hp] at hq
      injection hq with hq
      subst hq
      exact ⟨(q3 i p v hp hv).1.clean, (q3 i p v hp hv).2⟩
  | arr x cs t q1 q2 q3 q4 => exact .arr x cs t q1 q2 q3 (fun i j p v hi hp hv => ⟨(q4 i j p v hi hp hv).1.flat (LX.row_flat x i p (List.mem_of_getElem? hp)), (q4 i j p v hi hp hv).2⟩)
  | map gk gv ks vs es clock q1 q2 q3 q4 q5 =>
    have fl : ∀ (g : Bool) (x : LX) (i : Nat) (v : Value), Rel w M β B (mkP g (x.row i)) v → Rel w M (β.cut D) B (mkP g (x.row i)) v := by
      intro g x i v hr
      cases g with
      | true =>
        have hr' : Rel w M β B (.agg (x.row i)) v := hr
        clear hr
        cases hr' with
        | row p s hs => cases hs
        | agg l cs hl h1 hr => exact .agg _ cs hl h1 (fun j p u hp hu => (hr j p u hp hu).flat (LX.row_flat x i p (List.mem_of_getElem? hp)))
      | false =>
        have hf := LX.row_flat x i
        generalize x.row i = l at hr hf
        match l, hr, hf with
        | [], _, _ => exact .any v
        | [p], hr, hf =>
          have hp := hf p (by simp)
          have : p.view.flat = true := by cases p <;> first | rfl | cases hp
          exact Rel.flat hr this
        | _ :: _ :: _, _, _ => exact .any v
    exact .map gk gv ks vs es clock q1 q2 q3 (fun i e he => ⟨fl _ _ _ _ (q4 i e he).1, fl _ _ _ _ (q4 i e he).2⟩) q5
  | mapE gk gv ks vs es clock q1 q2 q3 q4 q5 =>
    have fl : ∀ (g : Bool) (x : LX) (i : Nat) (v : Value), Rel w M β B (mkP g (x.row i)) v → Rel w M (β.cut D) B (mkP g (x.row i)) v := by
      intro g x i v hr
      cases g with
      | true =>
        have hr' : Rel w M β B (.agg (x.row i)) v := hr
        clear hr
        cases hr' with
        | row p s hs => cases hs
        | agg l cs hl h1 hr => exact .agg _ cs hl h1 (fun j p u hp hu => (hr j p u hp hu).flat (LX.row_flat x i p (List.mem_of_getElem? hp)))
      | false =>
        have hf := LX.row_flat x i
        generalize x.row i = l at hr hf
        match l, hr, hf with
        | [], _, _ => exact .any v
        | [p], hr, hf =>
          have hp := hf p (by simp)
          have : p.view.flat = true := by cases p <;> first | rfl | cases hp
          exact Rel.flat hr this
        | _ :: _ :: _, _, _ => exact .any v
    exact .mapE gk gv ks vs es clock q1 q2 q3 (fun i e he => ⟨fl _ _ _ _ (q4 i e he).1, fl _ _ _ _ (q4 i e he).2⟩) q5
theorem keep_own (keys live : List Nat) : ∀ key s v, Own (hold cx (Ev.keep keys live st) a) (Ev.keep keys live st).obj w (β.cut fun d => notIn d live) key s v → Own (hold cx st a) st.obj w β key s v := by
  have hg : ∀ s, (Ev.keep keys live st).get s = if s ∈ keys then (st.get s).clean (fun d => notIn d live) else .any := fun s => look_keys _ _ _
  have ho : ∀ d, (Ev.keep keys live st).obj d = if d ∈ live then (st.obj d).map (fun p => p.clean fun d => notIn d live) else [] := fun d => look_keys _ _ _
  intro key s v ho'
  cases key with
  | slot k =>
    cases k with
    | inl t =>
      obtain ⟨h1, h2, h3⟩ := ho'
      simp only [hold] at h1
      rw [hg] at h1
      split at h1
      · exact ⟨clean_sv h1, h2, h3⟩
      · cases h1
    | inr i => exact ho'
  | cell d i =>
    obtain ⟨b, n, p, h1, h2, h3, h4, h5⟩ := ho'
    obtain ⟨q1, q2⟩ := Loc.cut_some h1
    rw [ho] at h2
    split at h2
    · rw [List.getElem?_map] at h2
      cases hp : (st.obj d)[i]? with
      | none => rw [hp] at h2; cases h2
      | some p' =>
        rw [hp] at h2
        injection h2 with h2
        subst h2
        exact ⟨b, n, p', q1, hp, clean_sv h3, h4, h5⟩
    · simp at h2
theorem SR.keep {S : Nat → Prop} (hcx : ∀ i, LocsIn S (cx i).1) (keys live : List Nat) (hS : ∀ d, S d → notIn d live = false) (h : SR cx w0 N nt st a w M β) : SR cx w0 N nt (keep keys live st) a w M (β.cut fun d => notIn d live) := by
  have hg : ∀ s, (Ev.keep keys live st).get s = if s ∈ keys then (st.get s).clean (fun d => notIn d live) else .any := fun s => look_keys _ _ _
  have ho : ∀ d, (Ev.keep keys live st).obj d = if d ∈ live then (st.obj d).map (fun p => p.clean fun d => notIn d live) else [] := fun d => look_keys _ _ _
  have hk : (Ev.keep keys live st).ob.map Prod.fst = live := by
    show (live.map fun d => (d, _)).map Prod.fst = live
    rw [List.map_map]
    exact List.map_id' live
  refine ⟨h.defs, h.nt, ?_⟩
  have hown := keep_own (cx := cx) (w := w) (β := β) (st := st) (a := a) keys live
  have H := h.sh
  refine ⟨H.bel, H.mN, H.mlt, ?_, ?_, ?_, ?_, ?_, ?_, ?_⟩
  · intro d b n hd
    obtain ⟨q1, q2⟩ := Loc.cut_some hd
    obtain ⟨r1, r2, r3⟩ := H.box d b n q1
    refine ⟨r1, r2, ?_⟩
    rw [ho, if_pos (by
      have : ¬ notIn d live = true := by rw [q2]; simp
      rw [notIn_iff] at this
      exact Classical.not_not.1 this)]
    exact clean_box r3
  · intro d d' b n n' hd hd'; exact H.inj d d' b n n' (Loc.cut_some hd).1 (Loc.cut_some hd').1
  · intro d hd
    rw [hk] at hd
    unfold Loc.cut
    simp only [hd, if_true]
  · intro k
    cases k with
    | inl s =>
      simp only [hold]
      rw [hg]
      split
      · exact (h.reg s).clean
      · exact .any _
    | inr i => exact (H.reg (.inr i)).cutL hS (hcx i)
  · intro key s v ho'; exact H.tok key s v (hown _ _ _ ho')
  · intro key key' s s' v v' g h1 h2; exact H.tokne key key' s s' v v' g (hown _ _ _ h1) (hown _ _ _ h2)
  · intro key s v g d n h1 hg' hd; exact H.tokbox key s v g d n (hown _ _ _ h1) hg' (Loc.cut_some hd).1
def exOf : Ex → Exit
  | .normal => .normal
  | .exit i => .exit i
  | .ret => .ret
/-- the variables that others mention are still there -/
def Has (S : Nat → Prop) (st : St) : Prop := ∀ d, S d → notIn d (st.ob.map Prod.fst) = false ∧ d < st.base
theorem has_app {S : Nat → Prop} {st : St} (h : Has S st) (δ : Delta) : Has S (st.app δ) := fun d hd => ⟨by rw [app_key, (h d hd).1, Bool.and_false], (h d hd).2⟩
theorem has_stM {S : Nat → Prop} : ∀ (δs : List Delta) (m : Nat → Bool) (st : St), Has S st → Has S (stM δs m st) := by
  intro δs
  induction δs with
  | nil => intro m st h; exact h
  | cons δ r ih =>
    intro m st h
    simp only [stM]
    refine ih _ _ ?_
    cases m 0
    · exact h
    · exact has_app h δ
theorem has_runS {S : Nat → Prop} {l : List EOp} {st st' : St} (h : RunS P l st st') : Has S st → Has S st' := by
  induction h with
  | nil => exact fun h => h
  | cons eo l st st' δ _ _ ih => exact fun h => ih (has_app h δ)
  | join B r st δs st1 st' pd v _ _ _ _ ih => exact fun h => ih (has_app h _)
theorem has_eq {S : Nat → Prop} {s t : St} (h : Has S s) (he : StEq s t) : Has S t := fun d hd => ⟨by rw [← he.key]; exact (h d hd).1, by rw [← he.base]; exact (h d hd).2⟩
theorem live_live {S : Nat → Prop} {st : St} (hs : Has S st) : ∀ d, S d → notIn d (liveK st) = false := fun d hd => by
  obtain ⟨h1, h2⟩ := hs d hd
  cases hn : notIn d (liveK st) with
  | false => rfl
  | true =>
    have hm : d ∈ st.ob.map Prod.fst := by
      by_cases h : d ∈ st.ob.map Prod.fst
      · exact h
      · rw [(notIn_iff _ _).2 h] at h1; cases h1
    exact absurd ((sortK_mem _ _).2 hm) ((notIn_iff _ _).1 hn)
theorem live_has {S : Nat → Prop} {st : St} (hs : Has S st) (keys : List Nat) : Has S (Ev.keep keys (liveK st) st) := fun d hd => by
  have e : (Ev.keep keys (liveK st) st).ob.map Prod.fst = liveK st := by
    show ((liveK st).map fun d => (d, _)).map Prod.fst = liveK st
    rw [List.map_map]
    exact List.map_id' (liveK st)
  rw [e]; exact ⟨live_live hs d hd, (hs d hd).2⟩
theorem gc_live {S : Nat → Prop} {st : St} (hs : Has S st) (keys : List Nat) : ∀ d, S d → notIn d (gcK keys st) = false := fun d hd => by
  obtain ⟨h1, h2⟩ := hs d hd
  cases hn : notIn d (gcK keys st) with
  | false => rfl
  | true =>
    have hm : d ∈ st.ob.map Prod.fst := by
      by_cases h : d ∈ st.ob.map Prod.fst
      · exact h
      · rw [(notIn_iff _ _).2 h] at h1; cases h1
    exact absurd (gcK_mem ((sortK_mem _ _).2 hm) h2) ((notIn_iff _ _).1 hn)
theorem frF_look (st : St) (live : List Nat) : ∀ (keys : List Nat) (s : Nat), look .any (frF st live keys) s = if s ∈ keys then (st.get s).clean (fun d => notIn d live) else .any
  | [], s => by simp [frF, look]
  | x :: r, s => by
    have ih := frF_look st live r s
    have go : ∀ p : PV, (st.get x).clean (fun d => notIn d live) = p → look PV.any ((x, p) :: frF st live r) s = if s ∈ x :: r then (st.get s).clean (fun d => notIn d live) else .any := by
      intro p hp
      rw [look_one, ih]
      by_cases e : x = s
      · subst e; simp [hp]
      · have : ¬ s = x := fun h => e h.symm
        simp [e, this]
    have anyc : (st.get x).clean (fun d => notIn d live) = .any → look .any (frF st live r) s = if s ∈ x :: r then (st.get s).clean (fun d => notIn d live) else .any := by
      intro hp
      rw [ih]
      by_cases e : s = x
      · subst e; simp [hp]
      · simp [e]
    simp only [frF]
    split
    · rename_i h; exact anyc h
    · rename_i h; exact go _ rfl
theorem keepF_eq (keys live : List Nat) (st : St) : StEq (keepF keys live st) (Ev.keep keys live st) := by
  refine ⟨rfl, fun s => ?_, fun d => rfl, fun d => rfl⟩
  show look PV.any (frF st live keys) s = look PV.any (keys.map fun s => (s, (st.get s).clean fun d => notIn d live)) s
  rw [frF_look, look_keys]
theorem SR.refine (h : SR cx w0 N nt st a w M β) (t : Nat) (p : PV) (hr : Rel w M β w0.old p (a.tmps.getD t undef)) (hn : ∀ s, p.sv = some s → s.own = false) : SR cx w0 N nt (st.app ⟨[(t, p)], []⟩) a w M β := by
  have hg : ∀ s, (st.app ⟨[(t, p)], []⟩).get s = if t = s then p else st.get s := fun s => app_get_one st t s p
  refine ⟨h.defs, h.nt, h.sh.hold (fun k => ?_) (fun k => match k with | .inl s => if t = s then none else some (.inl s) | .inr i => some (.inr i)) (fun k s h1 h2 => ?_) (fun k k' j h1 h2 => ?_)⟩
  · cases k with
    | inl s =>
      simp only [hold]
      rw [hg]
      by_cases e : t = s
      · rw [if_pos e, ← e]; exact hr
      · rw [if_neg e]; exact h.sh.reg (.inl s)
    | inr i => exact h.sh.reg (.inr i)
  · cases k with
    | inl s' =>
      simp only [hold] at h1
      rw [hg] at h1
      by_cases e : t = s'
      · rw [if_pos e] at h1; rw [hn _ h1] at h2; cases h2
      · rw [if_neg e] at h1
        exact ⟨.inl s', by simp only; rw [if_neg e], h1, rfl⟩
    | inr i => exact ⟨.inr i, rfl, h1, rfl⟩
  · cases k with
    | inl s =>
      simp only at h1
      by_cases e : t = s
      · rw [if_pos e] at h1; cases h1
      · rw [if_neg e] at h1
        injection h1 with h1
        subst h1
        cases k' with
        | inl s' =>
          simp only at h2
          by_cases e : t = s'
          · rw [if_pos e] at h2; cases h2
          · rw [if_neg e] at h2; injection h2 with h2; exact h2.symm
        | inr i => cases h2
    | inr i =>
      injection h1 with h1
      subst h1
      cases k' with
      | inl s' =>
        simp only at h2
        by_cases e : t = s'
        · rw [if_pos e] at h2; cases h2
        · rw [if_neg e] at h2; cases h2
      | inr i => injection h2 with h2; exact h2.symm
theorem remK_mem (b : Nat) : ∀ (l : List Nat) (d : Nat), d ∈ remK b l ↔ d ∈ l ∧ d ≠ b
  | [], d => by simp [remK]
  | x :: r, d => by
    have ih := remK_mem b r d
    unfold remK
    cases hb : Nat.beq x b with
    | true =>
      have e := nat_beq hb
      subst e
      simp only [ih, List.mem_cons]
      exact ⟨fun h => ⟨.inr h.1, h.2⟩, fun h => ⟨h.1.resolve_left h.2, h.2⟩⟩
    | false =>
      have e : x ≠ b := fun e => by subst e; simp at hb
      simp only [List.mem_cons, ih]
      exact ⟨fun h => h.elim (fun h => ⟨.inl h, fun e' => e (by rw [← h, e'])⟩) (fun h => ⟨.inr h.1, h.2⟩), fun h => h.1.elim .inl (fun h' => .inr ⟨h', h.2⟩)⟩
theorem SR.frz1 {S : Nat → Prop} (hcx : ∀ i, LocsIn S (cx i).1) (h : SR cx w0 N nt st a w M β) (hs : Has S st) (t : Nat) : ∃ M' β', SR cx w0 N nt (st.frz1 t) a w M' β' ∧ Has S (st.frz1 t) := by
  unfold St.frz1
  split
  · rename_i b e sz n hg
    split
    · rename_i y ho hb
      have hb := Nat.le_of_ble_eq_true hb
      have hreg := h.reg t
      rw [hg] at hreg
      obtain ⟨bb, c, hβ, hc, hv⟩ := vw_eq hreg
      obtain ⟨hb1, hb2, hb3⟩ := h.sh.box b bb n hβ
      obtain ⟨cs, ty, q1, q2, q3, q4⟩ := arr_of hb3 ho
      have hlive : ∀ d, S d → notIn d (remK b (liveK st)) = false := fun d hd => by
        obtain ⟨k1, k2⟩ := hs d hd
        cases hn : notIn d (remK b (liveK st)) with
        | false => rfl
        | true =>
          have h1 := (notIn_iff _ _).1 hn
          have h2 : notIn d (st.ob.map Prod.fst) = true := (notIn_iff _ _).2 (fun hm => h1 ((remK_mem _ _ _).2 ⟨(sortK_mem _ _).2 hm, fun e => by omega⟩))
          rw [h2] at k1; cases k1
      have hk := h.keep hcx (st.fr.map Prod.fst) (remK b (liveK st)) hlive
      have hbx : ∀ x m, (β.cut fun d => notIn d (remK b (liveK st))) x ≠ some (bb, m) := fun x m hx => by
        obtain ⟨h1, h2⟩ := Loc.cut_some hx
        have := h.sh.inj x b bb m n h1 hβ
        subst this
        have : notIn x (remK x (liveK st)) = true := (notIn_iff _ _).2 (fun hm => ((remK_mem _ _ _).1 hm).2 rfl)
        rw [this] at h2; cases h2
      obtain ⟨hS, hE⟩ := hk.sh.fixed bb (n * y.sz) hb2 hbx (fun key s v ho' hg' => h.sh.tokbox key s v bb b n (keep_own _ _ key s v ho') hg' hβ) hb1
      have hk2 : SR cx w0 N nt (Ev.keep (st.fr.map Prod.fst) (remK b (liveK st)) st) a w _ _ := ⟨hk.defs, hk.nt, hS⟩
      refine ⟨_, _, (hk2.equiv (keepF_eq _ _ _).symm).refine t (.lst false y) ?_ (fun s hs => by injection hs with hs; subst hs; rfl), ?_⟩
      · rw [hv]
        refine Rel_row (s := ⟨false, y.e, y.sz, y.len, y.row⟩) rfl q2.symm q1 hc (fun i _ => LX.row_len _ _) (fun j hj m hm => ?_) (fun i j q hi hq => ?_)
        · simp only [if_true] at hm
          injection hm with hm
          have : j < n * y.sz := hj
          show j < m
          omega
        · have hj : j < y.sz := by have := (List.getElem?_eq_some_iff.1 hq).1; rw [LX.row_len] at this; exact this
          have hi' : i < n := hi
          have hm : (i + 1) * y.sz ≤ n * y.sz := Nat.mul_le_mul_right _ hi'
          rw [Nat.add_mul, Nat.one_mul] at hm
          have hv' : cs[i * y.sz + j]? = some (cs[i * y.sz + j]'(by omega)) := Array.getElem?_eq_getElem (by omega)
          obtain ⟨r1, r2⟩ := q4 i j q _ hi hq hv'
          have hfl : q.flat = true := LX.row_flat _ _ _ (List.mem_of_getElem? hq)
          exact ⟨_, hv', hE _ _ (r1.flat hfl), r2⟩
      · have hk3 : Has S (Ev.keep (st.fr.map Prod.fst) (remK b (liveK st)) st) := by
          intro d hd
          refine ⟨?_, (hs d hd).2⟩
          have e : (Ev.keep (st.fr.map Prod.fst) (remK b (liveK st)) st).ob.map Prod.fst = remK b (liveK st) := by
            show ((remK b (liveK st)).map fun d => (d, _)).map Prod.fst = remK b (liveK st)
            rw [List.map_map]
            exact List.map_id' _
          rw [e]; exact hlive d hd
        exact has_app (has_eq hk3 (keepF_eq _ _ _).symm) _
    · exact ⟨M, β, h, hs⟩
  · exact ⟨M, β, h, hs⟩
theorem SR.frzL {S : Nat → Prop} (hcx : ∀ i, LocsIn S (cx i).1) : ∀ (ts : List Nat) {st : St} {M : Mut} {β : Loc}, SR cx w0 N nt st a w M β → Has S st → ∃ M' β', SR cx w0 N nt (st.frzL ts) a w M' β' ∧ Has S (st.frzL ts)
  | [], st, M, β, h, hs => ⟨M, β, h, hs⟩
  | t :: r, st, M, β, h, hs => by
    obtain ⟨M', β', h', hs'⟩ := h.frz1 hcx hs t
    exact SR.frzL hcx r h' hs'
theorem maxId_gt : ∀ {ob : List (Nat × List PV)} {d : Nat}, notIn d (ob.map Prod.fst) = false → d < maxId ob
  | [], d, h => by cases h
  | (x, l) :: r, d, h => by
    simp only [List.map_cons, notIn] at h
    unfold maxId
    cases hb : Nat.beq x d with
    | true =>
      have e := nat_beq hb
      subst e
      cases hl : Nat.ble (maxId r) x with
      | true => simp
      | false =>
        simp only
        rcases Nat.lt_or_ge x (maxId r) with h1 | h1
        · exact h1
        · rw [Nat.ble_eq_true_of_le h1] at hl; cases hl
    | false =>
      rw [hb] at h
      have ih := maxId_gt (ob := r) h
      cases hl : Nat.ble (maxId r) x with
      | true => have := Nat.le_of_ble_eq_true hl; simp only; omega
      | false => exact ih
theorem nextId_gt {ob : List (Nat × List PV)} {d : Nat} (h : notIn d (ob.map Prod.fst) = false) : d < nextId ob := by have := maxId_gt h; unfold nextId; omega
end
end Go.Proofs.YtpdlcbmnmeihoaaGreatDoor.Ev
