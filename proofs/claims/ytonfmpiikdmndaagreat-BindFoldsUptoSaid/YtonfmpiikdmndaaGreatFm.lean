/-  Regions in any order; code; functions. -/
import Derived.Test.YtonfmpiikdmndaaGreatFl
namespace Go.Proofs.YtonfmpiikdmndaaGreat.Ev
open Go Go.RowKit
set_option linter.unusedVariables false
set_option linter.unusedSimpArgs false
set_option linter.unnecessarySimpa false
section
variable {ι : Type} {cx : ι → PV × Value} {P : Program} {C : Oracle} {X : Inl} {inl : Nat → Bool} {once : Nat} {ban : List Nat} {w0 w : World} {N M : Mut} {β : Loc} {nt : Nat} {st : St} {a : Act}
def maskL (listed : Array Bool) : Nat → Bool := fun i => listed.getD i false
/-! ### in the order of the text -/
theorem SR.weak {st' : St} (h : SR cx w0 N nt st a w M β) (hg : ∀ x, st'.get x = st.get x ∨ st'.get x = .any) (ho : ∀ d, st'.obj d = st.obj d) (hk : ∀ d, notIn d (st'.ob.map Prod.fst) = notIn d (st.ob.map Prod.fst)) : SR cx w0 N nt st' a w M β := by
  refine ⟨h.defs, h.nt, h.sh.perm (fun k => ?_) (fun d b n hd => by rw [ho]; exact (h.sh.box d b n hd).2.2) (fun d hd => h.sh.dom d (by rw [← hk]; exact hd)) some (fun key s v hw => ⟨key, rfl, ?_⟩) (fun k k' j h1 h2 => by injection h1 with h1; injection h2 with h2; rw [h1, h2])⟩
  · cases k with
    | inl s =>
      rcases hg s with e | e
      · show Rel _ _ _ _ (st'.get s) _
        rw [e]; exact h.sh.reg (.inl s)
      · show Rel _ _ _ _ (st'.get s) _
        rw [e]; exact .any _
    | inr i => exact h.sh.reg (.inr i)
  · cases key with
    | slot k =>
      cases k with
      | inl t =>
        obtain ⟨h1, h2, h3⟩ := hw
        simp only [hold] at h1
        rcases hg t with e | e
        · rw [e] at h1; exact ⟨h1, h2, h3⟩
        · rw [e] at h1; cases h1
      | inr i => exact hw
    | cell d i =>
      obtain ⟨b, n, p, h1, h2, h3⟩ := hw
      rw [ho] at h2
      exact ⟨b, n, p, h1, h2, h3⟩
/-- this one of the program's operations, compiled -/
def Here (P : Program) (inl : Nat → Bool) (once nt : Nat) (os : Array Oper) (i : Nat) (eo : EOp) : Prop :=
  ∃ o, os[i]? = some o ∧ cOp P inl once o = eo.k ∧ eo.dst = o.dst ∧ cGuard os o.guard = some eo.g ∧ ∀ x, o.dst = some x → x < nt
theorem run_sound {os : Array Oper} {l : List EOp} {δs : List Delta} {st' : St} (hr : Run P ban l st δs st') {Q : Exit → Act → World → Prop} : ∀ (i k : Nat), i + k = os.size → l.length ≤ k →
    (∀ j eo, l[j]? = some eo → Here P inl once nt os (i + j) eo) → ∀ (a : Act) (w : World) (M : Mut) (β : Loc), SR cx w0 N nt st a w M β →
    (∀ a' w' M' β', SR cx w0 N nt st' a' w' M' β' → wpOps P os Q (List.range' (i + l.length) (k - l.length)) a' w') → wpOps P os Q (List.range' i k) a w := by
  induction hr with
  | nil st => intro i k _ _ _ a w M β h hQ; exact hQ _ _ _ _ h
  | cons eo l st st' δ δs h1 _ ih =>
    intro i k hi hk hh a w M β h hQ
    cases k with
    | zero => simp at hk
    | succ k =>
      obtain ⟨o, ho, g2, g3, g4, hdst⟩ := hh 0 eo rfl
      rw [Nat.add_zero] at ho
      have key := ostep_sound (os := os) (K := wpOps P os Q (List.range' (i + 1) k)) (Q := Q) h h1 g2 g3 g4 hdst (fun a' w' M' β' h' =>
        ih (i + 1) k (by omega) (by simp at hk; omega) (fun j e hj => by have := hh (j + 1) e (by simpa using hj); rwa [show i + (j + 1) = i + 1 + j by omega] at this) a' w' M' β' h' (fun a' w' M' β' h' => by
          have := hQ a' w' M' β' h'
          simp only [List.length_cons] at this
          rwa [show i + (l.length + 1) = i + 1 + l.length by omega, show k + 1 - (l.length + 1) = k - l.length by omega] at this))
      rw [List.range'_succ]
      simp only [wpOps, ho]
      by_cases hw : Region.wanted o (yielded os a.tmps) = true
      · rw [if_pos hw] at key ⊢; exact .inl key
      · rw [if_neg hw] at key ⊢; exact key
theorem quiet_spec {k : K} (h : k.quiet = true) : k.isStore = false ∧ k.makes = false := by cases k <;> first | exact ⟨rfl, rfl⟩ | cases h
theorem quiet_writes {eo : EOp} (h : eo.k.quiet = true) : ∀ s ∈ eo.writes, eo.dst = some s := by
  intro s hs
  obtain ⟨d, g, k⟩ := eo
  cases k <;> first | cases h | skip
  all_goals (cases d with
    | none => simp [EOp.writes] at hs
    | some d => simp [EOp.writes] at hs; subst hs; rfl)
theorem run_quiet {l : List EOp} {δs : List Delta} {st' : St} (hr : Run P ban l st δs st') : (∀ eo ∈ l, eo.k.quiet = true) → st'.ob = st.ob ∧ st'.base = st.base ∧ ∀ x, x ∉ (anyD l).map Prod.fst → st'.get x = st.get x := by
  induction hr with
  | nil st => intro _; exact ⟨rfl, rfl, fun _ _ => rfl⟩
  | cons eo l st st' δ δs h1 _ ih =>
    intro hq
    obtain ⟨i1, i2, i3⟩ := ih (fun e he => hq e (List.mem_cons_of_mem _ he))
    have hqe := hq eo (by simp)
    obtain ⟨f1, f2⟩ := ostep_foot h1
    obtain ⟨q1, q2⟩ := quiet_spec hqe
    have ho : δ.o = [] := by
      cases hd : δ.o with
      | nil => rfl
      | cons x r =>
        rcases f2 x.1 (by rw [hd]; simp) with f | f
        · rw [q1] at f; cases f.1
        · rw [q2] at f; cases f.1
    have hob : (st.app δ).ob = st.ob := by simp [St.app, ho, mrgO]
    refine ⟨i1.trans hob, i2, fun x hx => ?_⟩
    have hx2 : x ∉ (anyD l).map Prod.fst := fun h => hx (by unfold anyD; cases eo.dst <;> simp_all)
    rw [i3 x hx2, app_get, if_neg]
    intro hm
    have := quiet_writes hqe x (f1 x hm)
    apply hx
    unfold anyD
    rw [this]
    simp
theorem anyD_look (l : List EOp) (x : Nat) : look .any (anyD l) x = .any := by
  induction l with
  | nil => rfl
  | cons eo l ih =>
    unfold anyD
    cases eo.dst with
    | none => exact ih
    | some d => simp only; rw [look_one, ih]; split <;> rfl
theorem stJ_weak {l : List EOp} {δs : List Delta} {st' : St} (hr : Run P ban l st δs st') (hq : ∀ eo ∈ l, eo.k.quiet = true) {pd : Nat} {v : Bool} (hv : st'.get pd = .val (.bool v)) (h : SR cx w0 N nt st' a w M β) : SR cx w0 N nt (stJ st l pd v) a w M β := by
  obtain ⟨i1, i2, i3⟩ := run_quiet hr hq
  refine h.weak (fun x => ?_) (fun d => ?_) (fun d => ?_)
  · unfold stJ
    rw [app_get]
    simp only [List.map_cons, List.mem_cons]
    by_cases e : x = pd
    · subst e
      rw [if_pos (.inl rfl), look_one, if_pos rfl, hv]; exact .inl rfl
    · by_cases e2 : x ∈ (anyD l).map Prod.fst
      · rw [if_pos (.inr e2), look_one, if_neg (fun h => e h.symm), anyD_look]; exact .inr rfl
      · rw [if_neg (fun h => h.elim e e2)]; exact .inl (i3 x e2).symm
  · show look [] (([] : List (Nat × List PV)) ++ st.ob) d = look [] st'.ob d
    rw [i1]; rfl
  · show notIn d ((([] : List (Nat × List PV)) ++ st.ob).map Prod.fst) = _
    rw [i1]; rfl
inductive RunS (P : Program) : List EOp → St → St → Prop
  | nil (st : St) : RunS P [] st st
  | cons (eo : EOp) (l : List EOp) (st st' : St) (δ : Delta) (h : OStep P [] eo st δ) (hr : RunS P l (st.app δ) st') : RunS P (eo :: l) st st'
  | join (B r : List EOp) (st : St) (δs : List Delta) (st1 st' : St) (pd : Nat) (v : Bool) (hB : Run P [] B st δs st1) (hq : ∀ eo ∈ B, eo.k.quiet = true) (hv : st1.get pd = .val (.bool v)) (hr : RunS P r (stJ st B pd v) st') : RunS P (B ++ r) st st'
theorem splitB_spec {s : Nat} : ∀ {l B r : List EOp} {pd : Nat}, splitB s l = some (B, pd, r) → l = B ++ r ∧ ∀ eo ∈ B, eo.k.quiet = true := by
  intro l
  induction l with
  | nil => intro B r pd h; cases h
  | cons eo l ih =>
    intro B r pd h
    unfold splitB at h
    cases hq : eo.k.quiet with
    | false => rw [hq] at h; cases h
    | true =>
      rw [hq] at h
      cases hg : eo.g with
      | some g =>
        rw [hg] at h
        simp only at h
        cases hs : splitB s l with
        | none => rw [hs] at h; cases h
        | some x =>
          obtain ⟨B', pd', r'⟩ := x
          rw [hs] at h
          simp only [Option.some.injEq, Prod.mk.injEq] at h
          obtain ⟨rfl, rfl, rfl⟩ := h
          obtain ⟨e1, e2⟩ := ih hs
          exact ⟨by rw [e1]; rfl, fun e he => by
            rcases List.mem_cons.1 he with rfl | h
            · exact hq
            · exact e2 e h⟩
      | none =>
        rw [hg] at h
        simp only at h
        split at h
        · split at h
          · simp only [Option.some.injEq, Prod.mk.injEq] at h
            obtain ⟨rfl, rfl, rfl⟩ := h
            exact ⟨rfl, fun e he => by simp at he; subst he; exact hq⟩
          · cases h
        · cases h
theorem evSeq_run (hC : SoundC P C) (hX : SoundX P X) : ∀ (n : Nat) (l : List EOp) (st st0 : St) (k : St → Prop), (∀ eo ∈ l, ∀ o', eo.k = .scal o' → ∀ cs b, o'.op ≠ .select cs b) → StEq st st0 → evSeq P C X n l st k →
    ∃ st1 st', RunS P l st0 st1 ∧ StEq st' st1 ∧ k st' := by
  intro n
  induction n with
  | zero =>
    intro l st st0 k hsel he h
    cases l with
    | nil => exact ⟨st0, st, .nil _, he, h⟩
    | cons _ _ => exact h.elim
  | succ n ih =>
    intro l st st0 k hsel he h
    cases l with
    | nil => exact ⟨st0, st, .nil _, he, h⟩
    | cons eo l =>
      have hsel1 := hsel eo (by simp)
      have hsel2 : ∀ eo ∈ l, ∀ o', eo.k = .scal o' → ∀ cs b, o'.op ≠ .select cs b := fun e hm => hsel e (List.mem_cons_of_mem _ hm)
      have run1 : ∀ (su : St), StEq su st0 → stepD P C X [] eo.k eo.dst su (fun δ => evSeq P C X n l (su.app δ) k) →
          ∃ δ, stepD P (CStar P) (XStar P) [] eo.k eo.dst st0 (fun δ' => δ' = δ) ∧ ∃ st1 st', RunS P l (st0.app δ) st1 ∧ StEq st' st1 ∧ k st' := by
        intro su hu hs
        obtain ⟨δ, h1, h2⟩ := step_star hC hX _ _ _ _ hs
        exact ⟨δ, step_agree (hu.agree _ _ hsel1) (h2 (fun δ' => δ' = δ) rfl), ih _ _ _ _ hsel2 (hu.app δ) h1⟩
      simp only [evSeq] at h
      cases hg : eo.g with
      | none =>
        rw [hg] at h
        obtain ⟨δ, h1, st1, st', h2, h3, h4⟩ := run1 st he h
        exact ⟨st1, st', .cons eo l st0 st1 δ (by unfold OStep; rw [hg]; exact h1) h2, h3, h4⟩
      | some sw =>
        obtain ⟨s, want⟩ := sw
        rw [hg] at h
        simp only at h
        cases hq : st.get s with
        | val v =>
          rw [hq] at h
          cases v with
          | bool t =>
            simp only at h
            have hq0 : st0.get s = .val (.bool t) := by rw [← he.get, hq]
            have hu : StEq (st.put s (.val (.bool t))) st0 := (put_eq hq).trans he
            cases hsp : splitB s (eo :: l) with
            | some x =>
              obtain ⟨B, pd, r'⟩ := x
              rw [hsp] at h
              obtain ⟨e1, e2⟩ := splitB_spec hsp
              simp only [jn] at h
              have go : ∀ su, StEq su st0 → evOps P C X [] B su (jPick pd (fun b => evSeq P C X n r' (stJ st B pd b) k)) → ∃ st1 st', RunS P (eo :: l) st0 st1 ∧ StEq st' st1 ∧ k st' := by
                intro su hsu hs
                have hselB : ∀ eo ∈ B, ∀ o', eo.k = .scal o' → ∀ cs b, o'.op ≠ .select cs b := fun e hm => hsel e (by rw [e1]; exact List.mem_append_left _ hm)
                have hselr : ∀ eo ∈ r', ∀ o', eo.k = .scal o' → ∀ cs b, o'.op ≠ .select cs b := fun e hm => hsel e (by rw [e1]; exact List.mem_append_right _ hm)
                obtain ⟨δs, s1, s', h1, h2, h3⟩ := evOps_run hC hX B su st0 _ hselB hsu hs
                unfold jPick at h3
                split at h3
                · rename_i b hb
                  obtain ⟨st1, st', h4, h5, h6⟩ := ih r' (stJ st B pd b) (stJ st0 B pd b) k hselr (he.app _) h3
                  refine ⟨st1, st', ?_, h5, h6⟩
                  rw [e1]
                  exact .join B r' st0 δs s1 st1 pd b h1 e2 (by rw [← h2.get, hb]) h4
                · exact h3.elim
              cases t <;> simp only [br] at h
              · exact go _ hu h
              · exact go _ hu h
            | none =>
              rw [hsp] at h
              have skip : evSeq P C X n l ((st.put s (.val (.bool t))).app (dput eo.dst (.tup []))) k → t ≠ want →
                  ∃ st1 st', RunS P (eo :: l) st0 st1 ∧ StEq st' st1 ∧ k st' := by
                intro hs hne
                obtain ⟨st1, st', h2, h3, h4⟩ := ih _ _ (st0.app (dput eo.dst (.tup []))) _ hsel2 (hu.app _) hs
                exact ⟨st1, st', .cons eo l st0 st1 _ (by unfold OStep; rw [hg]; exact .inl ⟨t, hq0, fun e => absurd e hne, fun _ => rfl⟩) h2, h3, h4⟩
              have take : stepD P C X [] eo.k eo.dst (st.put s (.val (.bool t))) (fun δ => evSeq P C X n l ((st.put s (.val (.bool t))).app δ) k) → t = want →
                  ∃ st1 st', RunS P (eo :: l) st0 st1 ∧ StEq st' st1 ∧ k st' := by
                intro hs heq
                obtain ⟨δ, h1, st1, st', h2, h3, h4⟩ := run1 _ hu hs
                exact ⟨st1, st', .cons eo l st0 st1 δ (by unfold OStep; rw [hg]; exact .inl ⟨t, hq0, fun _ => h1, fun e => absurd heq e⟩) h2, h3, h4⟩
              cases t <;> cases want <;> simp only [br] at h <;> first | exact take h rfl | exact skip h (by decide)
          | _ => exact h.elim
        | tup l0 =>
          rw [hq] at h
          cases l0 with
          | nil =>
            have hq0 : st0.get s = .tup [] := by rw [← he.get, hq]
            obtain ⟨st1, st', h2, h3, h4⟩ := ih _ _ (st0.app (dput eo.dst (.tup []))) _ hsel2 (he.app _) h
            exact ⟨st1, st', .cons eo l st0 st1 _ (by unfold OStep; rw [hg]; exact .inr ⟨hq0, rfl⟩) h2, h3, h4⟩
          | cons _ _ => exact h.elim
        | _ => rw [hq] at h; exact h.elim
theorem runS_sound {os : Array Oper} {l : List EOp} {st' : St} (hr : RunS P l st st') {Q : Exit → Act → World → Prop} : ∀ (i k : Nat), i + k = os.size → l.length ≤ k →
    (∀ j eo, l[j]? = some eo → Here P inl once nt os (i + j) eo) → ∀ (a : Act) (w : World) (M : Mut) (β : Loc), SR cx w0 N nt st a w M β →
    (∀ a' w' M' β', SR cx w0 N nt st' a' w' M' β' → wpOps P os Q (List.range' (i + l.length) (k - l.length)) a' w') → wpOps P os Q (List.range' i k) a w := by
  induction hr with
  | nil st => intro i k _ _ _ a w M β h hQ; exact hQ _ _ _ _ h
  | cons eo l st st' δ h1 _ ih =>
    intro i k hi hk hh a w M β h hQ
    refine run_sound (inl := inl) (once := once) (Run.cons eo [] st (st.app δ) δ [] h1 (.nil _)) i k hi (by simp at hk ⊢; omega) (fun j e hj => ?_) a w M β h (fun a' w' M' β' h' => ?_)
    · cases j with
      | zero => simp at hj; subst hj; exact hh 0 eo rfl
      | succ j => simp at hj
    · refine ih (i + 1) (k - 1) (by simp at hk; omega) (by simp at hk; omega) (fun j e hj => by have := hh (j + 1) e (by simpa using hj); rwa [show i + (j + 1) = i + 1 + j by omega] at this) a' w' M' β' h' (fun a' w' M' β' h' => ?_)
      have := hQ a' w' M' β' h'
      simp only [List.length_cons] at this
      rwa [show i + (l.length + 1) = i + 1 + l.length by omega, show k - (l.length + 1) = k - 1 - l.length by omega] at this
  | join B r st δs st1 st' pd v hB hq hv _ ih =>
    intro i k hi hk hh a w M β h hQ
    simp only [List.length_append] at hk hQ
    refine run_sound (inl := inl) (once := once) hB i k hi (by omega) (fun j e hj => hh j e (by rw [List.getElem?_append_left (List.getElem?_eq_some_iff.1 hj).1]; exact hj)) a w M β h (fun a' w' M' β' h' => ?_)
    refine ih (i + B.length) (k - B.length) (by omega) (by omega) (fun j e hj => ?_) a' w' M' β' (stJ_weak hB hq hv h') (fun a' w' M' β' h' => ?_)
    · have := hh (B.length + j) e (by rw [List.getElem?_append_right (by omega)]; simpa using hj)
      rwa [show i + (B.length + j) = i + B.length + j by omega] at this
    · have := hQ a' w' M' β' h'
      rwa [show i + (B.length + r.length) = i + B.length + r.length by omega, show k - (B.length + r.length) = k - B.length - r.length by omega] at this
theorem madeBy_spec : ∀ (l : List EOp) (eo : EOp) (d : Nat), eo ∈ l → eo.k.makes = true → eo.dst = some d → d ∈ madeBy l := by
  intro l
  induction l with
  | nil => intro eo d h; cases h
  | cons e l ih =>
    intro eo d hm hk hd
    simp only [madeBy]
    rcases List.mem_cons.1 hm with e1 | e1
    · subst e1; rw [hk, hd]; simp
    · have := ih eo d e1 hk hd
      cases h1 : e.k.makes <;> cases h2 : e.dst <;> simp only [h1, h2] <;> first | exact this | exact List.mem_cons_of_mem _ this
theorem inPairs_spec {a b : Nat} : ∀ {ap : List (Nat × Nat)}, inPairs a b ap = true → ∃ c d, (c, d) ∈ ap ∧ ((a = c ∧ b = d) ∨ (a = d ∧ b = c))
  | [], h => by simp [inPairs] at h
  | (c, d) :: r, h => by
    simp only [inPairs, Bool.or_eq_true, Bool.and_eq_true] at h
    rcases h with (h | h) | h
    · exact ⟨c, d, by simp, .inl ⟨nat_beq h.1, nat_beq h.2⟩⟩
    · exact ⟨c, d, by simp, .inr ⟨nat_beq h.1, nat_beq h.2⟩⟩
    · obtain ⟨c', d', h1, h2⟩ := inPairs_spec h
      exact ⟨c', d', List.mem_cons_of_mem _ h1, h2⟩
theorem inPairs_symm (a b : Nat) : ∀ (ap : List (Nat × Nat)), inPairs a b ap = inPairs b a ap
  | [] => rfl
  | (c, d) :: r => by
    simp only [inPairs, inPairs_symm a b r]
    cases Nat.beq a c <;> cases Nat.beq b d <;> cases Nat.beq a d <;> cases Nat.beq b c <;> rfl
theorem freed_symm (ap : List (Nat × Nat)) (x y : EOp) : freed ap x y = freed ap y x := by
  unfold freed
  cases x.k.addr <;> cases y.k.addr <;> simp [inPairs_symm]
theorem apartOK_spec : ∀ {ap : List (Nat × Nat)}, apartOK st ap = true → ∀ a b, (a, b) ∈ ap → ∃ d o d' o', st.get a = .loc d o ∧ st.get b = .loc d' o' ∧ d ≠ d'
  | [], _, _, _, h => by cases h
  | (c, e) :: r, h, a, b, hm => by
    simp only [apartOK] at h
    split at h
    · rename_i d o d' o' h1 h2
      cases hb : Nat.beq d d' with
      | true => rw [hb] at h; cases h
      | false =>
        rw [hb] at h
        rcases List.mem_cons.1 hm with e' | e'
        · injection e' with e1 e2
          subst e1; subst e2
          exact ⟨d, o, d', o', h1, h2, fun e => by subst e; simp at hb⟩
        · exact apartOK_spec h a b e'
    · cases h
theorem unwritten_spec {a : Nat} : ∀ {l : List EOp}, unwritten a l = true → ∀ e ∈ l, a ∉ e.writes
  | [], _, _, h => by cases h
  | x :: r, h, e, hm => by
    simp only [unwritten] at h
    cases hn : notIn a x.writes with
    | false => rw [hn] at h; cases h
    | true =>
      rw [hn] at h
      rcases List.mem_cons.1 hm with e' | e'
      · subst e'; exact (notIn_iff _ _).1 hn
      · exact unwritten_spec h e e'
theorem apUnwritten_spec {l : List EOp} : ∀ {ap : List (Nat × Nat)}, apUnwritten l ap = true → ∀ a b, (a, b) ∈ ap → unwritten a l = true ∧ unwritten b l = true
  | [], _, _, _, h => by cases h
  | (c, e) :: r, h, a, b, hm => by
    simp only [apUnwritten, Bool.and_eq_true] at h
    rcases List.mem_cons.1 hm with e' | e'
    · injection e' with e1 e2
      subst e1; subst e2
      exact h.1
    · exact apUnwritten_spec h.2 a b e'
theorem stM_base : ∀ (δs : List Delta) (m : Nat → Bool) (st : St), (stM δs m st).base = st.base := by
  intro δs
  induction δs with
  | nil => intro m st; rfl
  | cons δ r ih =>
    intro m st
    simp only [stM]
    rw [ih]
    cases m 0 <;> rfl
theorem At_loc {d o b : Nat} (h : At (.loc d o) b) : d = b := by
  rcases h with ⟨off, h⟩ | ⟨sz, i, off, h⟩
  · injection h
  · cases h
theorem draw_sound {ap : List (Nat × Nat)} (hap : apartOK st ap = true) {os : Array Oper} {l : List EOp} {δs : List Delta} {st' : St} (hr : Run P ((madeBy l).map (st.base + ·)) l st δs st') (hco : cOps P inl once os os.toList = some l) (hds : dstsOK nt l = true)
    (hok0 : drawOK ap os.toList l = true) {Q : Exit → Act → World → Prop} (hQ : ∀ a' w' M' β', SR cx w0 N nt st' a' w' M' β' → Q .normal a' w') :
    ∀ (fuel : Nat) (listed : Array Bool), listed.size = os.size → ((List.range os.size).filter fun i => !listed.getD i false).length = fuel →
      (∀ (j : Nat) (o : Oper), os[j]? = some o → listed.getD j false = true → ∀ e ∈ edgesOf o, listed.getD e false = true) →
      ∀ (a : Act) (w : World) (M : Mut) (β : Loc), SR cx w0 N nt (stM δs (maskL listed) st) a w M β → wpAny P .any os Q fuel listed a w := by
  simp only [drawOK, Bool.and_eq_true] at hok0
  obtain ⟨hau, hok⟩ := hok0
  obtain ⟨hlen, hsp⟩ := cOps_spec _ _ hco
  have hlen' : δs.length = os.size := by rw [hr.length, hlen]; simp
  have hll : l.length = os.size := by rw [hlen]; simp
  have hpair : ∀ i j, i < j → j < os.size → ∀ x y, l[i]? = some x → l[j]? = some y → clash ap (freshOp l i) x (freshOp l j) y = true → Reach os.toList j i := by
    intro i j hij hj x y hx hy hc
    have h1 := below_spec hok j (by simpa using hj)
    simp only [Bool.and_eq_true] at h1
    have h2 := below_spec h1.1 i hij
    simp only [pairOK, hx, hy, hc] at h2
    exact ancs_spec os.toList os.toList [] (fun k o hk => by simpa using hk) (fun j i hb => by simp at hb) j i h2
  have hedge : ∀ j (o : Oper), os[j]? = some o → ∀ e ∈ edgesOf o, e < j := by
    intro j o ho e he
    have hj : j < os.size := (Array.getElem?_eq_some_iff.1 ho).1
    have h1 := below_spec hok j (by simpa using hj)
    simp only [Bool.and_eq_true] at h1
    have h2 := h1.2
    rw [show os.toList[j]? = some o by simpa using ho] at h2
    exact edgesBelow_spec j _ h2 e he
  intro fuel
  induction fuel with
  | zero =>
    intro listed hs hc hcl a w M β h
    have hall : ∀ i, i < os.size → listed.getD i false = true := by
      intro i hi
      have h0 := List.eq_nil_of_length_eq_zero hc
      cases hb : listed.getD i false with
      | true => rfl
      | false =>
        have : i ∈ (List.range os.size).filter fun i => !listed.getD i false := List.mem_filter.2 ⟨by simpa using hi, by simp [hb]⟩
        rw [h0] at this; cases this
    have e : stM δs (maskL listed) st = st' := by
      rw [hr.last]
      exact stM_congr _ _ _ _ (fun j hj => hall j (by omega))
    rw [e] at h
    refine ⟨?_, hQ _ _ _ _ h⟩
    apply List.eq_nil_iff_forall_not_mem.2
    intro i hi
    obtain ⟨h1, o, ho, _⟩ := mem_ready.1 hi
    have hio : i < os.size := (Array.getElem?_eq_some_iff.1 ho).1
    have := hall i hio
    rw [Array.getD_eq_getD_getElem?] at this h1
    rw [Array.getElem?_eq_getElem (by omega)] at this h1
    simp at this h1
    rw [this] at h1; cases h1
  | succ fuel ih =>
    intro listed hs hc hcl a w M β h
    refine ⟨fun hn => ?_, fun i hi => ?_⟩
    · -- something is always ready
      exfalso
      have hex : ∃ i, i < os.size ∧ listed.getD i false = false := by
        have hne : ((List.range os.size).filter fun i => !listed.getD i false) ≠ [] := by intro e; rw [e] at hc; simp at hc
        obtain ⟨i, hi⟩ := List.exists_mem_of_ne_nil _ hne
        obtain ⟨h1, h2⟩ := List.mem_filter.1 hi
        exact ⟨i, by simpa using h1, by simpa using h2⟩
      have least : ∀ n, (∃ i, i < n ∧ i < os.size ∧ listed.getD i false = false) → ∃ i, i < os.size ∧ listed.getD i false = false ∧ ∀ j, j < i → listed.getD j false = true := by
        intro n
        induction n with
        | zero => rintro ⟨i, h1, _⟩; omega
        | succ n ihn =>
          rintro ⟨i, h1, h2, h3⟩
          by_cases hl : ∃ j, j < n ∧ j < os.size ∧ listed.getD j false = false
          · exact ihn hl
          · refine ⟨i, h2, h3, fun j hj => ?_⟩
            cases hb : listed.getD j false with
            | true => rfl
            | false => exact absurd ⟨j, by omega, by omega, hb⟩ hl
      obtain ⟨i0, hi0, hi0'⟩ := hex
      obtain ⟨i, h1, h2, h3⟩ := least os.size ⟨i0, hi0, hi0, hi0'⟩
      have ho : os[i]? = some os[i] := Array.getElem?_eq_getElem h1
      have : i ∈ Region.ready .any os listed := mem_ready.2 ⟨by
        rw [Array.getD_eq_getD_getElem?] at h2 ⊢
        rw [Array.getElem?_eq_getElem (by omega)] at h2 ⊢
        simpa using h2, _, ho, fun e he hb => h3 _ (hedge i _ ho _ (mem_edgesOf he hb))⟩
      rw [hn] at this; cases this
    · obtain ⟨h1, o, ho, hall⟩ := mem_ready.1 hi
      have hio : i < os.size := (Array.getElem?_eq_some_iff.1 ho).1
      have hun : listed.getD i false = false := by
        rw [Array.getD_eq_getD_getElem?] at h1 ⊢
        rw [Array.getElem?_eq_getElem (by omega)] at h1 ⊢
        simpa using h1
      have hdep : ∀ e ∈ edgesOf o, listed.getD e false = true := fun e he => by
        obtain ⟨ed, q1, q2, rfl⟩ := edgesOf_mem he
        exact hall ed q1 q2
      -- what must come before has come before
      have reach : ∀ j k, Reach os.toList j k → listed.getD j false = true → listed.getD k false = true := by
        intro j k hrk
        induction hrk with
        | one j o i ho hi => intro hj; exact hcl j o (by simpa using ho) hj i hi
        | more j o e i ho he _ ih2 => intro hj; exact ih2 (hcl j o (by simpa using ho) hj e he)
      have reachI : ∀ k, Reach os.toList i k → listed.getD k false = true := by
        intro k hrk
        cases hrk with
        | one _ o' _ ho' hi' =>
          have : o' = o := by rw [show os.toList[i]? = some o by simpa using ho] at ho'; injection ho' with ho'; exact ho'.symm
          subst this; exact hdep k hi'
        | more _ o' e _ ho' he' hr' =>
          have : o' = o := by rw [show os.toList[i]? = some o by simpa using ho] at ho'; injection ho' with ho'; exact ho'.symm
          subst this; exact reach e k hr' (hdep e he')
      obtain ⟨eo, g1, g2, g3, g4⟩ := hsp i o (by simpa using ho)
      have hd : δs[i]? = some (δs[i]'(by omega)) := List.getElem?_eq_getElem (by omega)
      have hos := hr.at i eo _ g1 hd
      have foot : ∀ (j : Nat) (δ : Delta), δs[j]? = some δ → ∃ ej : EOp, l[j]? = some ej ∧ (∀ s ∈ δ.s.map Prod.fst, s ∈ ej.writes) ∧ (∀ b ∈ δ.o.map Prod.fst, Foot ej.k ej.dst (stM δs (fun i => decide (i < j)) st) b) := by
        intro j δ hj
        have hjl : j < l.length := by have := (List.getElem?_eq_some_iff.1 hj).1; omega
        have hej : l[j]? = some (l[j]) := List.getElem?_eq_getElem hjl
        exact ⟨_, hej, ostep_foot (hr.at j _ δ hej hj)⟩
      -- the masks agree on whatever clashes with i
      have same : ∀ (j : Nat) (ej : EOp), l[j]? = some ej → (clash ap (freshOp l j) ej (freshOp l i) eo = true ∨ clash ap (freshOp l i) eo (freshOp l j) ej = true) → (j = i → False) → (decide (j < i)) = maskL listed j := by
        intro j ej hej hcl' hne
        have hj : j < os.size := by have := (List.getElem?_eq_some_iff.1 hej).1; omega
        have hsym : clash ap (freshOp l j) ej (freshOp l i) eo = true ∧ clash ap (freshOp l i) eo (freshOp l j) ej = true := by
          have e : clash ap (freshOp l j) ej (freshOp l i) eo = clash ap (freshOp l i) eo (freshOp l j) ej := by
            have m : ∀ a b, meets a b = meets b a := fun a b => by
              rw [Bool.eq_iff_iff, meets_iff, meets_iff]
              exact ⟨fun ⟨s, x, y⟩ => ⟨s, y, x⟩, fun ⟨s, x, y⟩ => ⟨s, y, x⟩⟩
            simp only [clash]
            rw [m ej.writes eo.reads, m ej.writes eo.writes, m ej.reads eo.writes, freed_symm ap ej eo, calm_symm (freshOp l j) (freshOp l i)]
            cases calm (freshOp l i) eo.k (freshOp l j) ej.k <;> cases meets eo.reads ej.writes <;> cases meets eo.writes ej.writes <;> cases meets eo.writes ej.reads <;> cases ej.k.isStore <;> cases eo.k.heapy <;> cases ej.k.heapy <;> cases eo.k.isStore <;> cases freed ap eo ej <;> rfl
          rcases hcl' with h | h
          · exact ⟨h, by rw [← e]; exact h⟩
          · exact ⟨by rw [e]; exact h, h⟩
        by_cases hlt : j < i
        · have := reachI j (hpair j i hlt hio _ _ hej g1 hsym.1)
          simp only [hlt, decide_true, maskL]; exact this.symm
        · have hne' : j ≠ i := hne
          have hlt' : i < j := by omega
          have hR := hpair i j hlt' hj _ _ g1 hej hsym.2
          have : maskL listed j = false := by
            cases hb : maskL listed j with
            | false => rfl
            | true => have := reach j i hR hb; rw [hun] at this; cases this
          simp only [hlt, decide_false]; exact this.symm
      have atI : (decide (i < i)) = maskL listed i := by simp only [Nat.lt_irrefl, decide_false, maskL]; exact hun.symm
      have clashW : ∀ (j : Nat) (ej : EOp) (s : Nat), s ∈ ej.writes → s ∈ eo.reads → clash ap (freshOp l j) ej (freshOp l i) eo = true := fun j ej s h1 h2 => by
        cases hc' : clash ap (freshOp l j) ej (freshOp l i) eo with
        | true => rfl
        | false => exact absurd h2 ((clash_slots hc').1 s h1)
      have hget : ∀ s, s ∈ eo.reads → (stM δs (maskL listed) st).get s = (stM δs (fun j => decide (j < i)) st).get s := by
        intro s hs
        refine stM_get _ _ _ _ _ s rfl (fun j δ hj hsj => ?_)
        obtain ⟨ej, hej, f1, _⟩ := foot j δ hj
        by_cases e : j = i
        · subst e; exact atI.symm
        · exact (same j ej hej (.inl (clashW j ej s (f1 s hsj) hs)) e).symm
      have hopd : ∀ x ∈ eo.k.opds, (stM δs (maskL listed) st).opd x = (stM δs (fun j => decide (j < i)) st).opd x := by
        intro x hx
        cases x with
        | tmp t => exact hget t (opd_reads hx rfl)
        | _ => rfl
      -- pairs of variables that are known to differ
      have noFreed2 : ∀ (i : Nat) (eo : EOp) (j : Nat) (ej : EOp) (b : Nat), l[i]? = some eo → l[j]? = some ej → freed ap ej eo = true → (∀ a, ej.k.addr = some a → At ((stM δs (fun i => decide (i < j)) st).get a) b) →
          (∀ a, eo.k.addr = some a → At ((stM δs (fun j => decide (j < i)) st).get a) b) → False := by
        intro i eo j ej b _ hej hf h1 h2
        unfold freed at hf
        cases ha1 : ej.k.addr with
        | none => rw [ha1] at hf; cases hf
        | some a1 =>
          cases ha2 : eo.k.addr with
          | none => rw [ha1, ha2] at hf; cases hf
          | some a2 =>
            rw [ha1, ha2] at hf
            obtain ⟨c, d, hm, hcd⟩ := inPairs_spec hf
            obtain ⟨d1, o1, d2, o2, e1, e2, hne⟩ := apartOK_spec hap c d hm
            obtain ⟨u1, u2⟩ := apUnwritten_spec hau c d hm
            have keepS : ∀ (m : Nat → Bool) (s : Nat), unwritten s l = true → (stM δs m st).get s = st.get s := by
              intro m s hu
              have : (stM δs m st).get s = (stM δs (fun _ => false) st).get s := stM_get _ _ _ _ _ s rfl (fun k δ hk hs => by
                obtain ⟨ek, hek, f1, _⟩ := foot k δ hk
                exact absurd (f1 s hs) (unwritten_spec hu ek (List.mem_of_getElem? hek)))
              rw [this, stM_none _ _ _ (fun _ _ => rfl)]
            have q1 := h1 a1 ha1
            have q2 := h2 a2 ha2
            rcases hcd with ⟨rfl, rfl⟩ | ⟨rfl, rfl⟩
            · rw [keepS _ _ u1, e1] at q1
              rw [keepS _ _ u2, e2] at q2
              exact hne ((At_loc q1).trans (At_loc q2).symm)
            · rw [keepS _ _ u2, e2] at q1
              rw [keepS _ _ u1, e1] at q2
              exact hne ((At_loc q2).trans (At_loc q1).symm)
      have noFreed : ∀ (j : Nat) (ej : EOp) (b : Nat), l[j]? = some ej → freed ap ej eo = true → (∀ a, ej.k.addr = some a → At ((stM δs (fun i => decide (i < j)) st).get a) b) →
          (∀ a, eo.k.addr = some a → At ((stM δs (fun j => decide (j < i)) st).get a) b) → False := fun j ej b => noFreed2 i eo j ej b g1
      have hvob : eo.k.isLoad = true → ∀ b, notIn b ((madeBy l).map (st.base + ·)) = true → (∀ a, eo.k.addr = some a → At ((stM δs (fun j => decide (j < i)) st).get a) b) → (stM δs (maskL listed) st).vobj b = (stM δs (fun j => decide (j < i)) st).vobj b := by
        intro hl b hb hta
        -- what touches this variable stores into it, or takes ownership from it
        have touch : ∀ (j : Nat) (δ : Delta), δs[j]? = some δ → b ∈ δ.o.map Prod.fst → ∃ ej, l[j]? = some ej ∧ ej.k.isStore = true ∧ ∀ a, ej.k.addr = some a → At ((stM δs (fun i => decide (i < j)) st).get a) b := by
          intro j δ hj hbj
          obtain ⟨ej, hej, _, f2⟩ := foot j δ hj
          rcases f2 b hbj with f | ⟨f, fs, fd, fb⟩
          · exact ⟨ej, hej, f⟩
          · exfalso
            rw [notIn_iff] at hb
            rw [stM_base] at fb
            exact hb (List.mem_map.2 ⟨fs, madeBy_spec l ej fs (List.mem_of_getElem? hej) f fd, fb.symm⟩)
        -- a store into a fresh variable does not touch it
        have nofresh : ∀ (j : Nat) (δ : Delta), δs[j]? = some δ → b ∈ δ.o.map Prod.fst → freshOp l j = false := by
          intro j δ hj hbj
          obtain ⟨ej, hej, hst, hat⟩ := touch j δ hj hbj
          cases hf : freshOp l j with
          | false => rfl
          | true =>
            exfalso
            unfold freshOp at hf
            rw [hej] at hf
            simp only [Bool.and_eq_true] at hf
            obtain ⟨_, hf⟩ := hf
            cases ha : ej.k.addr with
            | none => rw [ha] at hf; cases hf
            | some a =>
              rw [ha] at hf
              simp only [Bool.not_eq_true'] at hf
              obtain ⟨k, hk, hkk⟩ := below_false hf
              simp only [Bool.not_eq_false'] at hkk
              have hkl : k < l.length := by have := (List.getElem?_eq_some_iff.1 hej).1; omega
              have hek : l[k]? = some l[k] := List.getElem?_eq_getElem hkl
              rw [hek] at hkk
              simp only [Bool.and_eq_true] at hkk
              obtain ⟨m1, m2⟩ := hkk
              have hdk : δs[k]? = some (δs[k]'(by omega)) := List.getElem?_eq_getElem (by omega)
              obtain ⟨n1, n2⟩ := ostep_mk (hr.at k _ _ hek hdk) m1
              rw [stM_base] at n2
              have hg := stM_get1 δs (fun i => decide (i < j)) st k _ a hdk (decide_eq_true hk) n1 (fun j' δ' hne hδ' hin => by
                obtain ⟨e', he', f1, _⟩ := foot j' δ' hδ'
                have := below_spec m2 j' ((List.getElem?_eq_some_iff.1 he').1)
                rw [he'] at this
                simp only [Bool.or_eq_true] at this
                rcases this with h1 | h1
                · exact hne (nat_beq h1)
                · rw [notIn_iff] at h1; exact h1 (f1 a hin))
              have := hat a ha
              rw [hg, n2] at this
              have hbb := At_loc this
              rw [notIn_iff] at hb
              refine hb (List.mem_map.2 ⟨a, madeBy_spec l l[k] a (List.getElem_mem hkl) ?_ ?_, hbb⟩)
              · cases hq : l[k].k <;> simp only [EOp.mkAt, hq] at m1 <;> first | rfl | cases m1
              · unfold EOp.mkAt at m1
                split at m1
                · rename_i hd; rw [hd, nat_beq m1]
                · rename_i hd; rw [hd, nat_beq m1]
                · cases m1
        let T : Nat → Bool := fun j => match l[j]? with | some e => e.k.isTake | none => false
        have hT : ∀ (k : Nat) (δ : Delta), T k = true → δs[k]? = some δ → b ∈ δ.o.map Prod.fst → (look [] δ.o b).map PV.view = (stM δs (fun j => decide (j < k)) st).vobj b := by
          intro k δ hk hδ hbk
          obtain ⟨ek, hek, _, _⟩ := foot k δ hδ
          have hk' : ek.k.isTake = true := by simp only [T, hek] at hk; exact hk
          exact ostep_take (hr.at k ek δ hek hδ) hk' b hbk
        have bound : ∀ (m : Nat → Bool) (k : Nat), m k = true → (δs[k]?).isSome = true → k < δs.length := by
          intro m k _ h
          cases hq : δs[k]? with
          | none => rw [hq] at h; cases h
          | some _ => exact (List.getElem?_eq_some_iff.1 hq).1
        have c1 := stM_quiet T hT δs.length (maskL listed) (bound _) (fun k j δ δ' hTk hmk hδ hbk hTj hδ' hbj hjk => by
          obtain ⟨ek, hek, hsk, hak⟩ := touch k δ hδ hbk
          obtain ⟨ej, hej, hsj, haj⟩ := touch j δ' hδ' hbj
          have hks : k < os.size := by have := (List.getElem?_eq_some_iff.1 hek).1; omega
          cases hc' : clash ap (freshOp l j) ej (freshOp l k) ek with
          | true => exact reach k j (hpair j k hjk hks _ _ hej hek hc') hmk
          | false =>
            exfalso
            obtain ⟨_, _, _, q1, _⟩ := clash_slots hc'
            have hfr := freed_of (q1 hsj (store_heapy hsk)) (store_noload hsj) (store_noload hsk)
            exact noFreed2 k ek j ej b hek hej hfr haj hak)
        have c2 := stM_quiet T hT δs.length (fun j => decide (j < i)) (bound _) (fun k j δ δ' hTk hmk hδ hbk hTj hδ' hbj hjk => by
          have := of_decide_eq_true hmk
          exact decide_eq_true (by omega))
        rw [c1, c2]
        unfold St.vobj
        rw [stM_obj δs (fun j => maskL listed j && !T j) (fun j => decide (j < i) && !T j) st st b rfl (fun j δ hj hbj => ?_)]
        cases hTj : T j with
        | true => simp
        | false =>
          simp only [Bool.not_false, Bool.and_true]
          obtain ⟨ej, hej, hsj, haj⟩ := touch j δ hj hbj
          by_cases e : j = i
          · subst e; exact atI.symm
          · refine (same j ej hej ?_ e).symm
            cases hc' : clash ap (freshOp l j) ej (freshOp l i) eo with
            | true => exact .inl rfl
            | false =>
              exfalso
              obtain ⟨_, _, _, q1, _⟩ := clash_slots hc'
              have hh : eo.k.heapy = true := by cases hk : eo.k <;> rw [hk] at hl <;> first | rfl | cases hl
              rcases q1 hsj hh with hq | hq
              · exact noFreed j ej b hej hq haj hta
              · have hnf := nofresh j δ hj hbj
                have hnt : ej.k.isTake = false := by simp only [T, hej] at hTj; exact hTj
                have hnl := store_noload hsj
                rw [hnf] at hq
                simp [calm, hnt, hnl] at hq
      have hobj : eo.k.heapy = true → eo.k.isLoad = false → ∀ b, (eo.k.isStore = true ∨ notIn b ((madeBy l).map (st.base + ·)) = true) → (∀ a, eo.k.addr = some a → At ((stM δs (fun j => decide (j < i)) st).get a) b) → (stM δs (maskL listed) st).obj b = (stM δs (fun j => decide (j < i)) st).obj b := by
        intro hh hnl b hb hta
        refine stM_obj _ _ _ _ _ b rfl (fun j δ hj hbj => ?_)
        obtain ⟨ej, hej, _, f2⟩ := foot j δ hj
        by_cases e : j = i
        · subst e; exact atI.symm
        · refine (same j ej hej ?_ e).symm
          cases hc' : clash ap (freshOp l j) ej (freshOp l i) eo with
          | true => exact .inl rfl
          | false =>
            exfalso
            obtain ⟨_, _, _, q1, q2⟩ := clash_slots hc'
            rcases f2 b hbj with f | ⟨f, fs, fd, fb⟩
            · exact noFreed j ej b hej (freed_of (q1 f.1 hh) (store_noload f.1) hnl) f.2 hta
            · rcases hb with hb | hb
              · have := freed_of (q2 (makes_heapy f) hb) (makes_noload f) hnl
                unfold freed at this
                have hn : ej.k.addr = none := by cases hk : ej.k <;> rw [hk] at f <;> first | rfl | cases f
                rw [hn] at this; cases this
              · rw [notIn_iff] at hb
                rw [stM_base] at fb
                exact hb (List.mem_map.2 ⟨fs, madeBy_spec l ej fs (List.mem_of_getElem? hej) f fd, fb.symm⟩)
      have hkey : eo.k.makes = true → ∀ s, eo.dst = some s → notIn ((stM δs (fun j => decide (j < i)) st).base + s) ((stM δs (fun j => decide (j < i)) st).ob.map Prod.fst) = true → notIn ((stM δs (fun j => decide (j < i)) st).base + s) ((stM δs (maskL listed) st).ob.map Prod.fst) = true := by
        intro hk s hs hn
        rw [stM_base] at hn ⊢
        rw [stM_key δs (maskL listed) (fun j => decide (j < i)) st st (st.base + s) rfl (fun j δ hj hbj => ?_)]
        · exact hn
        · obtain ⟨ej, hej, _, f2⟩ := foot j δ hj
          by_cases e : j = i
          · subst e; exact atI.symm
          · refine (same j ej hej ?_ e).symm
            cases hc' : clash ap (freshOp l j) ej (freshOp l i) eo with
            | true => exact .inl rfl
            | false =>
              exfalso
              obtain ⟨_, w2, _, q1, q2⟩ := clash_slots hc'
              rcases f2 (st.base + s) hbj with f | ⟨f, fs, fd, fb⟩
              · have := freed_of (q1 f.1 (makes_heapy hk)) (store_noload f.1) (makes_noload hk)
                unfold freed at this
                have hn : eo.k.addr = none := by cases hk' : eo.k <;> rw [hk'] at hk <;> first | rfl | cases hk
                rw [hn] at this
                cases hz : ej.k.addr <;> rw [hz] at this <;> cases this
              · rw [stM_base] at fb
                have e' : s = fs := by omega
                refine w2 s ?_ ?_
                · simp [EOp.writes, fd, e']
                · simp [EOp.writes, hs]
      have hwild : eo.k.wild = true → (∀ b, (stM δs (maskL listed) st).obj b = (stM δs (fun j => decide (j < i)) st).obj b) ∧ ∀ b, notIn b ((stM δs (maskL listed) st).ob.map Prod.fst) = notIn b ((stM δs (fun j => decide (j < i)) st).ob.map Prod.fst) := by
        intro hw
        have hst : eo.k.isStore = true := by cases hk : eo.k <;> rw [hk] at hw <;> first | rfl | cases hw
        have had : eo.k.addr = none := by cases hk : eo.k <;> rw [hk] at hw <;> first | rfl | cases hw
        have cl : ∀ (j : Nat) (δ : Delta) (b : Nat), δs[j]? = some δ → b ∈ δ.o.map Prod.fst → maskL listed j = decide (j < i) := by
          intro j δ b hj hbj
          obtain ⟨ej, hej, _, f2⟩ := foot j δ hj
          by_cases e : j = i
          · subst e; exact atI.symm
          · refine (same j ej hej ?_ e).symm
            cases hc' : clash ap (freshOp l j) ej (freshOp l i) eo with
            | true => exact .inl rfl
            | false =>
              exfalso
              obtain ⟨_, _, _, q1, q2⟩ := clash_slots hc'
              have hh : ej.k.heapy = true ∧ ej.k.isLoad = false := by
                rcases f2 b hbj with f | ⟨f, _⟩
                · exact ⟨store_heapy f.1, store_noload f.1⟩
                · exact ⟨makes_heapy f, makes_noload f⟩
              have := freed_of (q2 hh.1 hst) hh.2 (wild_noload hw)
              unfold freed at this
              rw [had] at this
              cases hz : ej.k.addr <;> rw [hz] at this <;> cases this
        exact ⟨fun b => stM_obj _ _ _ _ _ b rfl (fun j δ hj hbj => cl j δ b hj hbj), fun b => stM_key _ _ _ _ _ b rfl (fun j δ hj hbj => cl j δ b hj hbj)⟩
      have hos' : OStep P ((madeBy l).map (st.base + ·)) eo (stM δs (maskL listed) st) (δs[i]'(by omega)) := by
        have hA : Agree ((madeBy l).map (st.base + ·)) eo.k eo.dst (stM δs (fun j => decide (j < i)) st) (stM δs (maskL listed) st) := ⟨hopd, hobj, hvob, hkey, cOp_sel g2, by rw [stM_base, stM_base], hwild⟩
        unfold OStep at hos ⊢
        cases hg : eo.g with
        | none => rw [hg] at hos; exact step_agree hA hos
        | some sw =>
          obtain ⟨s, want⟩ := sw
          rw [hg] at hos
          rcases hos with ⟨t, q1, q2, q3⟩ | ⟨q1, q3⟩
          · exact .inl ⟨t, by rw [hget s (by simp [EOp.reads, hg])]; exact q1, fun e => step_agree hA (q2 e), q3⟩
          · exact .inr ⟨by rw [hget s (by simp [EOp.reads, hg])]; exact q1, q3⟩
      have hdst : ∀ x, o.dst = some x → x < nt := fun x hx => dstsOK_spec l hds eo (List.mem_of_getElem? g1) x (by rw [g3]; exact hx)
      have hset : ∀ j, (listed.setIfInBounds i true).getD j false = if j = i then true else listed.getD j false := by
        intro j
        rw [Array.getD_eq_getD_getElem?, Array.getD_eq_getD_getElem?, Array.getElem?_setIfInBounds]
        by_cases e : i = j
        · subst e; simp [hs, hio]
        · rw [if_neg e, if_neg (fun e' => e e'.symm)]
      have key := ostep_sound (os := os) (K := wpAny P .any os Q fuel (listed.setIfInBounds i true)) (Q := Q) h hos' g2 g3 g4 hdst (fun a' w' M' β' h' => by
        refine ih _ (by simp [hs]) ?_ ?_ a' w' M' β' (h'.equiv ?_)
        · have hmem : i ∈ List.range os.size := by simpa using hio
          have e1 : ((List.range os.size).filter fun j => !(listed.setIfInBounds i true).getD j false) = ((List.range os.size).filter fun j => !listed.getD j false).filter fun j => decide (j ≠ i) := by
            rw [List.filter_filter]
            apply List.filter_congr
            intro j _
            rw [hset]
            by_cases e : j = i
            · simp [e]
            · simp [e]
          rw [e1]
          have e2 : ((List.range os.size).filter fun j => !listed.getD j false).filter (fun j => decide (j ≠ i)) = ((List.range os.size).filter fun j => !listed.getD j false).erase i := by
            rw [List.Nodup.erase_eq_filter (List.Pairwise.filter _ List.nodup_range)]
            apply List.filter_congr
            intro j _
            by_cases e : j = i <;> simp [e]
          rw [e2, List.length_erase_of_mem (List.mem_filter.2 ⟨hmem, by simp [hun]⟩), hc]; rfl
        · intro j oj hoj hj e he
          rw [hset] at hj ⊢
          by_cases e1 : e = i
          · rw [if_pos e1]
          · rw [if_neg e1]
            by_cases e2 : j = i
            · subst e2
              rw [ho] at hoj; injection hoj with hoj; subst hoj
              exact hdep e he
            · rw [if_neg e2] at hj
              exact hcl j oj hoj hj e he
        · have := stM_push δs (maskL listed) i st _ hd hun (fun j δ' hj hm hδ' => by
            obtain ⟨ej, hej, f1, f2⟩ := foot j δ' hδ'
            obtain ⟨ei, hei, f3, f4⟩ := foot i _ hd
            have : ei = eo := by rw [g1] at hei; injection hei with hei; exact hei.symm
            subst this
            have hjs : j < os.size := by have := (List.getElem?_eq_some_iff.1 hej).1; omega
            have nc : clash ap (freshOp l i) ei (freshOp l j) ej = false := by
              cases hc' : clash ap (freshOp l i) ei (freshOp l j) ej with
              | false => rfl
              | true =>
                have := reach j i (hpair i j hj hjs _ _ g1 hej hc') hm
                rw [hun] at this; cases this
            obtain ⟨_, w2, _, q1, q2⟩ := clash_slots nc
            refine ⟨fun s hs' => fun hs2 => w2 s (f3 s hs') (f1 s hs2), fun b hb hb2 => ?_⟩
            rcases f4 b hb with f | ⟨f, fs, fd, fb⟩
            · rcases f2 b hb2 with f' | ⟨f', fs', fd', fb'⟩
              · have := freed_of (q1 f.1 (store_heapy f'.1)) (store_noload f.1) (store_noload f'.1)
                rw [freed_symm] at this
                exact noFreed j ej b hej this f'.2 f.2
              · have := freed_of (q1 f.1 (makes_heapy f')) (store_noload f.1) (makes_noload f')
                unfold freed at this
                have hn : ej.k.addr = none := by cases hk : ej.k <;> rw [hk] at f' <;> first | rfl | cases f'
                rw [hn] at this
                cases hz : ei.k.addr <;> rw [hz] at this <;> cases this
            · rcases f2 b hb2 with f' | ⟨f', fs', fd', fb'⟩
              · have := freed_of (q2 (makes_heapy f) f'.1) (makes_noload f) (store_noload f'.1)
                unfold freed at this
                have hn : ei.k.addr = none := by cases hk : ei.k <;> rw [hk] at f <;> first | rfl | cases f
                rw [hn] at this; cases this
              · rw [stM_base] at fb fb'
                have e' : fs' = fs := by omega
                exact w2 fs (by simp [EOp.writes, fd]) (by simp [EOp.writes, fd', e']))
          have e : (fun j => if j = i then true else maskL listed j) = maskL (listed.setIfInBounds i true) := funext fun j => by
            simp only [maskL]; rw [hset]
          rw [e] at this
          exact this.symm)
      unfold wpOp
      simp only [ho]
      by_cases hw : Region.wanted o (yielded os a.tmps) = true
      · rw [if_pos hw] at key ⊢; exact .inl key
      · rw [if_neg hw] at key ⊢; exact key
end
end Go.Proofs.YtonfmpiikdmndaaGreat.Ev
