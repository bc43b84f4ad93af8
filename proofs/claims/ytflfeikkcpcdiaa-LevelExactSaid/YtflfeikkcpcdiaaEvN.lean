/-  Code; functions. -/
import Derived.Test.YtflfeikkcpcdiaaEvM
namespace Go.Proofs.Ytflfeikkcpcdiaa.Ev
open Go Go.RowKit
set_option linter.unusedVariables false
set_option linter.unusedSimpArgs false
set_option linter.unnecessarySimpa false

section
variable {P : Program} {C : Oracle} {w0 w : World} {N M : Mut} {β : Nat → Option Nat} {nt : Nat} {st : St} {a : Act}

theorem look_keys {d : PV} (f : Nat → PV) : ∀ (keys : List Nat) (s : Nat), look d (keys.map fun x => (x, f x)) s = if s ∈ keys then f s else d := by
  intro keys
  induction keys with
  | nil => intro s; simp [look]
  | cons x keys ih =>
    intro s
    rw [List.map_cons, look_one, ih]
    by_cases e : x = s
    · subst e; simp
    · have : ¬ s = x := fun e' => e e'.symm
      simp only [e, if_false, List.mem_cons, this, false_or]

theorem insO_look (d : Nat) (l : List PV) : ∀ (r : List (Nat × List PV)) (x : Nat), look [] (insO d l r) x = if d = x then l else look [] r x
  | [], x => by simp only [insO]; rw [look_one]
  | (b, m) :: r, x => by
    simp only [insO]
    cases h1 : Nat.blt d b with
    | true => simp only []; rw [look_one]
    | false =>
      cases h2 : Nat.beq d b with
      | true =>
        have := nat_beq h2
        subst this
        simp only []
        rw [look_one, look_one]
        by_cases e : d = x
        · rw [if_pos e, if_pos e]
        · rw [if_neg e, if_neg e, if_neg e]
      | false =>
        have hne : ¬ d = b := fun e => by subst e; simp at h2
        simp only []
        rw [look_one, look_one, insO_look d l r x]
        by_cases e : b = x
        · subst e; rw [if_pos rfl, if_neg hne, if_pos rfl]
        · rw [if_neg e, if_neg e]

theorem insO_key (d : Nat) (l : List PV) : ∀ (r : List (Nat × List PV)) (x : Nat), x ∈ (insO d l r).map Prod.fst ↔ x = d ∨ x ∈ r.map Prod.fst
  | [], x => by simp [insO]
  | (b, m) :: r, x => by
    simp only [insO]
    cases h1 : Nat.blt d b with
    | true => simp
    | false =>
      cases h2 : Nat.beq d b with
      | true =>
        have := nat_beq h2
        subst this
        simp
      | false =>
        simp only [List.map_cons, List.mem_cons, insO_key d l r x]
        constructor
        · rintro (h | h | h)
          · exact .inr (.inl h)
          · exact .inl h
          · exact .inr (.inr h)
        · rintro (h | h | h)
          · exact .inr (.inl h)
          · exact .inl h
          · exact .inr (.inr h)

theorem keep_obj (keys dead : List Nat) (st : St) (d : Nat) (hd : notIn d dead = true) : (keep keys dead st).obj d = st.obj d := by
  have : ∀ (l : List (Nat × List PV)), look [] (keepO dead l) d = look [] l d := by
    intro l
    induction l with
    | nil => rfl
    | cons x l ih =>
      obtain ⟨b, c⟩ := x
      rw [look_one]
      simp only [keepO]
      cases hb : notIn b dead with
      | true => simp only []; rw [insO_look, ih]
      | false =>
        simp only []
        rw [ih, if_neg]
        intro e; subst e; rw [hd] at hb; cases hb
  exact this st.ob

theorem keep_key (dead : List Nat) : ∀ (l : List (Nat × List PV)) (d : Nat), notIn d ((keepO dead l).map Prod.fst) = true → notIn d dead = false ∨ notIn d (l.map Prod.fst) = true := by
  intro l
  induction l with
  | nil => intro d _; exact .inr rfl
  | cons x l ih =>
    obtain ⟨b, c⟩ := x
    intro d h
    simp only [keepO] at h
    cases hb : notIn b dead with
    | true =>
      rw [hb] at h
      simp only [List.map_cons] at h ⊢
      rw [notIn_iff, insO_key] at h
      have h1 : d ≠ b := fun e => h (.inl e)
      have h2 : notIn d ((keepO dead l).map Prod.fst) = true := (notIn_iff _ _).2 fun hm => h (.inr hm)
      rcases ih d h2 with g | g
      · exact .inl g
      · exact .inr ((notIn_iff _ _).2 fun hm => by
          rcases List.mem_cons.1 hm with e | e
          · exact h1 e
          · exact (notIn_iff _ _).1 g e)
    | false =>
      rw [hb] at h
      rcases ih d h with g | g
      · exact .inl g
      · by_cases e : d = b
        · subst e; exact .inl hb
        · refine .inr ((notIn_iff _ _).2 fun hm => ?_)
          simp only [List.map_cons] at hm
          rcases List.mem_cons.1 hm with e' | e'
          · exact e e'
          · exact (notIn_iff _ _).1 g e'

theorem SR.keep (h : SR w0 N nt st a w M β) (keys dead : List Nat) : SR w0 N nt (keep keys dead st) a w M (fun d => if notIn d dead then β d else none) := by
  have hg : ∀ s, (Ev.keep keys dead st).get s = if s ∈ keys then (st.get s).clean dead else .any := fun s => look_keys _ _ _
  have hβ : ∀ d b, (if notIn d dead then β d else none) = some b → β d = some b ∧ notIn d dead = true := by
    intro d b hd
    cases hn : notIn d dead with
    | true => rw [hn, if_pos rfl] at hd; exact ⟨hd, rfl⟩
    | false => rw [hn] at hd; simp at hd
  have ht : ∀ s e sz es, (Ev.keep keys dead st).get s = .sl true e sz es → st.get s = .sl true e sz es := by
    intro s e sz es hs
    rw [hg] at hs
    split at hs
    · cases hq : st.get s with
      | loc d off =>
        rw [hq] at hs
        simp only [PV.clean] at hs
        split at hs <;> cases hs
      | _ => rw [hq] at hs; exact hs
    · cases hs
  refine ⟨h.defs, h.nt, h.bel, h.mN, h.mlt, ?_, ?_, ?_, ?_, ?_, ?_, ?_⟩
  · intro d b hd
    obtain ⟨h1, h2⟩ := hβ d b hd
    rw [keep_obj keys dead st d h2]
    exact h.box d b h1
  · intro d d' b hd hd'; exact h.inj d d' b (hβ d b hd).1 (hβ d' b hd').1
  · intro d hd
    rcases keep_key dead st.ob d hd with g | g
    · simp [g]
    · rw [h.dom d g]; simp
  · intro s
    rw [hg]
    split
    · have hr := h.reg s
      cases hq : st.get s with
      | loc d off =>
        rw [hq] at hr
        simp only [PV.clean]
        cases hn : notIn d dead with
        | true =>
          obtain ⟨b, hb, hv⟩ := loc_eq hr
          rw [hv]
          exact .loc d off b (by simp [hn, hb])
        | false => exact .imm _ _ (.any _)
      | any => exact .imm _ _ (.any _)
      | val v => rw [hq] at hr; cases hr with | imm p v h => exact .imm _ _ h
      | agg v => rw [hq] at hr; generalize a.tmps.getD s undef = u at hr ⊢; cases hr with | imm p v h => exact .imm _ _ h
      | tup v => rw [hq] at hr; generalize a.tmps.getD s undef = u at hr ⊢; cases hr with | imm p v h => exact .imm _ _ h
      | sl o e sz es => rw [hq] at hr; generalize a.tmps.getD s undef = u at hr ⊢; cases hr with | imm p v h => exact .imm _ _ h
      | arr e sz m f => rw [hq] at hr; generalize a.tmps.getD s undef = u at hr ⊢; cases hr with | imm p v h => exact .imm _ _ h
      | ref l =>
        rw [hq] at hr
        generalize a.tmps.getD s undef = u at hr ⊢
        cases hr with
        | imm p v h => exact .imm _ _ h
        | ref l ad vs hm hr => exact .ref l ad vs hm hr
    · exact .imm _ _ (.any _)
  · intro s e sz es hs; exact h.tok s e sz es (ht s _ _ _ hs)
  · intro s s' e sz es e' sz' es' g hs hs'; exact h.tokne s s' e sz es e' sz' es' g (ht s _ _ _ hs) (ht s' _ _ _ hs')
  · intro s e sz es g d hs ho hd
    exact h.tokbox s e sz es g d (ht s _ _ _ hs) ho (hβ d g hd).1

def exOf : Ex → Exit
  | .normal => .normal
  | .exit i => .exit i
  | .ret => .ret

theorem evC_sound (hC : SoundC P C) (hm : P.follows .mixedOrders = true) (V : List Nat) (L : Nat) : ∀ (c : Code) (out : Nat) (ec : EC), cCode P nt V out c = some ec →
    ∀ (st : St) (a : Act) (w : World) (M : Mut) (β : Nat → Option Nat) (k : Ex → St → Prop), SR w0 N nt st a w M β → evC P C L ec st k →
    ∀ (Q : Exit → Act → World → Prop), (∀ e st' a' w' M' β', k e st' → SR w0 N nt st' a' w' M' β' → Q (exOf e) a' w') → c.wp P Q a w := by
  intro c
  induction c with
  | skip =>
    intro out ec hc st a w M β k h hk Q hQ
    simp only [cCode, Option.some.injEq] at hc; subst hc
    exact wp_skip (hQ .normal st a w M β hk h)
  | region id os d =>
    intro out ec hc st a w M β k h hk Q hQ
    simp only [cCode] at hc
    cases hco : cOps P os os.toList with
    | none => rw [hco] at hc; cases hc
    | some l =>
      rw [hco] at hc
      simp only at hc
      cases hds : dstsOK nt l with
      | false => rw [hds] at hc; cases hc
      | true =>
        rw [hds] at hc
        have hsel : ∀ eo ∈ l, ∀ o', eo.k = .scal o' → ∀ cs b, o'.op ≠ .select cs b := by
          intro eo hm o' hk'
          obtain ⟨i, hi, rfl⟩ := List.getElem_of_mem hm
          obtain ⟨e1, e2⟩ := cOps_spec _ _ hco
          obtain ⟨eo', q1, q2, _⟩ := e2 i (os.toList[i]'(by omega)) (List.getElem?_eq_getElem (by omega))
          rw [List.getElem?_eq_getElem hi] at q1
          injection q1 with q1
          rw [q1] at hk'
          exact cOp_sel q2 o' hk'
        cases d with
        | false =>
          simp only [Option.some.injEq] at hc; subst hc
          obtain ⟨δs, st1, st', h1, h2, h3⟩ := evOps_run hC l st st _ hsel (.refl _) hk
          refine wp_region ?_
          have := seq_sound (Q := Q) h1 hco hds (fun a' w' M' β' h' => hQ .normal st' a' w' M' β' h3 (h'.equiv h2.symm)) os.size 0 (by omega) a w M β (by
            rw [stM_none _ _ _ (fun i _ => by simp)]; exact h)
          rw [List.range_eq_range']
          exact this
        | true =>
          simp only at hc
          have key : ∃ ap, drawOK ap os.toList l = true ∧ ec = .region (madeBy l) ap l := by
            cases hdr : drawOK [] os.toList l with
            | true =>
              rw [hdr] at hc
              simp only [Option.some.injEq] at hc
              exact ⟨[], hdr, hc.symm⟩
            | false =>
              rw [hdr] at hc
              simp only at hc
              cases hdr2 : drawOK (wantAp l l) os.toList l with
              | false => rw [hdr2] at hc; cases hc
              | true =>
                rw [hdr2] at hc
                simp only [Option.some.injEq] at hc
                exact ⟨_, hdr2, hc.symm⟩
          obtain ⟨ap, hdr, rfl⟩ := key
          simp only [evC] at hk
          cases hap : apartOK st ap with
          | false => rw [hap] at hk; exact hk.elim
          | true =>
            rw [hap] at hk
            simp only at hk
            obtain ⟨δs, st1, st', h1, h2, h3⟩ := evOps_run hC l st st _ hsel (.refl _) hk
            refine wp_region_any hm ?_
            have hrep : ∀ i, (Array.replicate os.size false).getD i false = false := fun i => by
              rw [Array.getD_eq_getD_getElem?, Array.getElem?_replicate]; split <;> rfl
            refine draw_sound (Q := Q) hap h1 hco hds hdr (fun a' w' M' β' h' => hQ .normal st' a' w' M' β' h3 (h'.equiv h2.symm)) os.size _ (by simp) ?_ ?_ a _ M β ?_
            · rw [List.filter_eq_self.2 (fun i _ => by rw [hrep]; rfl)]; simp
            · intro j o ho hj; rw [hrep] at hj; cases hj
            · rw [show stM δs (maskL (Array.replicate os.size false)) st = st from stM_none _ _ _ (fun i _ => hrep i)]; exact h.drawn
  | seq x y ihx ihy =>
    intro out ec hc st a w M β k h hk Q hQ
    simp only [cCode] at hc
    cases hx : cCode P nt V _ x with
    | none => rw [hx] at hc; cases hc
    | some ex =>
      cases hy : cCode P nt V _ y with
      | none => rw [hx, hy] at hc; cases hc
      | some ey =>
        rw [hx, hy] at hc
        simp only [Option.some.injEq] at hc; subst hc
        refine wp_seq (ihx _ ex hx st a w M β _ h hk _ ?_)
        intro e st' a' w' M' β' hk' h'
        cases e with
        | normal => exact ihy _ ey hy st' a' w' M' β' k h' hk' Q hQ
        | exit i => exact hQ (.exit i) st' a' w' M' β' hk' h'
        | ret => exact hQ .ret st' a' w' M' β' hk' h'
  | cond c x y ihx ihy =>
    intro out ec hc st a w M β k h hk Q hQ
    simp only [cCode] at hc
    cases hx : cCode P nt V _ x with
    | none => rw [hx] at hc; cases hc
    | some ex =>
      cases hy : cCode P nt V _ y with
      | none => rw [hx, hy] at hc; cases hc
      | some ey =>
        rw [hx, hy] at hc
        simp only [Option.some.injEq] at hc; subst hc
        simp only [evC] at hk
        have hr := h.opd c
        cases hq : st.opd c with
        | val v =>
          rw [hq] at hk hr
          cases v with
          | bool t =>
            have hv : a.eval c = .bool t := hr.val_eq
            cases t with
            | true => exact wp_cond_true hv (ihx _ ex hx st a w M β k h hk Q hQ)
            | false => exact wp_cond_false hv (ihy _ ey hy st a w M β k h hk Q hQ)
          | _ => exact hk.elim
        | _ => rw [hq] at hk; exact hk.elim
  | block id b ih =>
    intro out ec hc st a w M β k h hk Q hQ
    simp only [cCode] at hc
    cases hx : cCode P nt V out b with
    | none => rw [hx] at hc; cases hc
    | some ex =>
      rw [hx] at hc
      simp only [Option.some.injEq] at hc; subst hc
      refine wp_block (ih _ ex hx st a w M β _ h hk _ ?_)
      intro e st' a' w' M' β' hk' h'
      cases e with
      | normal => exact hQ .normal st' a' w' M' β' hk' h'
      | ret => exact hQ .ret st' a' w' M' β' hk' h'
      | exit i =>
        simp only [exOf, Exit.inBlock]
        by_cases e : i = id
        · subst e
          rw [if_pos rfl]
          simp only [kBlock, Nat.beq_refl] at hk'
          exact hQ .normal st' a' w' M' β' hk' h'
        · rw [if_neg e]
          have hb : Nat.beq i id = false := by
            cases hb : Nat.beq i id with
            | false => rfl
            | true => exact absurd (nat_beq hb) e
          simp only [kBlock, hb] at hk'
          exact hQ (.exit i) st' a' w' M' β' hk' h'
  | loop b ih =>
    intro out ec hc st a w M β k h hk Q hQ
    simp only [cCode] at hc
    cases hx : cCode P nt V out b with
    | none => rw [hx] at hc; cases hc
    | some ex =>
      rw [hx] at hc
      simp only [Option.some.injEq] at hc; subst hc
      refine wp_loop_rounds L ?_
      have key : ∀ (n : Nat) (st : St) (a : Act) (w : World) (M : Mut) (β : Nat → Option Nat), SR w0 N nt st a w M β → loopN (evC P C L ex) (headKeys nt V out (maskC b)) (madeCode b []) n st k → Code.rounds P b Q n a w := by
        intro n
        induction n with
        | zero => intro st a w M β _ hk; exact hk.elim
        | succ n ihn =>
          intro st a w M β h hk
          rw [rounds_succ]
          refine ih _ ex hx st a w M β _ h hk _ ?_
          intro e st' a' w' M' β' hk' h'
          cases e with
          | normal => exact ihn _ a' w' M' _ (h'.keep _ (madeCode b [])) hk'
          | exit i => exact hQ (.exit i) _ a' w' M' _ hk' (h'.keep _ (madeCode b []))
          | ret => exact hQ .ret _ a' w' M' _ hk' (h'.keep _ (madeCode b []))
      exact key L _ a w M _ (h.keep _ (madeCode b [])) hk
  | exit id =>
    intro out ec hc st a w M β k h hk Q hQ
    simp only [cCode, Option.some.injEq] at hc; subst hc
    exact wp_exit (hQ (.exit id) st a w M β hk h)
  | ret =>
    intro out ec hc st a w M β k h hk Q hQ
    simp only [cCode, Option.some.injEq] at hc; subst hc
    exact wp_ret (hQ .ret st a w M β hk h)
  | rangeFunc => intro out ec hc; simp [cCode] at hc
  | scope => intro out ec hc; simp [cCode] at hc
  | label => intro out ec hc; simp [cCode] at hc
  | goto => intro out ec hc; simp [cCode] at hc
  | refuse => intro out ec hc; simp [cCode] at hc

theorem fin_imm {B : Nat} {p : PV} {v : Value} (h : RelT w M β B p v) : RelI w M p.fin v := by
  cases h with
  | imm p v h =>
    cases h with
    | any v => exact .any v
    | val v h => exact .val v h
    | agg l cs hl h1 hr => exact .agg l cs hl h1 hr
    | tup l cs hl hr => exact .tup l cs hl hr
    | sl o e sz es ad c vs hc hsz ha hm hr => exact .sl false e sz es ad c vs hc hsz ha hm hr
    | arr e sz m f ad c vs hc hsz ha hm hr => exact .arr e sz m f ad c vs hc hsz ha hm hr
  | loc d off b h => exact .any _
  | ref l ad vs hm hr => exact .any _

def resOne (a : Act) : ResultVar → Sem Value
  | .tmp t => pure (a.tmps.getD t undef)
  | .cell b t => do loadVar t (← asAddr (a.tmps.getD b undef))

theorem evRes_sound (h : SR w0 N nt st a w M β) : ∀ (rs : List ResultVar) (k : List PV → Prop), evRes P st rs k → ∃ (ps : List PV) (vs : List Value), k ps ∧ vs.length = ps.length ∧ ps.length = rs.length ∧
    (∀ (i : Nat) (p : PV) (v : Value), ps[i]? = some p → vs[i]? = some v → RelI w M p v) ∧
    (rs.mapM (resOne a)).run P w = .ok vs w := by
  intro rs
  induction rs with
  | nil => intro k hk; exact ⟨[], [], hk, rfl, rfl, fun i p v hp => by simp at hp, rfl⟩
  | cons x rs ih =>
    intro k hk
    cases x with
    | tmp t =>
      obtain ⟨ps, vs, h1, h2, h3, h4, h5⟩ := ih _ hk
      refine ⟨_, a.tmps.getD t undef :: vs, h1, by simp [h2], by simp [h3], fun i p v hp hv => ?_, ?_⟩
      · cases i with
        | zero =>
          rw [List.getElem?_cons_zero] at hp hv
          injection hp with hp; injection hv with hv
          subst hp; subst hv; exact fin_imm (h.reg t)
        | succ i => exact h4 i p v (by simpa using hp) (by simpa using hv)
      · simp only [List.mapM_cons, resOne, Sem.run_bind, Sem.run_pure, Result.andThen_ok, h5]
    | cell b t =>
      simp only [evRes] at hk
      cases hq : st.get b with
      | loc d off =>
        cases hs : szT P t with
        | none => rw [hq, hs] at hk; exact hk.elim
        | some sz =>
          cases hu : P.underlying t with
          | none => rw [hq, hs, hu] at hk; exact hk.elim
          | some td =>
            rw [hq, hs, hu] at hk
            simp only at hk
            have hreg := h.reg b
            rw [hq] at hreg
            obtain ⟨bb, hb, hv⟩ := loc_eq hreg
            have fin : ∀ (pv : PV), (isAggT P t = false → sz = 1) → lenGe ((st.obj d).drop off) sz = true → pv = (mkP (isAggT P t) (((st.obj d).drop off).take sz)).fin →
                evRes P st rs (fun l => k (pv :: l)) → ∃ (ps : List PV) (vs : List Value), k ps ∧ vs.length = ps.length ∧ ps.length = (ResultVar.cell b t :: rs).length ∧
                (∀ (i : Nat) (p : PV) (v : Value), ps[i]? = some p → vs[i]? = some v → RelI w M p v) ∧
                ((ResultVar.cell b t :: rs).mapM (resOne a)).run P w = .ok vs w := by
              intro pv hsz hl hpv hk
              obtain ⟨v, hrun, hr⟩ := load_ok (β := β) (B := w0.heap.size) (l := ((st.obj d).drop off).take sz) hu hs hsz (by rw [List.length_take]; have := (lenGe_iff _ _).1 hl; omega) ((h.cellsAt hb).take sz)
              obtain ⟨ps, vs, h1, h2, h3, h4, h5⟩ := ih _ hk
              refine ⟨_, v :: vs, h1, by simp [h2], by simp [h3], fun i p u hp hu => ?_, ?_⟩
              · cases i with
                | zero => simp at hp hu; subst hp; subst hu; rw [hpv]; exact fin_imm hr
                | succ i => exact h4 i p u (by simpa using hp) (by simpa using hu)
              · simp only [List.mapM_cons, resOne, Sem.run_bind, Sem.run_pure, Result.andThen_ok, hv, asAddr, hrun, h5]
            cases g1 : isAggT P t <;> cases g2 : Nat.beq sz 1 <;> cases g3 : lenGe ((st.obj d).drop off) sz <;> simp only [g1, g2, g3] at hk fin
            · exact fin _ (fun _ => nat_beq g2) trivial rfl hk
            · exact fin _ (fun e => by cases e) trivial rfl hk
            · exact fin _ (fun e => by cases e) trivial rfl hk
      | _ => rw [hq] at hk; exact hk.elim

theorem frArgs_get : ∀ (l : List PV) (i s : Nat), look .any (frArgs i l) s = if i ≤ s then (match l[s - i]? with | some p => p.view | none => .any) else .any := by
  intro l
  induction l with
  | nil => intro i s; simp [frArgs, look]
  | cons p l ih =>
    intro i s
    simp only [frArgs]
    rw [look_one, ih]
    by_cases e : i = s
    · subst e; simp
    · rw [if_neg e]
      by_cases h1 : i ≤ s
      · rw [if_pos (by omega), if_pos h1]
        rw [show s - i = (s - (i + 1)) + 1 by omega]
        simp
      · rw [if_neg (by omega), if_neg h1]

theorem sr_start (w : World) (N : Mut) (hN : ∀ b n, N b = some n → b < w.heap.size) (args : List PV) (vs : List Value) (hl : vs.length = args.length)
    (hr : ∀ (i : Nat) (p : PV) (v : Value), args[i]? = some p → vs[i]? = some v → RelA w N p v) (hn : args.length ≤ nt) :
    SR w N nt { fr := frArgs 0 args, ob := [] } { tmps := vs.toArray ++ Array.replicate (nt - vs.toArray.size) undef, defers := [] } w N (fun _ => none) := by
  have hg : ∀ s, St.get { fr := frArgs 0 args, ob := [] } s = match args[s]? with | some p => p.view | none => .any := fun s => by
    have := frArgs_get args 0 s
    rw [if_pos (Nat.zero_le s), Nat.sub_zero] at this
    exact this
  have ht : ∀ s e sz es, St.get { fr := frArgs 0 args, ob := [] } s ≠ .sl true e sz es := by
    intro s e sz es
    rw [hg]
    cases args[s]? with
    | none => intro h; cases h
    | some p => exact view_not_tok p e sz es
  refine ⟨rfl, by simp; omega, Below.refl _ _, fun _ _ => rfl, hN, (fun d b h => by cases h), (fun d d' b h => by cases h), fun _ _ => rfl, ?_, fun s e sz es h => absurd h (ht s e sz es), fun s s' e sz es e' sz' es' g h => absurd h (ht s e sz es), fun s e sz es g d h => absurd h (ht s e sz es)⟩
  intro s
  rw [hg]
  cases hp : args[s]? with
  | none => exact .imm _ _ (.any _)
  | some p =>
    have hs : s < args.length := (List.getElem?_eq_some_iff.1 hp).1
    have hv : vs[s]? = some (vs[s]'(by omega)) := List.getElem?_eq_getElem (by omega)
    have : (vs.toArray ++ Array.replicate (nt - vs.toArray.size) undef).getD s undef = vs[s]'(by omega) := by
      rw [Array.getD_eq_getD_getElem?, Array.getElem?_append_left (by simp; omega)]
      simp [hv]
    simp only []
    rw [this]
    exact (hr s p _ hp hv).view

/-- A function's body, evaluated, says what a call returns. -/
theorem holds_of_ev (hC : SoundC P C) (hm : P.follows .mixedOrders = true) (L : Nat) {f : Nat} {fn : Func} (hf : P.funcs[f]? = some fn) {ec : EC} (hc : cFn P fn = some ec) (args : List PV) (r : PV)
    (hn : Nat.ble args.length fn.ntmps = true) (h : evFn P C L fn.results.toList ec args (fun p => p = r)) : Holds P f args r := by
  unfold cFn at hc
  cases hb : fn.body with
  | none => rw [hb] at hc; cases hc
  | some c =>
    rw [hb] at hc
    intro w N vs hl hr hN
    refine calls_of_wp hf hb ?_
    refine evC_sound (N := N) hC hm _ L c _ ec hc _ _ w N (fun _ => none) _ (sr_start w N hN args vs hl hr (Nat.le_of_ble_eq_true hn)) h _ ?_
    intro e st' a' w' M' β' hk hS
    have fin : evRes P st' fn.results.toList (finish fun p => p = r) → a'.defers = [] ∧ ∃ v, (results fn a'.tmps).run P w' = .ok v w' ∧ ∃ u, Ending.returned v = .returned u ∧ RelI w' N r u ∧ Below w.heap.size w w' := by
      intro hk
      obtain ⟨ps, us, h1, h2, h3, h4, h5⟩ := evRes_sound hS _ _ hk
      have hmono : ∀ p v, RelI w' M' p v → RelI w' N p v := by
        intro p v hp
        refine hp.ext (fun x u hi hc => ⟨fun n hn => ?_, hc⟩)
        have hx := hN _ _ hn
        exact hi n (by rw [hS.mN _ hx]; exact hn)
      refine ⟨hS.defs, (if h : us.length = 1 then us[0] else .tuple us.toArray), ?_, _, rfl, ?_, hS.bel⟩
      · have e : results fn a'.tmps = (do let vs ← fn.results.mapM (resOne a'); pure (if h : vs.size = 1 then vs[0] else .tuple vs)) := rfl
        rw [e, Array.mapM_eq_mapM_toList]
        simp only [Sem.run_bind, Sem.run_map]
        rw [h5]
        simp only [Result.andThen_ok, Sem.run_pure]
        by_cases hu : us.length = 1
        · simp [hu]
        · simp [hu]
      · match ps, us, h1, h2, h4 with
        | [], [], h1, _, h4 =>
          have h1' : PV.tup [] = r := h1
          rw [← h1']
          exact .tup [] [] rfl (fun i p v hp => by simp at hp)
        | [p], [u], h1, _, h4 =>
          have h1' : p = r := h1
          rw [← h1']
          exact hmono _ _ (h4 0 p u rfl rfl)
        | p :: q :: ps, u :: u' :: us, h1, h2, h4 =>
          have h1' : PV.tup (p :: q :: ps) = r := h1
          rw [← h1']
          exact .tup _ _ h2.symm (fun i p v hp hv => hmono _ _ (h4 i p v hp hv))
    cases e with
    | normal => exact fin hk
    | ret => exact fin hk
    | exit i => exact hk.elim

end
end Go.Proofs.Ytflfeikkcpcdiaa.Ev
