/-  One operation. -/
import Derived.Test.YtflfeikkcpcdiaaEvG
namespace Go.Proofs.Ytflfeikkcpcdiaa.Ev
open Go Go.RowKit
set_option linter.unusedVariables false
set_option linter.unusedSimpArgs false
set_option linter.unnecessarySimpa false

section
variable {P : Program} {w0 w : World} {N M : Mut} {β : Nat → Option Nat} {nt : Nat} {st : St} {a : Act} {o : Oper} {δ : Delta} {K : Act → World → Prop} {Q : Exit → Act → World → Prop}

theorem wp_value {v : Value} {w' : World} (h : (execOp a.eval o).run P w = .ok (.value v) w') (hk : K (a.put o.dst v) w') : o.wp P a w K Q := by
  unfold Oper.wp; rw [h]; exact hk
theorem wp_skip' {w' : World} (h : (execOp a.eval o).run P w = .ok .skip w') (hk : K (a.put o.dst undef) w') : o.wp P a w K Q := by
  unfold Oper.wp; rw [h]; exact hk

/-- what an operation is shown to do -/
def Good (P : Program) (w0 : World) (N : Mut) (nt : Nat) (st : St) (a : Act) (w : World) (o : Oper) (δ : Delta) : Prop :=
  ∀ (K : Act → World → Prop) (Q : Exit → Act → World → Prop), (∀ a' w' M' β', SR w0 N nt (st.app δ) a' w' M' β' → K a' w') → o.wp P a w K Q

theorem good_put (h : SR w0 N nt st a w M β) (hd : ∀ x, o.dst = some x → x < nt) (p : PV) (v : Value) (w' : World) (hb : Below w.heap.size w w') (hrun : (execOp a.eval o).run P w = .ok (.value v) w')
    (hr : RelT w' M β w0.heap.size p v) (hn : ∀ e sz es, p ≠ .sl true e sz es) : Good P w0 N nt st a w o (dput o.dst p) :=
  fun K Q hK => wp_value hrun (hK _ _ _ _ ((h.world hb).dput o.dst p v hd hr hn))

theorem step_move (h : SR w0 N nt st a w M β) (hd : ∀ x, o.dst = some x → x < nt) (x : Operand) (hrun : ∀ w, (execOp a.eval o).run P w = .ok (.value (a.eval x)) w) :
    Good P w0 N nt st a w o (dput o.dst (st.opd x).view) :=
  good_put h hd _ _ w (Below.refl _ _) (hrun w) (h.opd x).view (view_not_tok _)

theorem step_take (h : SR w0 N nt st a w M β) (hd : ∀ x, o.dst = some x → x < nt) (s d : Nat) (hdst : o.dst = some d) (hrun : ∀ w, (execOp a.eval o).run P w = .ok (.value (a.eval (.tmp s))) w) :
    Good P w0 N nt st a w o ⟨[(d, st.get s), (s, (st.get s).view)], []⟩ := by
  intro K Q hK
  have hdn := hd d hdst
  have h1 := h.drop s
  have key : ∃ M' β', SR w0 N nt ((st.app ⟨[(s, (st.get s).view)], []⟩).app ⟨[(d, st.get s)], []⟩) (a.put (some d) (a.eval (.tmp s))) w M' β' := by
    by_cases ht : ∃ e sz es, st.get s = .sl true e sz es
    · obtain ⟨e, sz, es, hs⟩ := ht
      rw [hs]
      have hreg := h.reg s
      rw [hs] at hreg
      have hri : RelI w M (.sl true e sz es) (a.tmps.getD s undef) := by cases hreg with | imm p v h => exact h
      have hs' : st.get s = .sl true e sz es := hs
      rw [hs] at h1
      refine ⟨M, β, h1.putTok d _ hdn e sz es hri (h.tok s _ _ _ hs) ?_ (fun g x hg => h.tokbox s _ _ _ g x hs hg)⟩
      intro s' e' sz' es' g hne hg ho
      have : (st.app ⟨[(s, (PV.sl true e sz es).view)], []⟩).get s' = if s = s' then (PV.sl true e sz es).view else st.get s' := look_one _ _ _ _ _
      rw [this] at hg
      by_cases e1 : s = s'
      · rw [if_pos e1] at hg; exact absurd hg (view_not_tok _ _ _ _)
      · rw [if_neg e1] at hg
        exact h.tokne s s' _ _ _ _ _ _ g hs' hg e1 ho
    · exact ⟨M, β, h1.put d _ _ hdn (h.reg s) (fun e sz es he => ht ⟨e, sz, es, he⟩)⟩
  obtain ⟨M', β', hS⟩ := key
  exact wp_value (hrun w) (by rw [hdst]; exact hK _ _ _ _ hS)

theorem step_alloc (h : SR w0 N nt st a w M β) (hd : ∀ x, o.dst = some x → x < nt) (d : Nat) (hdst : o.dst = some d) (l : List PV) (cs : Array Value) (t : Nat)
    (hnew : notIn d (st.ob.map Prod.fst) = true) (hl : RC w M l cs) (hrun : (execOp a.eval o).run P w = .ok (.value (.pointer (some ⟨w.heap.size, 0, none⟩))) (w.alloc (.cells cs t))) :
    Good P w0 N nt st a w o ⟨[(d, .loc d 0)], [(d, l)]⟩ := by
  intro K Q hK
  obtain ⟨M', β', hS⟩ := h.alloc d l cs t (hd d hdst) hnew hl.1.symm hl.2
  exact wp_value hrun (by rw [hdst]; exact hK _ _ _ _ hS)

theorem step_store (h : SR w0 N nt st a w M β) (hdst : o.dst = none ∨ True) (ad x : Operand) (t sz b off : Nat) (ho : o.op = .store t ad x) (hsz : szT P t = some sz) (hst : st.opd ad = .loc b off)
    (g1 : lenIs (st.opd x).cells sz = true) (g2 : ones (st.opd x).cells = true) (g3 : lenGe (st.obj b) (off + sz) = true) (hd : o.dst = none) :
    Good P w0 N nt st a w o ⟨[], [(b, setN (st.obj b) off (st.opd x).cells)]⟩ := by
  intro K Q hK
  have e1 := (lenIs_iff _ _).1 g1
  have e2 := (lenGe_iff _ _).1 g3
  obtain ⟨c1, c2⟩ := cells_of (h.opd x) g2
  have hp := h.opd ad
  rw [hst] at hp
  obtain ⟨bb, hb, hv⟩ := loc_eq hp
  obtain ⟨i, hi, his⟩ := szT_info hsz
  obtain ⟨cs, ty, q1, q2, q3⟩ := h.store b off bb hb (st.opd x).cells (a.eval x).cells.toList c1.symm (by omega) c2
  have ho1 : ∀ u ∈ (a.eval x).cells.toList, u.oneCell' = true := by
    intro u hu
    obtain ⟨j, hj, rfl⟩ := List.getElem_of_mem hu
    exact (c2 j _ _ (List.getElem?_eq_getElem (by omega)) (List.getElem?_eq_getElem hj)).2
  have hrun := run_storeCells_at P bb off ty (a.eval x).cells.toList 0 cs w q1 (by simpa using q2) ho1
  simp only [Nat.add_zero] at hrun
  have hsize : (a.eval x).cells.size = i.size := by rw [his, ← e1, ← c1]; simp
  refine wp_skip' (w' := _) ?_ (by rw [hd]; exact hK _ _ _ _ q3)
  simp only [execOp, ho, hv, Instr.storeAt, Instr.sureAddr, storeVar, sizeOf, typeInfo, Sem.run_bind, Sem.run_pure, Result.andThen_ok, run_program, hi]
  simp only [hsize, ne_eq, not_true_eq_false, if_false, Sem.run_bind, Sem.run_pure, Result.andThen_ok]
  rw [hrun]
  rfl

theorem step_app (h : SR w0 N nt st a w M β) (hd : ∀ x, o.dst = some x → x < nt) (d s : Nat) (hdst : o.dst = some d) (x : Operand) (t e sz : Nat) (i : TypeInfo) (z : Value)
    (ho : o.op = .call { callee := .builtin .append, args := #[.tmp s, x], argTypes := #[t, t] })
    (ht : P.underlying t = some (.slice e)) (hi : P.info? e = some i) (hz : i.zero = some z) (hzs : z.cells.size = i.size) (hsz : i.size = sz) (hpos : 1 ≤ sz)
    (es ys : List (List PV)) (ob : Bool) (e2 : Nat) (hx : st.opd x = .sl ob e2 sz ys) (hb : (es.length + ys.length) * i.bytes ≤ 140737488355328) (hm : es.length + ys.length ≤ maxLen)
    (hs : st.get s = .sl true e sz es) : Good P w0 N nt st a w o ⟨[(d, .sl true e sz (es ++ ys)), (s, .sl false e sz es)], []⟩ := by
  intro K Q hK
  have h1 := h.drop s
  have hreg := h.reg s
  rw [hs] at hreg h1
  have hri : RelI w M (.sl true e sz es) (a.tmps.getD s undef) := by cases hreg with | imm p v h => exact h
  have hxr := h.opd x
  rw [hx] at hxr
  have hxi : RelI w M (.sl ob e2 sz ys) (a.eval x) := by cases hxr with | imm p v h => exact h
  obtain ⟨v', w', M', hrun, hS⟩ := app_core h1 d (hd d hdst) t o.type e sz i z ht hi hz hzs hsz hpos es ys _ _ ob e2 hri (h.tok s _ _ _ hs) hxi
    (fun s' e' sz' es' g hg ho' => by
      have : (st.app ⟨[(s, (PV.sl true e sz es).view)], []⟩).get s' = if s = s' then (PV.sl true e sz es).view else st.get s' := look_one _ _ _ _ _
      rw [this] at hg
      by_cases e1 : s = s'
      · rw [if_pos e1] at hg; exact absurd hg (view_not_tok _ _ _ _)
      · rw [if_neg e1] at hg; exact h.tokne s s' _ _ _ _ _ _ g hs hg e1 ho')
    (fun g x hg => h.tokbox s _ _ _ g x hs hg) hb hm
  refine wp_value (w' := w') (v := v') ?_ (by rw [hdst]; exact hK _ _ _ _ hS)
  simp only [execOp, ho, resolve, invoke, builtin, Sem.run_bind, Sem.run_pure, Result.andThen_ok, List.map_toArray, List.map_cons, List.map_nil]
  rw [show a.eval (.tmp s) = a.tmps.getD s undef from rfl, hrun]
  rfl

theorem step_app_nil (h : SR w0 N nt st a w M β) (hd : ∀ x, o.dst = some x → x < nt) (d s : Nat) (hdst : o.dst = some d) (x : Operand) (t e sz : Nat) (i : TypeInfo) (z : Value)
    (ho : o.op = .call { callee := .builtin .append, args := #[.tmp s, x], argTypes := #[t, t] })
    (ht : P.underlying t = some (.slice e)) (hi : P.info? e = some i) (hz : i.zero = some z) (hzs : z.cells.size = i.size) (hsz : i.size = sz) (hpos : 1 ≤ sz)
    (ys : List (List PV)) (ob : Bool) (e2 : Nat) (hx : st.opd x = .sl ob e2 sz ys) (hb : (0 + ys.length) * i.bytes ≤ 140737488355328) (hm : 0 + ys.length ≤ maxLen)
    (hs : st.get s = .val (.slice none 0 0)) : Good P w0 N nt st a w o ⟨[(d, .sl true e sz ys)], []⟩ := by
  intro K Q hK
  have hreg := h.reg s
  rw [hs] at hreg
  have hv : a.tmps.getD s undef = .slice none 0 0 := hreg.val_eq
  have hxr := h.opd x
  rw [hx] at hxr
  have hxi : RelI w M (.sl ob e2 sz ys) (a.eval x) := by cases hxr with | imm p v h => exact h
  have hri : RelI w M (.sl true e sz []) (.slice none 0 0) := .sl true e sz [] none 0 (fun _ _ => undef) (by simp) (fun i x hx => by simp at hx) (fun i x hx => by simp at hx) (fun ad i x j p _ hx => by simp at hx) (fun i x j p hx => by simp at hx)
  obtain ⟨v', w', M', hrun, hS⟩ := app_core h d (hd d hdst) t o.type e sz i z ht hi hz hzs hsz hpos [] ys _ _ ob e2 hri (.inl ⟨rfl, rfl⟩) hxi
    (fun s' e' sz' es' g hg ho' => by simp [Value.ownBlock] at ho') (fun g x hg => by simp [Value.ownBlock] at hg) hb hm
  refine wp_value (w' := w') (v := v') ?_ (by rw [hdst]; exact hK _ _ _ _ hS)
  simp only [execOp, ho, resolve, invoke, builtin, Sem.run_bind, Sem.run_pure, Result.andThen_ok, List.map_toArray, List.map_cons, List.map_nil]
  rw [show a.eval (.tmp s) = a.tmps.getD s undef from rfl, hv, hrun]
  rfl

theorem step_call (h : SR w0 N nt st a w M β) (hd : ∀ x, o.dst = some x → x < nt) (f : Nat) (args : List Operand) (ats : Array Nat) (ho : o.op = .call { callee := .value (.func f), args := args.toArray, argTypes := ats })
    (hc : callable P f = true) (r : PV) (hr : Holds P f (args.map fun x => snap st (st.opd x)) r) : Good P w0 N nt st a w o (dput o.dst r.view) := by
  intro K Q hK
  unfold callable at hc
  cases hf : P.funcs[f]? with
  | none => rw [hf] at hc; cases hc
  | some fn =>
    rw [hf] at hc
    simp only [Bool.and_eq_true, Bool.not_eq_true'] at hc
    obtain ⟨hc1, hc2⟩ := hc
    have hbody : fn.body.isNone = false := by cases hb : fn.body with | none => rw [hb] at hc2; cases hc2 | some c => rfl
    have hrun : (execOp a.eval o).run P w = .ok (.enter f (args.map a.eval).toArray) w := by
      simp only [execOp, ho, resolve, Act.eval, Deferred.ofValue, invoke, callFunc, Sem.run_bind, Sem.run_pure, Result.andThen_ok, run_program, hf]
      simp [hc1, hbody]
    unfold Oper.wp
    rw [hrun]
    refine Calls.mono (hr w M (args.map a.eval) (by simp) ?_ h.mlt) ?_
    · intro i p v hp hv
      rw [List.getElem?_map] at hp hv
      cases hx : args[i]? with
      | none => rw [hx] at hp; cases hp
      | some x =>
        rw [hx] at hp hv
        simp only [Option.map_some, Option.some.injEq] at hp hv
        subst hp; subst hv
        have hrel := h.opd x
        have hle : w0.heap.size ≤ w.heap.size := h.bel.size
        show RelT w M (fun _ => none) w.heap.size (snap st (st.opd x)) (a.eval x)
        generalize a.eval x = u at hrel ⊢
        cases hq : st.opd x with
        | loc d off =>
          rw [hq] at hrel
          obtain ⟨b, hb, hv⟩ := loc_eq hrel
          rw [hv]
          have hbw := h.mlt b 0 (h.box d b hb).2.1
          have hcell := h.cellsAt (off := off) hb
          have hall : ∀ i, ∃ v, ∀ p, ((st.obj d).drop off)[i]? = some p → w.cell? ((⟨b, off, none⟩ : Addr).add i) = some v ∧ RelI w M p v ∧ v.oneCell' = true := fun i => by
            cases hp : ((st.obj d).drop off)[i]? with
            | none => exact ⟨undef, fun p hp => by cases hp⟩
            | some p => obtain ⟨v, hv⟩ := hcell i p hp; exact ⟨v, fun q hq => by injection hq with hq; subst hq; exact hv⟩
          obtain ⟨vs, hvs⟩ := Classical.axiomOfChoice hall
          exact .ref _ _ vs (fun i p hp => ⟨.inl hbw, (hvs i p hp).1, (hvs i p hp).2.2⟩) (fun i p hp => (hvs i p hp).2.1)
        | any => exact .imm _ _ (.any _)
        | val v => rw [hq] at hrel; cases hrel with | imm p v h => exact .imm _ _ h.view
        | agg l => rw [hq] at hrel; cases hrel with | imm p v h => exact .imm _ _ h.view
        | tup l => rw [hq] at hrel; cases hrel with | imm p v h => exact .imm _ _ h.view
        | sl o e s l => rw [hq] at hrel; cases hrel with | imm p v h => exact .imm _ _ h.view
        | arr e s m f => rw [hq] at hrel; cases hrel with | imm p v h => exact .imm _ _ h.view
        | ref l =>
          rw [hq] at hrel
          cases hrel with
          | imm p v h => exact .imm _ _ h.view
          | ref l ad vs hm hr' => exact .ref l ad vs (fun i p hp => ⟨(hm i p hp).1.imp (fun h => by omega) id, (hm i p hp).2⟩) hr'
    · rintro e w' ⟨v, rfl, hv, hb⟩
      exact hK _ _ _ _ ((h.world hb).dput o.dst r.view v hd (.imm _ _ hv.view) (view_not_tok _))

end
end Go.Proofs.Ytflfeikkcpcdiaa.Ev
