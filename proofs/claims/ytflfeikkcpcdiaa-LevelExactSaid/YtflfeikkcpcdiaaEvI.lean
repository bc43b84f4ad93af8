/-  One operation: what the evaluator says is so. -/
import Derived.Test.YtflfeikkcpcdiaaEvH
namespace Go.Proofs.Ytflfeikkcpcdiaa.Ev
open Go Go.RowKit
set_option linter.unusedVariables false
set_option linter.unusedSimpArgs false
set_option linter.unnecessarySimpa false

section
variable {P : Program} {w0 w : World} {N M : Mut} {β : Nat → Option Nat} {nt : Nat} {st : St} {a : Act} {o : Oper} {δ : Delta} {ban : List Nat}

theorem mkP_not_tok (g : Bool) (l : List PV) : ∀ e sz es, mkP g l ≠ .sl true e sz es := by
  intro e sz es h
  cases g with
  | true => simp [mkP] at h
  | false =>
    match l, h with
    | [], h => simp [mkP] at h
    | [p], h => exact view_not_tok p _ _ _ h
    | p :: q :: r, h => simp [mkP] at h

theorem getN_get (l : List PV) : ∀ i p, l[i]? = some p → getN l i = p := by
  induction l with
  | nil => intro i p h; simp at h
  | cons q r ih =>
    intro i p h
    cases i with
    | zero => simpa [getN] using h
    | succ i => exact ih i p (by simpa using h)

theorem step_load (h : SR w0 N nt st a w M β) (hd : ∀ x, o.dst = some x → x < nt) (t sz : Nat) (x : Operand) (d : TypeDesc) (ho : o.op = .load t x) (hu : P.underlying t = some d) (hs : szT P t = some sz)
    (hsz : isAggT P t = false → sz = 1) (ad : Addr) (l : List PV) (hv : a.eval x = .pointer (some ad)) (hc : CellsAt w M ad l) (hl : sz ≤ l.length) :
    Good P w0 N nt st a w o (dput o.dst (mkP (isAggT P t) (l.take sz))) := by
  obtain ⟨v, hrun, hr⟩ := load_ok (β := β) (B := w0.heap.size) hu hs hsz (by rw [List.length_take]; omega) (hc.take sz)
  refine good_put h hd _ v w (Below.refl _ _) ?_ hr (mkP_not_tok _ _)
  simp only [execOp, ho, hv, Instr.loadAt, Instr.sureAddr, Sem.run_bind, Sem.run_pure, Result.andThen_ok]
  rw [hrun]
  rfl

theorem step_field (h : SR w0 N nt st a w M β) (hd : ∀ x, o.dst = some x → x < nt) (t f : Nat) (x : Operand) (fs : Array Field) (fd : Field) (n : Nat) (ho : o.op = .fieldAddr t x f)
    (hu : P.underlying t = some (.struct fs)) (hf : fs[f]? = some fd) (hs : szT P fd.type = some (n + 1)) (ad : Addr) (hv : a.eval x = .pointer (some ad)) (p : PV)
    (hr : RelT w M β w0.heap.size p (.pointer (some (ad.add fd.offset)))) (hn : ∀ e sz es, p ≠ .sl true e sz es) : Good P w0 N nt st a w o (dput o.dst p) := by
  obtain ⟨i, hi, his⟩ := szT_info hs
  refine good_put h hd _ _ w (Below.refl _ _) ?_ hr hn
  simp only [execOp, ho, hv, Instr.fieldAt, run_underlying hu, Instr.sureAddr, fieldPlace, sizeOf, typeInfo, Sem.run_bind, Sem.run_pure, Result.andThen_ok, hf, run_program, hi, his]
  rw [if_neg (by omega)]
  rfl

theorem Good.of_eq {δ' : Delta} (h : Good P w0 N nt st a w o δ) (e : δ = δ') : Good P w0 N nt st a w o δ' := e ▸ h

theorem ref_drop {B : Nat} {l : List PV} {v : Value} {ad : Addr} (h : RelT w M β B (.ref l) v) (hv : v = .pointer (some ad)) (n : Nat) : RelT w M β B (.ref (l.drop n)) (.pointer (some (ad.add n))) := by
  cases h with
  | imm p v h => cases h
  | ref l ad' vs hm hr =>
    injection hv with hv; injection hv with hv; subst hv
    refine .ref _ _ (fun i => vs (n + i)) (fun i p hp => ?_) (fun i p hp => ?_)
    · rw [List.getElem?_drop] at hp
      obtain ⟨g1, g2, g3⟩ := hm _ p hp
      rw [add_add]
      exact ⟨g1.imp (fun h => by rw [block_add]; exact h) id, g2, g3⟩
    · rw [List.getElem?_drop] at hp
      exact hr _ p hp

theorem scal_sound (h : SR w0 N nt st a w M β) (hd : ∀ x, o.dst = some x → x < nt) (hsel : ∀ cs b, o.op ≠ .select cs b) (hs : scalK P st o o.dst (fun δ' => δ' = δ)) : Good P w0 N nt st a w o δ := by
  unfold scalK at hs
  cases ha : allVal st o.op.operands.toList with
  | false => rw [ha] at hs; exact hs.elim
  | true =>
    rw [ha] at hs
    have he := h.valOf _ ha
    have hx : execOp a.eval o = execOp st.valOf o := execOp_congr o hsel (fun x hx => he x (by simpa using hx))
    obtain ⟨n, hn, hk⟩ := pureRun_run _ _ hs w
    cases n with
    | value v =>
      simp only at hk
      cases hv : oneV v with
      | false => rw [hv] at hk; exact hk.elim
      | true =>
        rw [hv] at hk
        have hk' : dput o.dst (.val v) = δ := hk
        rw [← hk']
        exact good_put h hd _ v w (Below.refl _ _) (by rw [hx]; exact hn) (.imm _ _ (.val v (by rw [← oneV_eq]; exact hv))) (fun e sz es h => by cases h)
    | _ => exact hk.elim

theorem getN_val {l : List PV} {cs : List Value} (hl : l.length = cs.length) (hr : ∀ (i : Nat) (p : PV) (v : Value), l[i]? = some p → cs[i]? = some v → RelI w M p v) {o : Nat} {v : Value} (h : getN l o = .val v) : cs[o]? = some v := by
  induction l generalizing cs o with
  | nil => simp [getN] at h
  | cons p r ih =>
    cases cs with
    | nil => simp at hl
    | cons c cs =>
      cases o with
      | zero =>
        simp only [getN] at h
        subst h
        have := hr 0 _ c rfl rfl
        cases this with | val v h => rfl
      | succ o =>
        have := ih (cs := cs) (o := o) (by simpa using hl) (fun i p v h1 h2 => hr (i + 1) p v (by simpa using h1) (by simpa using h2)) (by simpa [getN] using h)
        simpa using this

theorem tagT_plain {t tag : Nat} (h : tagT P t = some tag) : P.plainKey t = true := by
  unfold tagT at h
  unfold Program.plainKey
  split at h <;> simp_all

theorem eqAt_run {l m : List PV} {xs ys : List Value} (h1 : l.length = xs.length) (r1 : ∀ (i : Nat) (p : PV) (v : Value), l[i]? = some p → xs[i]? = some v → RelI w M p v)
    (h2 : m.length = ys.length) (r2 : ∀ (i : Nat) (p : PV) (v : Value), m[i]? = some p → ys[i]? = some v → RelI w M p v) (d : Nat) (w' : World) :
    ∀ (fs : List Field) (ts : List (Nat × Nat)) (b : Bool), eqTags P fs = some ts → eqAt ts l m = some b → (Op.eqFields (d + 1) xs.toArray ys.toArray fs).run P w' = .ok b w'
  | [], ts, b, ht, hb => by
    simp only [eqTags, Option.some.injEq] at ht
    subst ht
    simp only [eqAt, Option.some.injEq] at hb
    subst hb
    simp [Op.eqFields]
  | f :: fs, ts, b, ht, hb => by
    simp only [eqTags] at ht
    split at ht
    · rename_i tag l' hn htag htl
      simp only [Option.some.injEq] at ht
      subst ht
      simp only [eqAt] at hb
      cases hr : eqAt l' l m with
      | none => rw [hr] at hb; cases hb
      | some t =>
        rw [hr] at hb
        simp only at hb
        have ih := eqAt_run h1 r1 h2 r2 d w' fs l' t htl hr
        have hnm : f.name ≠ "_" := by simpa using hn
        have hp := tagT_plain htag
        have fin : ∀ (u v : Value) (r : Bool), getN l f.offset = .val u → getN m f.offset = .val v → (Op.equalIn (d + 1) f.type u v).run P w' = .ok r w' → (Op.eqFields (d + 1) xs.toArray ys.toArray (f :: fs)).run P w' = .ok (r && t) w' := by
          intro u v r hu hv hrun
          have hx : xs.toArray[f.offset]? = some u := by simpa using getN_val h1 r1 hu
          have hy : ys.toArray[f.offset]? = some v := by simpa using getN_val h2 r2 hv
          simp only [Op.eqFields, hnm, ne_eq, not_false_eq_true, if_true, Sem.run_bind, run_part_plain w' hp hx, run_part_plain w' hp hy, hrun, Result.andThen_ok]
          cases r
          · simp
          · simpa using ih
        unfold tagT at htag
        split at hb
        · rename_i u v hu hv
          simp only [Option.some.injEq] at hb
          subst hb
          split at htag <;> first | (exact absurd htag (by decide)) | skip
          rename_i hty
          exact fin _ _ _ hu hv (run_equalIn_bool w' d _ u v hty)
        · rename_i k u k' v hu hv
          split at hb
          · rename_i hkk
            have hkk' : k = k' := of_decide_eq_true hkk
            subst hkk'
            simp only [Option.some.injEq] at hb
            subst hb
            split at htag <;> first | (exact absurd htag (by decide)) | skip
            rename_i k2 hty
            exact fin _ _ _ hu hv (run_equalIn_int w' d _ k k2 u v hty)
          · cases hb
        · rename_i u v hu hv
          simp only [Option.some.injEq] at hb
          subst hb
          split at htag <;> first | (exact absurd htag (by decide)) | skip
          rename_i hty
          exact fin _ _ _ hu hv (by simp [Op.equalIn, run_underlying hty])
        · cases hb
    · cases ht

theorem bin2_sound {x y : Operand} {tag : Nat} (h : SR w0 N nt st a w M β) (hd : ∀ x, o.dst = some x → x < nt)
    (hs : stepD P (CStar P) ban (.bin2 tag x y) o.dst st (fun δ' => δ' = δ))
    (hrun : ∀ (u v r : Value), a.eval x = u → a.eval y = v → bin2 tag u v = some (true, r) → ∀ w, (execOp a.eval o).run P w = .ok (.value r) w) : Good P w0 N nt st a w o δ := by
  simp only [stepD] at hs
  have hxr := h.opd x
  have hyr := h.opd y
  split at hs
  · rename_i u v hx hy
    rw [hx] at hxr
    rw [hy] at hyr
    split at hs
    · rename_i c r hb
      cases c with
      | false => exact hs.elim
      | true =>
        have hone : r.oneCell' = true := by
          unfold bin2 at hb
          split at hb <;> (try split at hb) <;> first | (injection hb with hb; injection hb with _ hb; subst hb; rfl) | cases hb
        exact (good_put h hd (.val r) r w (Below.refl _ _) (hrun u v r hxr.val_eq hyr.val_eq hb w) (.imm _ _ (.val _ hone)) (fun e sz es h => by cases h)).of_eq hs
    · exact hs.elim
  · exact hs.elim

section
variable {u v r : Value} {w : World} {x y : Operand} {t : TypeId}
theorem bin2_run0 (t' : TypeId) (h : bin2 0 u v = some (true, r)) : ((eqGuard .quo t x y u v).run P w).andThen (fun _ w' => (binOp .quo t u v).run P w') = .ok r w := by
  unfold bin2 at h
  split at h <;> try (first | (exfalso; omega) | (cases h; done))
  split at h <;> try (cases h; done)
  all_goals (rename_i hk; simp only [Option.some.injEq, Prod.mk.injEq, Bool.not_eq_true', decide_eq_false_iff_not] at h; obtain ⟨h1, rfl⟩ := h; have hk' := of_decide_eq_true hk; subst hk'; simp_all [eqGuard, binOp, Op.intDiv])
theorem bin2_run1 (t' : TypeId) (h : bin2 1 u v = some (true, r)) : ((eqGuard .rem t x y u v).run P w).andThen (fun _ w' => (binOp .rem t u v).run P w') = .ok r w := by
  unfold bin2 at h
  split at h <;> try (first | (exfalso; omega) | (cases h; done))
  split at h <;> try (cases h; done)
  all_goals (rename_i hk; simp only [Option.some.injEq, Prod.mk.injEq, Bool.not_eq_true', decide_eq_false_iff_not] at h; obtain ⟨h1, rfl⟩ := h; have hk' := of_decide_eq_true hk; subst hk'; simp_all [eqGuard, binOp, Op.intDiv])
theorem bin2_run2 (t' : TypeId) (h : bin2 2 u v = some (true, r)) : ((eqGuard .shl t x y u v).run P w).andThen (fun _ w' => (binOp .shl t u v).run P w') = .ok r w := by
  unfold bin2 at h
  split at h <;> try (first | (exfalso; omega) | (cases h; done))
  all_goals (simp only [Option.some.injEq, Prod.mk.injEq, Bool.not_eq_true', decide_eq_false_iff_not] at h; obtain ⟨h1, rfl⟩ := h; simp_all [eqGuard, binOp, Op.shift]; try (intro hneg; omega))
theorem bin2_run3 (t' : TypeId) (h : bin2 3 u v = some (true, r)) : ((eqGuard .shr t x y u v).run P w).andThen (fun _ w' => (binOp .shr t u v).run P w') = .ok r w := by
  unfold bin2 at h
  split at h <;> try (first | (exfalso; omega) | (cases h; done))
  all_goals (simp only [Option.some.injEq, Prod.mk.injEq, Bool.not_eq_true', decide_eq_false_iff_not] at h; obtain ⟨h1, rfl⟩ := h; simp_all [eqGuard, binOp, Op.shift]; try (intro hneg; omega))
theorem bin2_run4 (t' : TypeId) (h : bin2 4 u v = some (true, r)) : ((eqGuard .add t x y u v).run P w).andThen (fun _ w' => (binOp .add t u v).run P w') = .ok r w := by
  unfold bin2 at h
  split at h <;> try (first | (exfalso; omega) | (cases h; done))
  all_goals (simp only [Option.some.injEq, Prod.mk.injEq, Bool.not_eq_true', decide_eq_false_iff_not] at h; obtain ⟨h1, rfl⟩ := h; simp only [eqGuard, binOp, Op.stringOp]; rw [if_neg h1]; rfl)
theorem bin2_run5 (hty : P.underlying t = some .string) (h : bin2 5 u v = some (true, r)) : (Instr.index t u v).run P w = .ok r w := by
  unfold bin2 at h
  split at h <;> try (first | (exfalso; omega) | (cases h; done))
  all_goals (
    rename_i s k n _
    simp only [Option.some.injEq, Prod.mk.injEq] at h
    obtain ⟨h1, rfl⟩ := h
    cases hg : (if 0 ≤ n then s[n.toNat]? else none) with
    | none => rw [hg] at h1; cases h1
    | some b => simp [Instr.index, asIntOf, run_underlying hty, hg, optByte])
end

theorem eqA_sound {b : BinOp} {t : TypeId} {x y : Operand} {t' : TypeId} {neg : Bool} {ts : List (Nat × Nat)} (h : SR w0 N nt st a w M β) (hd : ∀ x, o.dst = some x → x < nt)
    (hb : (b = .eql ∧ neg = false) ∨ (b = .neq ∧ neg = true)) (hts : eqPlan P t = some ts) (ho : o.op = .binOp b t x y t')
    (hs : stepD P (CStar P) ban (.eqA neg ts x y) o.dst st (fun δ' => δ' = δ)) : Good P w0 N nt st a w o δ := by
  simp only [stepD] at hs
  unfold eqPlan at hts
  split at hts
  · rename_i fs hu
    split at hts
    · rename_i hst hgd
      have hxr := h.opd x
      have hyr := h.opd y
      split at hs
      · rename_i xs ys hx hy
        split at hs
        · rename_i r hr
          rw [hx] at hxr
          rw [hy] at hyr
          have hfs : P.fieldsOf t = fs := by simp [Program.fieldsOf, hu]
          generalize hux : a.eval x = u at hxr
          generalize huy : a.eval y = v at hyr
          cases hxr with
          | imm p u hxr =>
            cases hyr with
            | imm p v hyr =>
              cases hxr with
              | agg l1 c1 hl1 o1 r1 =>
                cases hyr with
                | agg l2 c2 hl2 o2 r2 =>
                  have hrun : ∀ w', (Op.equalIn 10000 t (.agg c1.toArray) (.agg c2.toArray)).run P w' = .ok r w' := by
                    intro w'
                    rw [show (10000 : Nat) = 9999 + 1 from rfl, run_equalIn_struct w' 9999 t _ _ (by rw [hfs]; exact hu) hst, hfs]
                    exact eqAt_run hl1 r1 hl2 r2 9998 w' _ _ _ hts hr
                  rcases hb with ⟨rfl, rfl⟩ | ⟨rfl, rfl⟩
                  · refine (good_put h hd (.val (.bool r)) (.bool r) w (Below.refl _ _) ?_ (.imm _ _ (.val _ rfl)) (fun e sz es h => by cases h)).of_eq hs
                    simp only [execOp, ho, hux, huy, Sem.run_bind, run_eqGuard_agg w .eql t x y _ _ hgd, Result.andThen_ok, run_eql_struct, hrun, Sem.run_pure]
                  · refine (good_put h hd (.val (.bool (!r))) (.bool (!r)) w (Below.refl _ _) ?_ (.imm _ _ (.val _ rfl)) (fun e sz es h => by cases h)).of_eq hs
                    simp only [execOp, ho, hux, huy, Sem.run_bind, run_eqGuard_agg w .neq t x y _ _ hgd, Result.andThen_ok, run_neq_struct, hrun, Sem.run_pure]
        · exact hs.elim
      · exact hs.elim
    · cases hts
  · cases hts

theorem nat_beq {x y : Nat} (h : Nat.beq x y = true) : x = y := Nat.eq_of_beq_eq_true h

theorem step_sound (h : SR w0 N nt st a w M β) (hd : ∀ x, o.dst = some x → x < nt) {kk : K} (hc : cOp P o = some kk) (hs : stepD P (CStar P) ban kk o.dst st (fun δ' => δ' = δ)) : Good P w0 N nt st a w o δ := by
  obtain ⟨dst, op, type, pos, after, guard⟩ := o
  cases op with
  | move x =>
    simp only [cOp, Option.some.injEq] at hc; subst hc
    exact (step_move h hd x (fun _ => rfl)).of_eq hs
  | assign x =>
    have mv : ∀ x, stepD P (CStar P) ban (.move x) dst st (fun δ' => δ' = δ) → Good P w0 N nt st a w ⟨dst, .assign x, type, pos, after, guard⟩ δ := fun x hs => (step_move (P := P) (o := ⟨dst, .assign x, type, pos, after, guard⟩) h hd x (fun _ => rfl)).of_eq hs
    simp only [cOp] at hc
    cases hsl : isSlT P type with
    | false =>
      rw [hsl] at hc
      simp only [Option.some.injEq] at hc; subst hc
      exact mv x hs
    | true =>
      rw [hsl] at hc
      cases x with
      | tmp s =>
        simp only [Option.some.injEq] at hc; subst hc
        simp only [stepD] at hs
        cases dst with
        | none => exact hs.elim
        | some d => exact (step_take h hd s d rfl (fun _ => rfl)).of_eq hs
      | const v => simp only [Option.some.injEq] at hc; subst hc; exact mv _ hs
      | global v => simp only [Option.some.injEq] at hc; subst hc; exact mv _ hs
      | func v => simp only [Option.some.injEq] at hc; subst hc; exact mv _ hs
  | pick c x y =>
    simp only [cOp, Option.some.injEq] at hc; subst hc
    simp only [stepD] at hs
    have hcr := h.opd c
    cases hq : st.opd c with
    | val v =>
      rw [hq] at hs hcr
      have hv : a.eval c = v := hcr.val_eq
      cases v with
      | bool t =>
        have hrun : ∀ w, (execOp a.eval ⟨dst, .pick c x y, type, pos, after, guard⟩).run P w = .ok (.value (if t then a.eval x else a.eval y)) w := by
          intro w
          simp only [execOp, hv, asBool, Sem.run_bind, Sem.run_pure, Result.andThen_ok]
        cases t with
        | true => exact (good_put h hd _ _ w (Below.refl _ _) (hrun w) (h.opd x).view (view_not_tok _)).of_eq hs
        | false => exact (good_put h hd _ _ w (Below.refl _ _) (hrun w) (h.opd y).view (view_not_tok _)).of_eq hs
      | _ => exact hs.elim
    | _ => rw [hq] at hs; exact hs.elim
  | alloc t =>
    simp only [cOp] at hc
    cases hz : zeroT P t with
    | none => rw [hz] at hc; cases hc
    | some z =>
      rw [hz] at hc
      simp only [Option.map_some, Option.some.injEq] at hc; subst hc
      simp only [stepD] at hs
      cases dst with
      | none => exact hs.elim
      | some d =>
        simp only at hs
        cases g1 : notIn d (st.ob.map Prod.fst) <;> cases g2 : ones (z.map PV.val) <;> simp only [g1, g2] at hs <;> try exact hs.elim
        unfold zeroT at hz
        cases hi : P.info? t with
        | none => rw [hi] at hz; cases hz
        | some i =>
          rw [hi] at hz
          cases hzz : i.zero with
          | none => simp [hzz] at hz
          | some zv =>
            simp [hzz] at hz
            refine (step_alloc h hd d rfl _ z.toArray t g1 (zero_RC z g2) ?_).of_eq hs
            simp only [execOp, Instr.alloc, zeroValue, typeInfo, newVar, newRow, newObj, Sem.run_bind, Sem.run_pure, Result.andThen_ok, run_program, hi, hzz]
            subst hz
            simp [Sem.run]
  | box t x =>
    simp only [cOp, Option.some.injEq] at hc; subst hc
    simp only [stepD] at hs
    cases dst with
    | none => exact hs.elim
    | some d =>
      simp only at hs
      cases g1 : notIn d (st.ob.map Prod.fst) <;> cases g2 : ones (st.opd x).cells <;> simp only [g1, g2] at hs <;> try exact hs.elim
      obtain ⟨c1, c2⟩ := cells_of (h.opd x) g2
      refine (step_alloc h hd d rfl _ (a.eval x).cells t g1 ⟨by rw [← c1]; simp, fun i p v hp hv => c2 i p v hp (by rw [Array.getElem?_toList]; exact hv)⟩ ?_).of_eq hs
      simp only [execOp, Instr.box, newVar, newRow, newObj, Sem.run_bind, Sem.run_pure, Result.andThen_ok]
      rfl
  | build t parts =>
    simp only [cOp] at hc
    cases hz : zeroT P t with
    | none => rw [hz] at hc; cases hc
    | some z =>
      cases hf : fieldsT P t with
      | none => rw [hz, hf] at hc; cases hc
      | some fs =>
        rw [hz, hf] at hc
        cases hp : partsT fs parts.toList with
        | none => simp only [hp] at hc; cases hc
        | some qs =>
          simp only [hp, Option.map_some, Option.some.injEq] at hc; subst hc
          simp only [stepD] at hs
          cases g1 : ones (z.map PV.val) with
          | false => rw [g1] at hs; exact hs.elim
          | true =>
            rw [g1] at hs
            obtain ⟨l', cs', r1, r2, r3, r4⟩ := fill_sound h fs parts.toList qs _ z.toArray _ hp (zero_RC z g1) hs
            have hbuilt : P.built t (parts.map fun p => (p.1, a.eval p.2)).toList = some cs' := by
              unfold Program.built
              unfold zeroT at hz
              unfold fieldsT at hf
              cases hu : P.underlying t with
              | none => rw [hu] at hf; cases hf
              | some d =>
                rw [hu] at hf
                cases d with
                | struct fields =>
                  simp only at hf
                  cases hi : P.info? t with
                  | none => rw [hi] at hz; cases hz
                  | some i =>
                    cases hzz : i.zero with
                    | none => simp [hi, hzz] at hz
                    | some zv =>
                      simp [hi, hzz] at hz
                      subst hz
                      simp only [hzz, hf]
                      simpa using r1
                | _ => cases hf
            refine (good_put (v := .agg cs') h hd (.agg l') w (Below.refl _ _) ?_ (.imm _ _ ?_) (fun e sz es h => by cases h)).of_eq r4
            · have := run_build w t _ cs' hbuilt
              simp only [execOp, Sem.run_bind, Sem.run_pure, Result.andThen_ok]
              rw [this]
              rfl
            · have : RelI w M (.agg l') (.agg cs'.toList.toArray) := by
                refine .agg l' cs'.toList (by simpa using r2.1) (fun v hv => ?_) (fun i p v hp hv => (r2.2 i p v hp (by rw [← Array.getElem?_toList]; exact hv)).1)
                obtain ⟨j, hj, rfl⟩ := List.getElem_of_mem hv
                have hj' : j < l'.length := by rw [r2.1]; simpa using hj
                exact (r2.2 j _ _ (List.getElem?_eq_getElem hj') (by rw [← Array.getElem?_toList]; exact List.getElem?_eq_getElem hj)).2
              simpa using this
  | buildSlice t n parts =>
    simp only [cOp] at hc
    cases hu : P.underlying t with
    | none => rw [hu] at hc; cases hc
    | some d =>
      rw [hu] at hc
      cases d with
      | slice e =>
        simp only at hc
        cases g1 : szT P e with
        | none => rw [g1] at hc; cases hc
        | some sz =>
          cases g2 : zeroT P e with
          | none => rw [g1, g2] at hc; cases hc
          | some z =>
            cases g3 : denseT 0 parts.toList with
            | none => rw [g1, g2, g3] at hc; cases hc
            | some xs =>
              rw [g1, g2, g3] at hc
              simp only at hc
              cases b1 : Nat.beq xs.length n <;> cases b2 : Nat.ble (n * sz) 16777216 <;> cases b3 : Nat.beq z.length sz <;> cases b4 : Nat.ble 1 sz <;> simp only [b1, b2, b3, b4] at hc <;> try cases hc
              have e1 := nat_beq b1
              have e2 : n * sz ≤ 16777216 := Nat.le_of_ble_eq_true b2
              have e3 := nat_beq b3
              have e4 : 1 ≤ sz := Nat.le_of_ble_eq_true b4
              simp only [stepD] at hs
              obtain ⟨i, hi, his⟩ := szT_info g1
              unfold zeroT at g2
              cases hzz : i.zero with
              | none => simp [hi, hzz] at g2
              | some zv =>
                simp [hi, hzz] at g2
                have hzs : zv.cells.size = sz := by rw [← e3, ← g2]; simp
                intro K Q hK
                obtain ⟨es, cs', r1, r2, r3, r4, r5, r6, r7⟩ := elems_sound h sz parts.toList 0 xs _ ((Array.range (n * sz)).map (zv.cells[· % zv.cells.size]!)) g3 hs (by simp; rw [← e1]; exact Nat.le_refl _)
                have hlen : es.length = n := by rw [r3, e1]
                obtain ⟨hE, hS, hb1, hn1⟩ := h.rowNew cs' e (es.length * sz)
                have hh : (w.alloc (.cells cs' e)).heap[w.heap.size]? = some (.cells cs' e (0, 0)) := heap_alloc_new w _
                have hsize : cs'.size = n * sz := by rw [r2]; simp
                have hrun : (execOp a.eval ⟨dst, .buildSlice t n parts, type, pos, after, guard⟩).run P w = .ok (.value (.slice (some ⟨w.heap.size, 0, none⟩) n n)) (w.alloc (.cells cs' e)) := by
                  by_cases hz0 : n * i.size = 0
                  · have hn0 : n = 0 := by
                      rcases Nat.mul_eq_zero.1 hz0 with h0 | h0
                      · exact h0
                      · omega
                    subst hn0
                    have hpn : parts.toList = [] := by
                      have hx0 : xs = [] := List.eq_nil_of_length_eq_zero e1
                      subst hx0
                      cases hp : parts.toList with
                      | nil => rfl
                      | cons q r =>
                        obtain ⟨j, y⟩ := q
                        rw [hp] at g3
                        simp only [denseT] at g3
                        split at g3
                        · injection g3 with g3; cases g3
                        · cases g3
                    have hpa : parts = #[] := by apply Array.ext'; simpa using hpn
                    have hcs : cs' = #[] := Array.eq_empty_of_size_eq_zero (by rw [hsize]; simp)
                    subst hpa; subst hcs
                    have hr0 : Array.map (fun (_ : Nat) => (default : Value)) (Array.range 0) = #[] := Array.eq_empty_of_size_eq_zero (by simp)
                    simp [execOp, Instr.buildSlice, run_underlying hu, sizeOf, typeInfo, hi, Instr.fill, newRow, newObj, Sem.run]
                    rw [hr0]
                  · have := run_buildSlice (P := P) w t e n (parts.map fun p => (p.1, a.eval p.2)) cs' i zv hu hi hzz (by rw [his]; omega) hz0 (by rw [his]; simpa using r1)
                    simp only [execOp, Sem.run_bind, Sem.run_pure, Result.andThen_ok]
                    rw [this]
                    rfl
                cases dst with
                | none =>
                  have hδ : dput none (PV.sl true e sz es) = δ := r7
                  subst hδ
                  exact wp_value hrun (hK _ _ _ _ hS)
                | some d =>
                  have hδ : dput (some d) (PV.sl true e sz es) = δ := r7
                  subst hδ
                  have hle : w0.heap.size ≤ w.heap.size := h.bel.size
                  have hmax : n ≤ maxLen := by
                    have : n ≤ n * sz := Nat.le_mul_of_pos_right _ (by omega)
                    simp only [maxLen]; omega
                  have hS2 := hS.putTok d (.slice (some ⟨w.heap.size, 0, none⟩) n n) (hd d rfl) e sz es
                    (RelI_row' hlen.symm hh (Nat.le_refl _) r5 (fun j hj m hm => by simp only [if_true] at hm; injection hm with hm; show j < m; rw [hlen] at hm; omega)
                      (fun i0 x j p hx hp => by obtain ⟨v, q1, q2, q3⟩ := r6 i0 x j p hx hp; exact ⟨v, by simpa using q1, q2.ext hE, q3⟩))
                    (.inr ⟨w.heap.size, n, cs', by rw [hlen], hle, by simp, hh, by omega, hmax, hsize⟩)
                    (fun s e' sz' es' g _ hs hg => by
                      have : w.heap.size = g := by simpa [Value.ownBlock] using hg
                      rw [← this]; exact hn1 s _ _ _ hs)
                    (fun g x hg => by
                      have : w.heap.size = g := by simpa [Value.ownBlock] using hg
                      rw [← this]; exact hb1 x)
                  exact wp_value hrun (hK _ _ _ _ hS2)
      | _ => cases hc
  | load t x =>
    simp only [cOp] at hc
    cases hu : P.underlying t with
    | none => rw [hu] at hc; cases hc
    | some d =>
      cases hsz : szT P t with
      | none => rw [hu, hsz] at hc; cases hc
      | some sz =>
        rw [hu, hsz] at hc
        simp only at hc
        have key : kk = .load (isAggT P t) sz x ∧ (isAggT P t = false → sz = 1) := by
          cases g1 : isAggT P t <;> cases g2 : Nat.beq sz 1 <;> simp only [g1, g2] at hc <;> first | (cases hc; done) | (injection hc with hc; exact ⟨hc.symm, fun h => by first | exact nat_beq g2 | cases h⟩)
        obtain ⟨rfl, h1⟩ := key
        have hxr := h.opd x
        simp only [stepD] at hs
        cases hq : st.opd x with
        | loc b off =>
          rw [hq] at hs hxr
          simp only at hs
          cases g1 : notIn b ban <;> cases g2 : lenGe ((st.obj b).drop off) sz <;> simp only [g1, g2] at hs <;> try exact hs.elim
          obtain ⟨bb, hb, hv⟩ := loc_eq hxr
          exact (step_load h hd t sz x d rfl hu hsz h1 _ _ hv (h.cellsAt hb) ((lenGe_iff _ _).1 g2)).of_eq hs
        | ref l =>
          rw [hq] at hs hxr
          simp only at hs
          cases g2 : lenGe l sz <;> simp only [g2] at hs <;> try exact hs.elim
          obtain ⟨ad, hv, hcell⟩ := ref_cellsAt hxr
          exact (step_load h hd t sz x d rfl hu hsz h1 _ _ hv hcell ((lenGe_iff _ _).1 g2)).of_eq hs
        | _ => rw [hq] at hs; exact hs.elim
  | store t ad x =>
    simp only [cOp] at hc
    cases hdst : dst with
    | some d => rw [hdst] at hc; cases hc
    | none =>
      subst hdst
      cases hsz : szT P t with
      | none => rw [hsz] at hc; cases hc
      | some sz =>
        rw [hsz] at hc
        simp only [Option.some.injEq] at hc; subst hc
        simp only [stepD] at hs
        cases hq : st.opd ad with
        | loc b off =>
          rw [hq] at hs
          simp only at hs
          cases g1 : lenIs (st.opd x).cells sz <;> cases g2 : ones (st.opd x).cells <;> cases g3 : lenGe (st.obj b) (off + sz) <;> simp only [g1, g2, g3] at hs <;> try exact hs.elim
          exact (step_store h (.inr trivial) ad x t sz b off rfl hsz hq g1 g2 g3 rfl).of_eq hs
        | _ => rw [hq] at hs; exact hs.elim
  | nilCheck x =>
    simp only [cOp, Option.some.injEq] at hc; subst hc
    simp only [stepD] at hs
    have hxr := h.opd x
    cases hq : st.opd x with
    | loc b off =>
      rw [hq] at hs hxr
      obtain ⟨bb, hb, hv⟩ := loc_eq hxr
      exact (good_put h hd _ _ w (Below.refl _ _) (by simp only [execOp, hv]; rfl) (.loc b off bb hb) (fun e sz es h => by cases h)).of_eq hs
    | ref l =>
      rw [hq] at hs hxr
      obtain ⟨ad, hv, _⟩ := ref_cellsAt hxr
      rw [hv] at hxr
      exact (good_put h hd _ _ w (Below.refl _ _) (by simp only [execOp, hv]; rfl) hxr (fun e sz es h => by cases h)).of_eq hs
    | _ => rw [hq] at hs; exact hs.elim
  | binOp b t x y t' =>
    simp only [cOp] at hc
    cases hag : isAggT P t with
    | false =>
      rw [hag] at hc
      simp only at hc
      split at hc
      · rename_i k hu
        simp only [Option.some.injEq] at hc; subst hc
        refine bin2_sound h hd hs fun u v r hu hv hb w => ?_
        simp only [execOp, hu, hv, Sem.run_bind]
        rw [bin2_run0 t' hb]; rfl
      · rename_i k hu
        simp only [Option.some.injEq] at hc; subst hc
        refine bin2_sound h hd hs fun u v r hu hv hb w => ?_
        simp only [execOp, hu, hv, Sem.run_bind]
        rw [bin2_run1 t' hb]; rfl
      · rename_i k hu
        simp only [Option.some.injEq] at hc; subst hc
        refine bin2_sound h hd hs fun u v r hu hv hb w => ?_
        simp only [execOp, hu, hv, Sem.run_bind]
        rw [bin2_run2 t' hb]; rfl
      · rename_i k hu
        simp only [Option.some.injEq] at hc; subst hc
        refine bin2_sound h hd hs fun u v r hu hv hb w => ?_
        simp only [execOp, hu, hv, Sem.run_bind]
        rw [bin2_run3 t' hb]; rfl
      · rename_i hu
        simp only [Option.some.injEq] at hc; subst hc
        refine bin2_sound h hd hs fun u v r hu hv hb w => ?_
        simp only [execOp, hu, hv, Sem.run_bind]
        rw [bin2_run4 t' hb]; rfl
      · simp only [Option.some.injEq] at hc; subst hc
        exact scal_sound h hd (fun cs b e => by cases e) hs
    | true =>
      rw [hag] at hc
      simp only at hc
      split at hc
      · rename_i ts hts
        simp only [Option.some.injEq] at hc; subst hc
        exact eqA_sound h hd (.inl ⟨rfl, rfl⟩) hts rfl hs
      · rename_i ts hts
        simp only [Option.some.injEq] at hc; subst hc
        exact eqA_sound h hd (.inr ⟨rfl, rfl⟩) hts rfl hs
      · cases hc
  | unOp b t x => simp only [cOp, Option.some.injEq] at hc; subst hc; exact scal_sound h hd (fun cs b e => by cases e) hs
  | convert b t x => simp only [cOp, Option.some.injEq] at hc; subst hc; exact scal_sound h hd (fun cs b e => by cases e) hs
  | index t x i =>
    simp only [cOp] at hc
    split at hc
    · rename_i hty
      simp only [Option.some.injEq] at hc; subst hc
      refine bin2_sound h hd hs fun u v r hu hv hb w => ?_
      simp only [execOp, hu, hv, Sem.run_bind]
      rw [bin2_run5 hty hb]; rfl
    · cases hc
  | fieldAddr t x f =>
    simp only [cOp] at hc
    cases hu : P.underlying t with
    | none => rw [hu] at hc; cases hc
    | some d =>
      rw [hu] at hc
      cases d with
      | struct fs =>
        simp only at hc
        cases hf : fs[f]? with
        | none => rw [hf] at hc; cases hc
        | some fd =>
          rw [hf] at hc
          simp only at hc
          cases hsz : szT P fd.type with
          | none => rw [hsz] at hc; cases hc
          | some sz =>
            rw [hsz] at hc
            cases sz with
            | zero => cases hc
            | succ n =>
              simp only [Option.some.injEq] at hc; subst hc
              simp only [stepD] at hs
              have hxr := h.opd x
              cases hq : st.opd x with
              | loc b off =>
                rw [hq] at hs hxr
                obtain ⟨bb, hb, hv⟩ := loc_eq hxr
                refine (step_field h hd t f x fs fd n rfl hu hf hsz _ hv _ ?_ (fun e sz es h => by cases h)).of_eq hs
                have : (⟨bb, off, none⟩ : Addr).add fd.offset = ⟨bb, off + fd.offset, none⟩ := by unfold Addr.add; split <;> simp_all
                rw [this]
                exact .loc b _ bb hb
              | ref l =>
                rw [hq] at hs hxr
                obtain ⟨ad, hv, _⟩ := ref_cellsAt hxr
                exact (step_field h hd t f x fs fd n rfl hu hf hsz _ hv _ (ref_drop hxr hv _) (fun e sz es h => by cases h)).of_eq hs
              | _ => rw [hq] at hs; exact hs.elim
      | _ => cases hc
  | indexAddr t x i =>
    simp only [cOp] at hc
    cases hu : P.underlying t with
    | none => rw [hu] at hc; cases hc
    | some d =>
      rw [hu] at hc
      cases d with
      | slice e =>
        simp only at hc
        cases hsz : szT P e with
        | none => rw [hsz] at hc; cases hc
        | some sz =>
          rw [hsz] at hc
          simp only [Option.map_some, Option.some.injEq] at hc; subst hc
          obtain ⟨ie, hie, hies⟩ := szT_info hsz
          simp only [stepD] at hs
          have hxr := h.opd x
          have hir := h.opd i
          cases hq : st.opd x with
          | sl own e' sz' es =>
            cases hqi : st.opd i with
            | val v =>
              cases v with
              | int k n =>
                rw [hq, hqi] at hs
                rw [hq] at hxr
                rw [hqi] at hir
                have hiv : a.eval i = .int k n := hir.val_eq
                simp only at hs
                cases g1 : Nat.beq sz sz' with
                | false => rw [g1] at hs; exact hs.elim
                | true =>
                  rw [g1] at hs
                  obtain ⟨hn0, c, hcx, hk⟩ := hs
                  have hes := nat_beq g1
                  subst hes
                  have hxi : RelI w M (.sl own e' sz es) (a.eval x) := by
                    generalize a.eval x = u at hxr ⊢
                    cases hxr with | imm p v h => exact h
                  generalize hux : a.eval x = u at hxi
                  cases hxi with
                  | sl own e' sz es A cap vs hcap hsz' ha hm hr =>
                    obtain ⟨ad, hA⟩ := ha _ _ hcx
                    subst hA
                    have hlt : n.toNat < es.length := (List.getElem?_eq_some_iff.1 hcx).1
                    refine (good_put h hd (.ref c) (.pointer (some (ad.add (n.toNat * sz)))) w (Below.refl _ _) ?_ ?_ (fun e sz es h => by cases h)).of_eq hk
                    · have helem : P.elem t = e := by simp [Program.elem, hu]
                      have := run_indexAt_slice (P := P) w t ad es.length cap k n (by rw [helem]; exact hu)
                      simp only [execOp, hux, hiv, Sem.run_bind, Sem.run_pure, Result.andThen_ok]
                      rw [this, if_pos ⟨hn0, by omega⟩, helem]
                      simp [sizeOf, typeInfo, hie, hies]
                    · refine .ref c _ (fun j => vs n.toNat j) (fun j p hp => ?_) (fun j p hp => hr _ _ j p hcx hp)
                      obtain ⟨q1, q2, q3⟩ := hm ad _ _ j p rfl hcx hp
                      rw [add_add]
                      exact ⟨.inr q1, q2, q3⟩
              | _ => rw [hq, hqi] at hs; exact hs.elim
            | _ => rw [hq, hqi] at hs; exact hs.elim
          | arr e' sz' m f =>
            cases hqi : st.opd i with
            | val v =>
              cases v with
              | int k n =>
                rw [hq, hqi] at hs
                rw [hq] at hxr
                rw [hqi] at hir
                have hiv : a.eval i = .int k n := hir.val_eq
                simp only at hs
                cases g1 : Nat.beq sz sz' with
                | false => rw [g1] at hs; exact hs.elim
                | true =>
                  rw [g1] at hs
                  obtain ⟨hn0, hnm, hk⟩ := hs
                  have hes := nat_beq g1
                  subst hes
                  have hxi : RelI w M (.arr e' sz m f) (a.eval x) := by
                    generalize a.eval x = u at hxr ⊢
                    cases hxr with | imm p v h => exact h
                  generalize hux : a.eval x = u at hxi
                  cases hxi with
                  | arr e' sz m f A cap vs hcap hsz' ha hm hr =>
                    have hlt : n.toNat < m := by omega
                    obtain ⟨ad, hA⟩ := ha _ hlt
                    subst hA
                    refine (good_put h hd (.ref (f n.toNat)) (.pointer (some (ad.add (n.toNat * sz)))) w (Below.refl _ _) ?_ ?_ (fun e sz es h => by cases h)).of_eq hk
                    · have helem : P.elem t = e := by simp [Program.elem, hu]
                      have := run_indexAt_slice (P := P) w t ad m cap k n (by rw [helem]; exact hu)
                      simp only [execOp, hux, hiv, Sem.run_bind, Sem.run_pure, Result.andThen_ok]
                      rw [this, if_pos ⟨hn0, by omega⟩, helem]
                      simp [sizeOf, typeInfo, hie, hies]
                    · refine .ref _ _ (fun j => vs n.toNat j) (fun j p hp => ?_) (fun j p hp => hr _ j p hlt hp)
                      obtain ⟨q1, q2, q3⟩ := hm ad _ j p rfl hlt hp
                      rw [add_add]
                      exact ⟨.inr q1, q2, q3⟩
              | _ => rw [hq, hqi] at hs; exact hs.elim
            | _ => rw [hq, hqi] at hs; exact hs.elim
          | _ => rw [hq] at hs; exact hs.elim
      | _ => cases hc
  | extract x i =>
    simp only [cOp, Option.some.injEq] at hc; subst hc
    simp only [stepD] at hs
    have hxr := h.opd x
    cases hq : st.opd x with
    | tup l =>
      rw [hq] at hs hxr
      simp only at hs
      cases g1 : lenGe l (i + 1) with
      | false => rw [g1] at hs; exact hs.elim
      | true =>
        rw [g1] at hs
        have hil := (lenGe_iff _ _).1 g1
        generalize hux : a.eval x = u at hxr
        cases hxr with
        | imm p v h' =>
          cases h' with
          | tup l cs hl hr =>
            have hi : i < cs.length := by omega
            have hv : cs[i]? = some cs[i] := List.getElem?_eq_getElem hi
            have hp : l[i]? = some (l[i]'(by omega)) := List.getElem?_eq_getElem (by omega)
            refine (good_put h hd _ cs[i] w (Below.refl _ _) ?_ (.imm _ _ ?_) (view_not_tok _)).of_eq hs
            · simp only [execOp, hux, Instr.extract, Sem.run_bind, List.getElem?_toArray, hv]
              rfl
            · rw [getN_get l i _ hp]
              exact (hr i _ _ hp hv).view
    | _ => rw [hq] at hs; exact hs.elim
  | call c =>
    obtain ⟨callee, args, argTypes⟩ := c
    cases callee with
    | invoke r m => simp [cOp] at hc
    | value f =>
      cases f with
      | func f =>
        simp only [cOp] at hc
        cases g1 : callable P f with
        | false => rw [g1] at hc; cases hc
        | true =>
          rw [g1] at hc
          simp only [Option.some.injEq] at hc; subst hc
          simp only [stepD] at hs
          cases g2 : locsOk st ban args.toList with
          | false => rw [g2] at hs; exact hs.elim
          | true =>
            rw [g2] at hs
            obtain ⟨r, hr, hk⟩ := hs
            exact (step_call h hd f args.toList argTypes (by simp) g1 r hr).of_eq hk
      | _ => simp [cOp] at hc
    | builtin b =>
      cases b with
      | len =>
        simp only [cOp] at hc
        split at hc
        · rename_i x t hx ht
          have hx' : args = #[x] := by apply Array.ext'; simpa using hx
          have ht' : argTypes = #[t] := by apply Array.ext'; simpa using ht
          subst hx'; subst ht'
          cases g1 : isSlT P t with
          | false =>
            rw [g1] at hc
            simp only [Option.some.injEq] at hc; subst hc
            exact scal_sound h hd (fun cs b e => by cases e) hs
          | true =>
            rw [g1] at hc
            simp only [Option.some.injEq] at hc; subst hc
            unfold isSlT at g1
            cases hu : P.underlying t with
            | none => rw [hu] at g1; cases g1
            | some d =>
              rw [hu] at g1
              cases d with
              | slice e =>
                have helem : P.elem t = e := by simp [Program.elem, hu]
                have hrun : ∀ (A : Option Addr) (n c : Nat), a.eval x = .slice A n c → ∀ w, (execOp a.eval ⟨dst, .call ⟨.builtin .len, #[x], #[t]⟩, type, pos, after, guard⟩).run P w = .ok (.value (.int .i64 n)) w := by
                  intro A n c hv w
                  have := run_len_slice (P := P) w t type A n c (by rw [helem]; exact hu)
                  simp only [execOp, resolve, invoke, builtin, Sem.run_bind, Sem.run_pure, Result.andThen_ok, List.map_toArray, List.map_cons, List.map_nil, hv]
                  rw [this]
                  rfl
                simp only [stepD] at hs
                have hxr := h.opd x
                cases hq : st.opd x with
                | sl own e' sz es =>
                  rw [hq] at hs hxr
                  generalize hux : a.eval x = u at hxr
                  cases hxr with
                  | imm p v h' =>
                    cases h' with
                    | sl own e' sz es A c vs hc hsz ha hm hr =>
                      exact (good_put h hd _ _ w (Below.refl _ _) (hrun _ _ _ hux w) (.imm _ _ (.val _ rfl)) (fun e sz es h => by cases h)).of_eq hs
                | arr e' sz m f =>
                  rw [hq] at hs hxr
                  generalize hux : a.eval x = u at hxr
                  cases hxr with
                  | imm p v h' =>
                    cases h' with
                    | arr e' sz m f A c vs hc hsz ha hm hr =>
                      exact (good_put h hd _ _ w (Below.refl _ _) (hrun _ _ _ hux w) (.imm _ _ (.val _ rfl)) (fun e sz es h => by cases h)).of_eq hs
                | val v =>
                  rw [hq] at hs hxr
                  cases v with
                  | slice A n c => exact (good_put h hd _ _ w (Below.refl _ _) (hrun _ _ _ hxr.val_eq w) (.imm _ _ (.val _ rfl)) (fun e sz es h => by cases h)).of_eq hs
                  | _ => exact hs.elim
                | _ => rw [hq] at hs; exact hs.elim
              | _ => cases g1
        · cases hc
      | append =>
        simp only [cOp] at hc
        split at hc
        · rename_i s x t t' hx ht
          have hx' : args = #[.tmp s, x] := by apply Array.ext'; simpa using hx
          have ht' : argTypes = #[t, t'] := by apply Array.ext'; simpa using ht
          subst hx'; subst ht'
          cases g1 : Nat.beq t t' with
          | false => rw [g1] at hc; cases hc
          | true =>
            have := nat_beq g1
            subst this
            rw [g1] at hc
            cases hu : P.underlying t with
            | none => rw [hu] at hc; cases hc
            | some d =>
              rw [hu] at hc
              cases d with
              | slice e =>
                simp only at hc
                cases hi : P.info? e with
                | none => rw [hi] at hc; cases hc
                | some i =>
                  rw [hi] at hc
                  simp only at hc
                  cases hz : i.zero with
                  | none => rw [hz] at hc; cases hc
                  | some z =>
                    rw [hz] at hc
                    simp only at hc
                    cases b1 : Nat.beq z.cells.size i.size <;> cases b2 : Nat.ble 1 i.size <;> simp only [b1, b2] at hc <;> try cases hc
                    have e1 := nat_beq b1
                    have e2 : 1 ≤ i.size := Nat.le_of_ble_eq_true b2
                    simp only [stepD] at hs
                    cases dst with
                    | none => exact hs.elim
                    | some d =>
                      simp only at hs
                      split at hs
                      · rename_i e' sz' es own e2' sz'' ys hgs hgx
                        cases c1 : Nat.beq e e' <;> cases c2 : Nat.beq i.size sz' <;> cases c3 : Nat.beq i.size sz'' <;> simp only [c1, c2, c3] at hs <;> try exact hs.elim
                        have q1 := nat_beq c1
                        have q2 := nat_beq c2
                        have q3 := nat_beq c3
                        subst q1; subst q2; subst q3
                        obtain ⟨hb, hm, hk⟩ := hs
                        exact (step_app h hd d s rfl x t e i.size i z rfl hu hi hz e1 rfl e2 es ys own e2' hgx hb hm hgs).of_eq hk
                      · rename_i own e2' sz'' ys hgs hgx
                        cases c3 : Nat.beq i.size sz'' <;> simp only [c3] at hs <;> try exact hs.elim
                        have q3 := nat_beq c3
                        subst q3
                        obtain ⟨hb, hm, hk⟩ := hs
                        exact (step_app_nil h hd d s rfl x t e i.size i z rfl hu hi hz e1 rfl e2 ys own e2' hgx hb hm hgs).of_eq hk
                      · exact hs.elim
              | _ => cases hc
        · cases hc
      | min => simp only [cOp, Option.some.injEq] at hc; subst hc; exact scal_sound h hd (fun cs b e => by cases e) hs
      | max => simp only [cOp, Option.some.injEq] at hc; subst hc; exact scal_sound h hd (fun cs b e => by cases e) hs
      | _ => simp [cOp] at hc
  | _ => simp [cOp] at hc

end
end Go.Proofs.Ytflfeikkcpcdiaa.Ev
