/-  Sums and differences of two words. -/
import Derived.Test.YtpdlcbmnmeihoaaGreatDoorBFh
set_option linter.unusedVariables false
set_option linter.unusedSimpArgs false
set_option linter.unnecessarySimpa false
namespace Go.Proofs.YtpdlcbmnmeihoaaGreatDoor.Ev
open Go Go.RowKit
section
variable {ι : Type} {cx : ι → PV × Value} {P : Program} {w0 : Base} {w w' : World} {N M M' : Mut} {β β' : Loc} {nt : Nat} {st st' : St} {a : Act} {o : Oper} {δ : Delta} {ban : List Nat}
def extNm : Bool → String
  | true => "math/bits.Sub64"
  | false => "math/bits.Add64"
theorem ext_find {f : Nat} {fn : Func} {sb : Bool} (hf : P.funcs[f]? = some fn) (hb : fn.body.isNone = true) (ho : fn.origin = "") (hn : fn.name = extNm sb) (args : Array Value) :
    (callFunc f args).run P w = ((match sb with
      | false => (do let (x, y, c) ← Extern.MathBitsCarry.three "Add64" args; pure (Extern.MathBitsCarry.pair ((x + y + c) % Extern.MathBitsCarry.m64) ((x + y + c) / Extern.MathBitsCarry.m64)))
      | true => (do let (x, y, b) ← Extern.MathBitsCarry.three "Sub64" args; pure (Extern.MathBitsCarry.pair ((x + Extern.MathBitsCarry.m64 - y - b) % Extern.MathBitsCarry.m64) (if x < y + b then 1 else 0))) : Sem Value).run P w).andThen fun v w' => .ok (.value v) w' := by
  have h1 : Extern.findNext fn = none := by
    cases fn
    cases sb <;> (dsimp only [extNm] at ho hn; subst ho; subst hn; kernel_rfl)
  have h2 : Extern.find fn = some (match sb with
      | false => (fun args => do let (x, y, c) ← Extern.MathBitsCarry.three "Add64" args; pure (Extern.MathBitsCarry.pair ((x + y + c) % Extern.MathBitsCarry.m64) ((x + y + c) / Extern.MathBitsCarry.m64)))
      | true => (fun args => do let (x, y, b) ← Extern.MathBitsCarry.three "Sub64" args; pure (Extern.MathBitsCarry.pair ((x + Extern.MathBitsCarry.m64 - y - b) % Extern.MathBitsCarry.m64) (if x < y + b then 1 else 0)))) := by
    cases fn
    cases sb <;> (dsimp only [extNm] at ho hn; subst ho; subst hn; kernel_rfl)
  have h3 : (fn.name == "runtime.NumGoroutine") = false := by rw [hn]; cases sb <;> rfl
  unfold callFunc
  simp only [Sem.run_bind, run_program, Result.andThen_ok, hf, h3, hb, Bool.false_eq_true, if_false, if_true]
  have h4 : (mark (.extern f)).run P w = .ok () w := rfl
  simp only [h4, Result.andThen_ok, h1, h2, Sem.run_bind, Sem.run_pure]
  cases sb <;> rfl
theorem three_run (nm : String) {k1 k2 k3 : IntKind} {a b c : Int} (hc : c ≤ 1) : (Extern.MathBitsCarry.three nm #[.int k1 a, .int k2 b, .int k3 c]).run P w = .ok (a.toNat, b.toNat, c.toNat) w := by
  have e : (Extern.MathBitsCarry.three nm #[.int k1 a, .int k2 b, .int k3 c]) = (if c.toNat > 1 then (do let _ ← (unsupported (.noEntry ("extern/math/bits." ++ nm ++ ": a carry that is neither 0 nor 1")) : Sem PUnit); pure (a.toNat, b.toNat, c.toNat)) else pure (a.toNat, b.toNat, c.toNat) : Sem (Nat × Nat × Nat)) := by
    show (if c.toNat > 1 then _ else _) = _
    split
    · rfl
    · rfl
  rw [e, if_neg (by omega)]
  rfl
theorem step_ext {sb : Bool} {f : Nat} {x y c : Operand} {ats : Array Nat} (h : SR cx w0 N nt st a w M β) (hd : ∀ x, o.dst = some x → x < nt) (he : extOf P f = some sb) (ho : o.op = .call { callee := .value (.func f), args := #[x, y, c], argTypes := ats })
    (hs : stepD P (CStar P) (XStar P) ban (.ext sb x y c) o.dst st (fun δ' => δ' = δ)) : Good cx P w0 N nt st a w o δ := by
  simp only [stepD, gd_and] at hs
  have hxr := h.opd x
  have hyr := h.opd y
  have hcr := h.opd c
  split at hs
  · rename_i k1 u k2 v k3 n hx hy hc
    rw [hx] at hxr; rw [hy] at hyr; rw [hc] at hcr
    obtain ⟨hn, hs⟩ := hs
    have hfn : ∃ fn, P.funcs[f]? = some fn ∧ fn.body.isNone = true ∧ fn.origin = "" ∧ fn.name = extNm sb := by
      unfold extOf at he
      split at he
      · rename_i fn hf
        refine ⟨fn, hf, ?_⟩
        split at he
        · rename_i g1 g2
          injection he with he
          subst he
          simp only [Bool.and_eq_true, decide_eq_true_eq] at g1
          exact ⟨g1.1, g1.2, of_decide_eq_true g2⟩
        · rename_i g1 g2 g3
          injection he with he
          subst he
          simp only [Bool.and_eq_true, decide_eq_true_eq] at g1
          exact ⟨g1.1, g1.2, of_decide_eq_true g3⟩
        · cases he
      · cases he
    obtain ⟨fn, q1, q2, q3, q4⟩ := hfn
    have hr : ∀ (v1 v2 : Int), Rel w M β w0.old (.tup [.val (.int .u64 v1), .val (.int .u64 v2)]) (.tuple #[.int .u64 v1, .int .u64 v2]) := fun v1 v2 => by
      refine .tup _ [.int .u64 v1, .int .u64 v2] rfl (fun i p v hp hv => ?_)
      match i, hp, hv with
      | 0, hp, hv => injection hp with hp; injection hv with hv; subst hp; subst hv; exact .val _ rfl
      | 1, hp, hv => injection hp with hp; injection hv with hv; subst hp; subst hv; exact .val _ rfl
      | n + 2, hp, hv => simp at hp
    have hrun0 : ∀ r, ((callFunc f #[.int k1 u, .int k2 v, .int k3 n]).run P w = .ok (.value r) w) → (execOp a.eval o).run P w = .ok (.value r) w := fun r hr => by
      have e : a.eval (.func f) = .func (.func f) #[] #[] := rfl
      simp only [execOp, ho, resolve, invoke, Deferred.ofValue, e, Sem.run_bind, Sem.run_pure, Result.andThen_ok, List.map_toArray, List.map_cons, List.map_nil, hxr.val_eq, hyr.val_eq, hcr.val_eq]
      exact hr
    cases sb with
    | false =>
      refine (good_put h hd (extV false u v n) _ w (Below.refl _ _) (hrun0 _ ?_) (hr _ _) (no_own rfl)).of_eq hs
      rw [ext_find q1 q2 q3 q4]
      simp only [Sem.run_bind, three_run "Add64" hn, Result.andThen_ok, Sem.run_pure]
      rfl
    | true =>
      refine (good_put h hd (extV true u v n) _ w (Below.refl _ _) (hrun0 _ ?_) (hr _ _) (no_own rfl)).of_eq hs
      rw [ext_find q1 q2 q3 q4]
      simp only [Sem.run_bind, three_run "Sub64" hn, Result.andThen_ok, Sem.run_pure]
      unfold Extern.MathBitsCarry.pair subC
      by_cases hlt : u.toNat < v.toNat + n.toNat
      · rw [if_pos hlt, show Nat.blt u.toNat (v.toNat + n.toNat) = true from Nat.ble_eq_true_of_le hlt]; rfl
      · rw [if_neg hlt, show Nat.blt u.toNat (v.toNat + n.toNat) = false by cases hb : Nat.blt u.toNat (v.toNat + n.toNat) with | false => rfl | true => exact absurd (Nat.le_of_ble_eq_true hb) hlt]; rfl
  · exact hs.elim
end
end Go.Proofs.YtpdlcbmnmeihoaaGreatDoor.Ev
namespace Go.Proofs.YtpdlcbmnmeihoaaGreatDoor.Ev
open Go Go.RowKit
section
variable {ι : Type} {cx : ι → PV × Value} {P : Program} {w0 : Base} {w : World} {N M : Mut} {β : Loc} {nt : Nat} {st : St} {a : Act} {o : Oper} {δ : Delta} {ban : List Nat}
theorem scal_sound (h : SR cx w0 N nt st a w M β) (hd : ∀ x, o.dst = some x → x < nt) (hsel : ∀ cs b, o.op ≠ .select cs b) (hs : scalK P st o o.dst (fun δ' => δ' = δ)) : Good cx P w0 N nt st a w o δ := by
  unfold scalK at hs
  cases ha : allVal st o.op.operands.toList with
  | false => rw [ha] at hs; exact hs.elim
  | true =>
    rw [ha] at hs
    have he := h.valOf _ ha
    have hx : execOp a.eval o = execOp st.valOf o := execOp_congr o hsel (fun x hx => he x (by simpa using hx))
    obtain ⟨n, hn, hk⟩ := pureRun_run _ _ hs w
    cases n with
    | value v =>
      simp only at hk
      cases hv : oneV v with
      | false => rw [hv] at hk; exact hk.elim
      | true =>
        rw [hv] at hk
        have hk' : dput o.dst (.val v) = δ := hk
        rw [← hk']
        exact good_put h hd _ v w (Below.refl _ _) (by rw [hx]; exact hn) (.val v (by rw [← oneV_eq]; exact hv)) (no_own rfl)
    | _ => exact hk.elim
theorem equal_nil {t e : Nat} {ad : Addr} {n c : Nat} (w : World) (hty : P.underlying t = some (.slice e)) : (Op.equal t (.slice (some ad) n c) (.slice none 0 0)).run P w = .ok false w := by
  unfold Op.equal Op.maxDepth
  unfold Op.equalIn
  simp only [Sem.run_bind, run_underlying hty, Result.andThen_ok]
  rfl
theorem nil_sound {x y : Operand} {tag : Nat} {v : Value} (h : SR cx w0 N nt st a w M β) (hd : ∀ x, o.dst = some x → x < nt)
    (hy : a.eval y = v) (hs : nilCmp st x v tag o.dst (fun δ' => δ' = δ))
    (hrun : ∀ ad n c, a.eval x = .slice (some ad) n c → a.eval y = .slice none 0 0 → tag = 6 ∨ tag = 7 → ∀ w, (execOp a.eval o).run P w = .ok (.value (.bool (tag == 7))) w) : Good cx P w0 N nt st a w o δ := by
  have hxr := h.opd x
  unfold nilCmp at hs
  split at hs
  · rename_i v' s hsv
    have key : 0 < s.n → ∃ ad c, a.eval x = .slice (some ad) s.n c := by
      intro hn
      generalize st.opd x = p at hsv hxr
      generalize a.eval x = u at hxr
      cases hxr with
      | row q s' hs' ad c vs hc hsz ha hm hr =>
        rw [hsv] at hs'
        injection hs' with hs'
        subst hs'
        obtain ⟨ad', rfl⟩ := ha 0 hn
        exact ⟨ad', c, rfl⟩
      | _ => exact absurd hsv (by simp [PV.sv])
    split at hs
    · simp only [gd_and] at hs
      obtain ⟨hn, hs⟩ := hs
      obtain ⟨ad, c, hx⟩ := key hn
      exact (good_put h hd (.val (.bool false)) (.bool false) w (Below.refl _ _) (hrun ad _ c hx hy (.inl rfl) w) (.val _ rfl) (no_own rfl)).of_eq hs
    · simp only [gd_and] at hs
      obtain ⟨hn, hs⟩ := hs
      obtain ⟨ad, c, hx⟩ := key hn
      exact (good_put h hd (.val (.bool true)) (.bool true) w (Below.refl _ _) (hrun ad _ c hx hy (.inr rfl) w) (.val _ rfl) (no_own rfl)).of_eq hs
    · exact hs.elim
  · exact hs.elim
theorem bin2_sound {x y : Operand} {tag : Nat} (h : SR cx w0 N nt st a w M β) (hd : ∀ x, o.dst = some x → x < nt)
    (hs : stepD P (CStar P) (XStar P) ban (.bin2 tag x y) o.dst st (fun δ' => δ' = δ))
    (hrun : ∀ (u v r : Value), a.eval x = u → a.eval y = v → bin2 tag u v = some (true, r) → ∀ w, (execOp a.eval o).run P w = .ok (.value r) w)
    (hnil : ∀ ad n c, a.eval x = .slice (some ad) n c → a.eval y = .slice none 0 0 → tag = 6 ∨ tag = 7 → ∀ w, (execOp a.eval o).run P w = .ok (.value (.bool (tag == 7))) w := by intro _ _ _ _ _ h; exfalso; omega) : Good cx P w0 N nt st a w o δ := by
  simp only [stepD, gd_and] at hs
  have hxr := h.opd x
  have hyr := h.opd y
  split at hs
  · rename_i u v hx hy
    rw [hx] at hxr
    rw [hy] at hyr
    split at hs
    · rename_i c r hb
      cases c with
      | false => exact hs.elim
      | true =>
        have hone : r.oneCell' = true := by
          unfold bin2 at hb
          split at hb <;> (try split at hb) <;> first | (injection hb with hb; injection hb with _ hb; subst hb; rfl) | cases hb
        exact (good_put h hd (.val r) r w (Below.refl _ _) (hrun u v r hxr.val_eq hyr.val_eq hb w) (.val _ hone) (no_own rfl)).of_eq hs
    · exact hs.elim
  · rename_i v hy _
    rw [hy] at hyr
    exact nil_sound h hd hyr.val_eq hs hnil
  · exact hs.elim
section
variable {u v r : Value} {w : World} {x y : Operand} {t : TypeId}
theorem bin2_run0 (t' : TypeId) (h : bin2 0 u v = some (true, r)) : ((eqGuard .quo t x y u v).run P w).andThen (fun _ w' => (binOp .quo t u v).run P w') = .ok r w := by
  unfold bin2 at h
  split at h <;> try (first | (exfalso; omega) | (cases h; done))
  split at h <;> try (cases h; done)
  all_goals (rename_i hk; simp only [Option.some.injEq, Prod.mk.injEq, Bool.not_eq_true', decide_eq_false_iff_not] at h; obtain ⟨h1, rfl⟩ := h; have hk' := of_decide_eq_true hk; subst hk'; simp_all [eqGuard, binOp, Op.intDiv])
theorem bin2_run1 (t' : TypeId) (h : bin2 1 u v = some (true, r)) : ((eqGuard .rem t x y u v).run P w).andThen (fun _ w' => (binOp .rem t u v).run P w') = .ok r w := by
  unfold bin2 at h
  split at h <;> try (first | (exfalso; omega) | (cases h; done))
  split at h <;> try (cases h; done)
  all_goals (rename_i hk; simp only [Option.some.injEq, Prod.mk.injEq, Bool.not_eq_true', decide_eq_false_iff_not] at h; obtain ⟨h1, rfl⟩ := h; have hk' := of_decide_eq_true hk; subst hk'; simp_all [eqGuard, binOp, Op.intDiv])
theorem bin2_run2 (t' : TypeId) (h : bin2 2 u v = some (true, r)) : ((eqGuard .shl t x y u v).run P w).andThen (fun _ w' => (binOp .shl t u v).run P w') = .ok r w := by
  unfold bin2 at h
  split at h <;> try (first | (exfalso; omega) | (cases h; done))
  all_goals (simp only [Option.some.injEq, Prod.mk.injEq, Bool.not_eq_true', decide_eq_false_iff_not] at h; obtain ⟨h1, rfl⟩ := h; simp_all [eqGuard, binOp, Op.shift]; try (intro hneg; omega))
theorem bin2_run3 (t' : TypeId) (h : bin2 3 u v = some (true, r)) : ((eqGuard .shr t x y u v).run P w).andThen (fun _ w' => (binOp .shr t u v).run P w') = .ok r w := by
  unfold bin2 at h
  split at h <;> try (first | (exfalso; omega) | (cases h; done))
  all_goals (simp only [Option.some.injEq, Prod.mk.injEq, Bool.not_eq_true', decide_eq_false_iff_not] at h; obtain ⟨h1, rfl⟩ := h; simp_all [eqGuard, binOp, Op.shift]; try (intro hneg; omega))
theorem bin2_run4 (t' : TypeId) (h : bin2 4 u v = some (true, r)) : ((eqGuard .add t x y u v).run P w).andThen (fun _ w' => (binOp .add t u v).run P w') = .ok r w := by
  unfold bin2 at h
  split at h <;> try (first | (exfalso; omega) | (cases h; done))
  all_goals (simp only [Option.some.injEq, Prod.mk.injEq, Bool.not_eq_true', decide_eq_false_iff_not] at h; obtain ⟨h1, rfl⟩ := h; simp only [eqGuard, binOp, Op.stringOp]; rw [if_neg h1]; rfl)
theorem bin2_run5 (hty : P.underlying t = some .string) (h : bin2 5 u v = some (true, r)) : (Instr.index t u v).run P w = .ok r w := by
  unfold bin2 at h
  split at h <;> try (first | (exfalso; omega) | (cases h; done))
  all_goals (
    rename_i s k n _
    simp only [Option.some.injEq, Prod.mk.injEq] at h
    obtain ⟨h1, rfl⟩ := h
    cases hg : (if 0 ≤ n then s[n.toNat]? else none) with
    | none => rw [hg] at h1; cases h1
    | some b => simp [Instr.index, asIntOf, run_underlying hty, hg, optByte])
end
theorem eqA_sound {b : BinOp} {t : TypeId} {x y : Operand} {t' : TypeId} {neg : Bool} {ts : List (Nat × Nat)} (h : SR cx w0 N nt st a w M β) (hd : ∀ x, o.dst = some x → x < nt)
    (hb : (b = .eql ∧ neg = false) ∨ (b = .neq ∧ neg = true)) (hts : eqPlan P t = some ts) (ho : o.op = .binOp b t x y t')
    (hs : stepD P (CStar P) (XStar P) ban (.eqA neg ts x y) o.dst st (fun δ' => δ' = δ)) : Good cx P w0 N nt st a w o δ := by
  simp only [stepD, gd_and] at hs
  have hgd := eqPlan_guard hts
  have hxr := h.opd x
  have hyr := h.opd y
  split at hs
  · rename_i xs ys hx hy
    split at hs
    · rename_i r hr
      rw [hx] at hxr
      rw [hy] at hyr
      generalize hux : a.eval x = u at hxr
      generalize huy : a.eval y = v at hyr
      cases hxr with
      | row p s hs => cases hs
      | agg l1 c1 hl1 o1 r1 =>
        cases hyr with
        | row p s hs => cases hs
        | agg l2 c2 hl2 o2 r2 =>
          have hrun : ∀ w', (Op.equalIn 10000 t (.agg c1.toArray) (.agg c2.toArray)).run P w' = .ok r w' := fun w' =>
            eqPlan_run hl1 r1 hl2 r2 9998 w' hts hr
          rcases hb with ⟨rfl, rfl⟩ | ⟨rfl, rfl⟩
          · refine (good_put h hd (.val (.bool r)) (.bool r) w (Below.refl _ _) ?_ (.val _ rfl) (no_own rfl)).of_eq hs
            simp only [execOp, ho, hux, huy, Sem.run_bind, run_eqGuard_agg w .eql t x y _ _ hgd, Result.andThen_ok, run_eql_struct, hrun, Sem.run_pure]
          · refine (good_put h hd (.val (.bool (!r))) (.bool (!r)) w (Below.refl _ _) ?_ (.val _ rfl) (no_own rfl)).of_eq hs
            simp only [execOp, ho, hux, huy, Sem.run_bind, run_eqGuard_agg w .neq t x y _ _ hgd, Result.andThen_ok, run_neq_struct, hrun, Sem.run_pure]
    · exact hs.elim
  · exact hs.elim
theorem fill_more {f g : Nat → Option (Nat × Nat)} (hfg : ∀ i x, f i = some x → g i = some x) : ∀ (ps : List (Nat × Value)) (cells cs : Array Value), Instr.fill f cells ps = some cs → Instr.fill g cells ps = some cs
  | [], cells, cs, h => h
  | (i, v) :: ps, cells, cs, h => by
    simp only [Instr.fill] at h ⊢
    cases hf : f i with
    | none => rw [hf] at h; cases h
    | some x =>
      rw [hf] at h
      rw [hfg i x hf]
      obtain ⟨off, size⟩ := x
      simp only at h ⊢
      split at h
      · cases h
      · rename_i hc
        rw [if_neg hc]
        exact fill_more hfg ps _ _ h
theorem nat_beq {x y : Nat} (h : Nat.beq x y = true) : x = y := Nat.eq_of_beq_eq_true h
theorem step_field (h : SR cx w0 N nt st a w M β) (hd : ∀ x, o.dst = some x → x < nt) (t f : Nat) (x : Operand) (fs : Array Field) (fd : Field) (n : Nat) (ho : o.op = .fieldAddr t x f)
    (hu : P.underlying t = some (.struct fs)) (hf : fs[f]? = some fd) (hs : szT P fd.type = some (n + 1)) (ad : Addr) (hv : a.eval x = .pointer (some ad)) (p : PV)
    (hr : Rel w M β w0.old p (.pointer (some (ad.add fd.offset)))) (hn : p.sv = none) : Good cx P w0 N nt st a w o (dput o.dst p) := by
  obtain ⟨i, hi, his⟩ := szT_info hs
  refine good_put h hd _ _ w (Below.refl _ _) ?_ hr (no_own hn)
  simp only [execOp, ho, hv, Instr.fieldAt, run_underlying hu, Instr.sureAddr, fieldPlace, sizeOf, typeInfo, Sem.run_bind, Sem.run_pure, Result.andThen_ok, hf, run_program, hi, his]
  rw [if_neg (by omega)]
  rfl
theorem ref_drop {B : Nat → Prop} {l : List PV} {v : Value} {ad : Addr} (h : Rel w M β B (.ref l) v) (hv : v = .pointer (some ad)) (n : Nat) : Rel w M β B (.ref (l.drop n)) (.pointer (some (ad.add n))) := by
  cases h with
  | row p s hs => cases hs
  | ref l ad' vs hm hr =>
    injection hv with hv; injection hv with hv; subst hv
    refine .ref _ _ (fun i => vs (n + i)) (fun i p hp => ?_) (fun i p hp => ?_)
    · rw [List.getElem?_drop] at hp
      obtain ⟨g1, g2, g3⟩ := hm _ p hp
      rw [add_add]
      exact ⟨g1.imp (fun h => by rw [block_add]; exact h) id, g2, g3⟩
    · rw [List.getElem?_drop] at hp
      exact hr _ p hp
/-- what is a slice -/
theorem row_eq {B : Nat → Prop} {p : PV} {s : SV} {v : Value} (hs : p.sv = some s) (h : Rel w M β B p v) : ∃ A c, v = .slice A s.n c ∧ s.n ≤ c ∧ ∀ i, i < s.n → ∃ ad, A = some ad ∧ Rel w M β B (.ref (s.f i)) (.pointer (some (ad.add (i * s.sz)))) := by
  have go : ∀ (p : PV) (v : Value), p.sv = some s → Rel w M β B p v → ∃ A c, v = .slice A s.n c ∧ s.n ≤ c ∧ ∀ i, i < s.n → ∃ ad, A = some ad ∧ Rel w M β B (.ref (s.f i)) (.pointer (some (ad.add (i * s.sz)))) := by
    intro p v hs h
    cases h with
    | row p s' hs' A c vs hc hsz ha hm hr =>
      rw [hs] at hs'; injection hs' with hs'; subst hs'
      refine ⟨A, c, rfl, hc, fun i hi => ?_⟩
      obtain ⟨ad, hA⟩ := ha i hi
      refine ⟨ad, hA, .ref _ _ (fun j => vs i j) (fun j p hp => ?_) (fun j p hp => hr i j p hi hp)⟩
      obtain ⟨q1, q2, q3⟩ := hm ad i j p hA hi hp
      rw [add_add]
      exact ⟨.inr q1, q2, q3⟩
    | _ => cases hs
  exact go p v hs h
theorem step_index (h : SR cx w0 N nt st a w M β) (hd : ∀ x, o.dst = some x → x < nt) (t e sz : Nat) (x i : Operand) (ho : o.op = .indexAddr t x i) (hu : P.underlying t = some (.slice e)) (hsz : szT P e = some sz)
    (A : Addr) (n c : Nat) (k : IntKind) (m : Int) (hx : a.eval x = .slice (some A) n c) (hi : a.eval i = .int k m) (h0 : 0 ≤ m) (h1 : m < (n : Int)) (p : PV)
    (hr : Rel w M β w0.old p (.pointer (some (A.add (m.toNat * sz))))) (hn : p.sv = none) : Good cx P w0 N nt st a w o (dput o.dst p) := by
  obtain ⟨ie, hie, hies⟩ := szT_info hsz
  refine good_put h hd p _ w (Below.refl _ _) ?_ hr (no_own hn)
  have helem : P.elem t = e := by simp [Program.elem, hu]
  have := run_indexAt_slice (P := P) w t A n c k m (by rw [helem]; exact hu)
  simp only [execOp, ho, hx, hi, Sem.run_bind, Sem.run_pure, Result.andThen_ok]
  rw [this, if_pos ⟨h0, by omega⟩, helem]
  simp [sizeOf, typeInfo, hie, hies]
theorem step_aindex (h : SR cx w0 N nt st a w M β) (hd : ∀ x, o.dst = some x → x < nt) (t n e sz : Nat) (x : Operand) (k : Int) (ho : o.op = .indexAddr t x (.const (.int .i64 k))) (hu : P.underlying t = some (.array n e)) (hsz : szT P e = some sz)
    (ad : Addr) (hv : a.eval x = .pointer (some ad)) (h0 : 0 ≤ k) (h1 : k < (n : Int)) (p : PV) (hr : Rel w M β w0.old p (.pointer (some (ad.add (k.toNat * sz))))) (hn : p.sv = none) : Good cx P w0 N nt st a w o (dput o.dst p) := by
  obtain ⟨ie, hie, hies⟩ := szT_info hsz
  refine good_put h hd p _ w (Below.refl _ _) ?_ hr (no_own hn)
  have helem : P.elem t = e := by simp [Program.elem, hu]
  have hlen : P.arrayLen t = n := by simp [Program.arrayLen, hu]
  have hi : a.eval (.const (.int .i64 k)) = .int .i64 k := rfl
  have := run_indexAt_array (P := P) w t ad .i64 k (by rw [helem, hlen]; exact hu)
  simp only [execOp, ho, hv, hi, Sem.run_bind, Sem.run_pure, Result.andThen_ok]
  rw [this, hlen, if_pos ⟨h0, h1⟩, helem]
  simp [sizeOf, typeInfo, hie, hies]
theorem step_app (h : SR cx w0 N nt st a w M β) (hd : ∀ x, o.dst = some x → x < nt) (d s : Nat) (hdst : o.dst = some d) (x : Operand) (t e sz : Nat) (i : TypeInfo) (z : Value)
    (ho : o.op = .call { callee := .builtin .append, args := #[.tmp s, x], argTypes := #[t, t] })
    (ht : P.underlying t = some (.slice e)) (hi : P.info? e = some i) (hz : i.zero = some z) (hzs : z.cells.size = i.size) (hsz : i.size = sz) (hpos : 1 ≤ sz)
    {y q r : LX} {own : Bool} (hy : st.get s = .lst true y) (hq : st.opd x = .lst own q) (hr : LX.cat y q = some r) (he : e = y.e) (hs : sz = y.sz)
    (hb : (y.len + q.len) * i.bytes ≤ 140737488355328) (hm : y.len + q.len ≤ maxLen) : Good cx P w0 N nt st a w o ⟨[(d, .lst true r), (s, .lst false y)], []⟩ := by
  obtain ⟨c1, c2, c3, c4, c5, c6, c7⟩ := LX.cat_spec y q r hr
  have h1 := h.drop s
  have hreg := h.reg s
  rw [hy] at hreg h1
  have hxr := h.opd x
  rw [hq] at hxr
  have ho1 := own_slot (cx := cx) (w := w) (β := β) (a := a) (O := st.obj) (st := st) (s := s) (sv := ⟨true, y.e, y.sz, y.len, y.row⟩) (by rw [hy]; rfl) rfl
  obtain ⟨v', w', M', hrun, hS⟩ := app_core (P := P) h1.sh t o.type e i z ht hi hz hzs (by omega) (p := .lst true y) (q := .lst own q) (r := .lst true r) (s := ⟨true, y.e, y.sz, y.len, y.row⟩) (s2 := ⟨own, q.e, q.sz, q.len, q.row⟩) (u := ⟨true, r.e, r.sz, r.len, r.row⟩) rfl rfl rfl
    he.symm (by rw [hsz]; exact hs.symm) c3 c2 c4 c5 c6 (fun i _ => c7 i) hreg (h.sh.tok _ _ _ ho1) hxr
    (fun key s' v' g hk hg => by
      have hk' : Own (hold cx (st.app ⟨[(s, (st.get s).view)], []⟩) a) st.obj w β key s' v' := by rw [hy]; exact hk
      obtain ⟨q1, q2⟩ := own_dropped hk'
      exact h.sh.tokne _ _ _ _ _ _ g ho1 q1 (fun e => q2 e.symm) hg)
    (fun g x n hg => h.sh.tokbox _ _ _ g x n ho1 hg) hb hm
  refine good_cons h hd hdst (st0 := st.app ⟨[(s, .lst false y)], []⟩) hS ?_ (fun t => app_get_two st d s t _ _) (fun _ => rfl) (fun _ h => h)
  simp only [execOp, ho, resolve, invoke, builtin, Sem.run_bind, Sem.run_pure, Result.andThen_ok, List.map_toArray, List.map_cons, List.map_nil]
  rw [show a.eval (.tmp s) = a.tmps.getD s undef from rfl, hrun]
  rfl
theorem step_app_nil (h : SR cx w0 N nt st a w M β) (hd : ∀ x, o.dst = some x → x < nt) (d s : Nat) (hdst : o.dst = some d) (x : Operand) (t e sz : Nat) (i : TypeInfo) (z : Value)
    (ho : o.op = .call { callee := .builtin .append, args := #[.tmp s, x], argTypes := #[t, t] })
    (ht : P.underlying t = some (.slice e)) (hi : P.info? e = some i) (hz : i.zero = some z) (hzs : z.cells.size = i.size) (hsz : i.size = sz) (hpos : 1 ≤ sz)
    {q : LX} {own : Bool} (hy : st.get s = .val (.slice none 0 0)) (hq : st.opd x = .lst own q) (he : e = q.e) (hs : sz = q.sz)
    (hb : (0 + q.len) * i.bytes ≤ 140737488355328) (hm : 0 + q.len ≤ maxLen) : Good cx P w0 N nt st a w o ⟨[(d, .lst true q)], []⟩ := by
  have hreg := h.reg s
  rw [hy] at hreg
  have hv : a.tmps.getD s undef = .slice none 0 0 := hreg.val_eq
  have hxr := h.opd x
  rw [hq] at hxr
  have hp : Rel w M β w0.old (.sl true q.e q.sz []) (.slice none (SV.mk true q.e q.sz 0 (fun i => [].getD i [])).n 0) :=
    .row _ ⟨true, q.e, q.sz, 0, fun i => [].getD i []⟩ rfl none 0 (fun _ _ => undef) (Nat.le_refl _) (fun i hi => by cases hi) (fun i hi => by cases hi) (fun ad i j p ha => by cases ha) (fun i j p hi => by cases hi)
  obtain ⟨v', w', M', hrun, hS⟩ := app_core (P := P) h.sh t o.type e i z ht hi hz hzs (by omega) (p := .sl true q.e q.sz []) (q := .lst own q) (r := .lst true q) (s := ⟨true, q.e, q.sz, 0, fun i => [].getD i []⟩) (s2 := ⟨own, q.e, q.sz, q.len, q.row⟩) (u := ⟨true, q.e, q.sz, q.len, q.row⟩) rfl rfl rfl
    he.symm (by rw [hsz]; exact hs.symm) rfl rfl rfl (by simp) (fun i hi => by cases hi) (fun i _ => by simp) hp (.z (a := none) rfl rfl) hxr
    (fun key s' v' g hk hg => absurd hg tb_zero) (fun g x n hg => absurd hg tb_zero) hb hm
  refine good_cons h hd hdst (st0 := st) hS ?_ (fun t => app_get_one st d t _) (fun _ => rfl) (fun _ h => h)
  simp only [execOp, ho, resolve, invoke, builtin, Sem.run_bind, Sem.run_pure, Result.andThen_ok, List.map_toArray, List.map_cons, List.map_nil]
  rw [show a.eval (.tmp s) = a.tmps.getD s undef from rfl, hv, hrun]
  rfl
theorem step_app_none (h : SR cx w0 N nt st a w M β) (hd : ∀ x, o.dst = some x → x < nt) (d s : Nat) (hdst : o.dst = some d) (x : Operand) (t e : Nat) (i : TypeInfo)
    (ho : o.op = .call { callee := .builtin .append, args := #[.tmp s, x], argTypes := #[t, t] }) (ht : P.underlying t = some (.slice e)) (hi : P.info? e = some i)
    {y : LX} (hy : st.get s = .lst true y) (hq : st.opd x = .val (.slice none 0 0)) : Good cx P w0 N nt st a w o ⟨[(d, .lst true y), (s, .lst false y)], []⟩ := by
  have hreg := h.reg s
  have hxr := h.opd x
  rw [hq] at hxr
  have hxv : a.eval x = .slice none 0 0 := hxr.val_eq
  have ho1 := own_slot (cx := cx) (w := w) (β := β) (a := a) (O := st.obj) (st := st) (s := s) (sv := ⟨true, y.e, y.sz, y.len, y.row⟩) (by rw [hy]; rfl) rfl
  have ht0 := h.sh.tok _ _ _ ho1
  have hv : ∃ A n c, a.tmps.getD s undef = .slice A n c ∧ n ≤ c ∧ (A = none → n = 0 ∧ c = 0) := by
    have go : ∀ (p : PV) (v : Value) (sv : SV), p.sv = some sv → Rel w M β w0.old p v → ∀ n c, v = .slice none n c → sv.n = 0 := by
      intro p v sv hp hr n c hv
      cases hr with
      | row p s' hs a' c' vs hc hsz ha =>
        rw [hp] at hs; injection hs with hs; subst hs
        injection hv with e1 e2 e3
        subst e1
        rcases Nat.eq_zero_or_pos sv.n with h | h
        · exact h
        · obtain ⟨ad, e⟩ := ha 0 h; cases e
      | _ => cases hp
    rcases ht0 with ⟨A, h1⟩ | ⟨g, c, cur, h1, _, _, _, h5, _⟩
    · refine ⟨A, y.len, y.len, h1, Nat.le_refl _, fun hA => ?_⟩
      have h2 : y.len = 0 := go _ _ _ (by rw [hy]; rfl) hreg _ _ (by rw [h1, hA])
      exact ⟨h2, h2⟩
    · exact ⟨_, _, _, h1, h5, fun h => by cases h⟩
  obtain ⟨A, n, c, hv, hnc, hA⟩ := hv
  have hrun : (execOp a.eval o).run P w = .ok (.value (a.eval (.tmp s))) w := by
    simp only [execOp, ho, resolve, invoke, builtin, Sem.run_bind, Sem.run_pure, Result.andThen_ok, List.map_toArray, List.map_cons, List.map_nil]
    rw [show a.eval (.tmp s) = a.tmps.getD s undef from rfl, hxv, hv, run_append_zero t o.type e i ht hi A n c hnc hA none 0 w]
    rfl
  have := step_take h hd s d hdst (P := P) (o := ⟨o.dst, .move (.tmp s), o.type, o.pos, o.after, o.guard⟩) (fun _ => rfl)
  intro K Q hK
  rw [hy] at this
  have hk := this (fun a' w' => K a' w') Q hK
  unfold Oper.wp at hk ⊢
  rw [hrun]
  exact hk
theorem bare_of (h : SR cx w0 N nt st a w M β) {e sz s : Nat} (hb : (st.get s).bare e sz = true) :
    TokOK w M w0.old ⟨true, e, sz, 0, fun k => [].getD k []⟩ (a.tmps.getD s undef) ∧
    (∀ key s' v' g, Own (hold cx (st.app ⟨[(s, (st.get s).view)], []⟩) a) st.obj w β key s' v' → tb (a.tmps.getD s undef) = some g → tb v' ≠ some g) ∧
    (∀ g d n, tb (a.tmps.getD s undef) = some g → β d ≠ some (g, n)) := by
  have hreg := h.reg s
  unfold PV.bare at hb
  split at hb
  · rename_i hg
    rw [hg] at hreg
    rw [hreg.val_eq]
    exact ⟨.z rfl rfl, fun key s' v' g _ hg => absurd hg tb_zero, fun g d n hg => absurd hg tb_zero⟩
  · rename_i y hg
    split at hb
    · rename_i c1 c2 c3
      have c1 := nat_beq c1
      have c2 := nat_beq c2
      have c3 := nat_beq c3
      have ho1 := own_slot (cx := cx) (w := w) (β := β) (a := a) (O := st.obj) (st := st) (s := s) (sv := ⟨true, y.e, y.sz, y.len, y.row⟩) (by rw [hg]; rfl) rfl
      refine ⟨?_, fun key s' v' g hk hg' => ?_, fun g d n hg' => h.sh.tokbox _ _ _ g d n ho1 hg'⟩
      · rcases h.sh.tok _ _ _ ho1 with ⟨a0, h1⟩ | ⟨g, c, cur, h1, h2, h3, h4, h5, h6, h7⟩
        · simp only [c1] at h1
          exact .z h1 rfl
        · simp only [c1, ← c2, ← c3] at h1 h3 h4 h5 h7
          exact .inr ⟨g, c, cur, h1, h2, h3, h4, h5, h6, h7⟩
      · obtain ⟨q1, q2⟩ := own_dropped hk
        exact h.sh.tokne _ _ _ _ _ _ g ho1 q1 (fun e => q2 e.symm) hg'
    · cases hb
  · cases hb
theorem step_clone (h : SR cx w0 N nt st a w M β) (hd : ∀ x, o.dst = some x → x < nt) (d s id : Nat) (hdst : o.dst = some d) (x : Operand) (t e : Nat) (i : TypeInfo) (z : Value)
    (ho : o.op = .call { callee := .builtin .append, args := #[.tmp s, x], argTypes := #[t, t] })
    (ht : P.underlying t = some (.slice e)) (hi : P.info? e = some i) (hz : i.zero = some z) (hzs : z.cells.size = i.size) (hpos : 1 ≤ i.size)
    {q : LX} {own : Bool} (hbare : (st.get s).bare e i.size = true) (hq : st.opd x = .lst own q) (hqs : i.size = q.sz) (hb : q.len * i.bytes ≤ 140737488355328) (hm : q.len ≤ maxLen) (hn : 1 ≤ q.len)
    (cm : Bool) (hnew : notIn id (st.ob.map Prod.fst) = true) : Good cx P w0 N nt st a w o ⟨[(d, .vw cm id e i.size q.len), (s, (st.get s).view)], [(id, match cm with | true => q.flat | false => [.arrO q])]⟩ := by
  have hxr := h.opd x
  rw [hq] at hxr
  obtain ⟨k1, k2, k3⟩ := bare_of h hbare
  obtain ⟨v', w', M', β', hrun, hS⟩ := clone_core (P := P) (O' := (st.app ⟨[(d, .vw cm id e i.size q.len), (s, (st.get s).view)], [(id, match cm with | true => q.flat | false => [.arrO q])]⟩).obj) (D' := fun x => notIn x (id :: st.ob.map Prod.fst)) (d := id)
    (h.drop s).sh t o.type e i z ht hi hz hzs hpos rfl rfl rfl hqs.symm hn k1 hxr k2 k3 hb hm cm hnew (by rw [app_obj_one, if_pos rfl]; cases cm <;> rfl) (fun x hx => by rw [app_obj_one, if_neg (fun e => hx e.symm)]; rfl)
    (fun x hx => by
      have hx' := (notIn_iff _ _).1 hx
      exact ⟨(notIn_iff _ _).2 (fun hm => hx' (List.mem_cons_of_mem _ hm)), fun e => hx' (by simp [e])⟩)
  refine good_cons h hd hdst (st0 := st.app ⟨[(s, (st.get s).view)], []⟩) hS ?_ (fun t => look_one _ _ _ _ _) (fun _ => rfl) (fun _ h => h)
  simp only [execOp, ho, resolve, invoke, builtin, Sem.run_bind, Sem.run_pure, Result.andThen_ok, List.map_toArray, List.map_cons, List.map_nil]
  rw [show a.eval (.tmp s) = a.tmps.getD s undef from rfl, hrun]
  rfl
theorem step_clone0 (h : SR cx w0 N nt st a w M β) (hd : ∀ x, o.dst = some x → x < nt) (d s : Nat) (hdst : o.dst = some d) (x : Operand) (t e : Nat) (i : TypeInfo) (z : Value)
    (ho : o.op = .call { callee := .builtin .append, args := #[.tmp s, x], argTypes := #[t, t] })
    (ht : P.underlying t = some (.slice e)) (hi : P.info? e = some i) (hz : i.zero = some z) (hzs : z.cells.size = i.size) (hpos : 1 ≤ i.size)
    {q n : LX} {own : Bool} (hbare : (st.get s).bare e i.size = true) (hq : st.opd x = .lst own q) (hqs : i.size = q.sz) (hn : q.len = 0) (hnn : LX.nil e = some n) (hns : i.size = n.sz) :
    Good cx P w0 N nt st a w o ⟨[(d, .lst true n), (s, (st.get s).view)], []⟩ := by
  have hxr := h.opd x
  rw [hq] at hxr
  obtain ⟨k1, k2, k3⟩ := bare_of h hbare
  obtain ⟨n1, n2⟩ := LX.nil_spec e n hnn
  have hp : Rel w M β w0.old (.sl true e i.size []) (a.tmps.getD s undef) := by
    have hv : ∃ A c, a.tmps.getD s undef = .slice A 0 c := by
      rcases k1 with ⟨a0, h1⟩ | ⟨g, c, cur, h1, _⟩
      · exact ⟨a0, 0, h1⟩
      · exact ⟨_, _, h1⟩
    obtain ⟨A, c, hv⟩ := hv
    rw [hv]
    exact .row _ ⟨true, e, i.size, 0, fun k => [].getD k []⟩ rfl A c (fun _ _ => undef) (Nat.zero_le _) (fun i hi => by cases hi) (fun i hi => by cases hi) (fun ad i j p _ hi => by cases hi) (fun i j p hi => by cases hi)
  obtain ⟨v', w', M', hrun, hS⟩ := app_core (P := P) (h.drop s).sh t o.type e i z ht hi hz hzs hpos (p := .sl true e i.size []) (q := .lst own q) (r := .lst true n) (s := ⟨true, e, i.size, 0, fun k => [].getD k []⟩) (s2 := ⟨own, q.e, q.sz, q.len, q.row⟩) (u := ⟨true, n.e, n.sz, n.len, n.row⟩) rfl rfl rfl
    rfl rfl hqs.symm n1 hns.symm (by show n.len = 0 + q.len; omega) (fun i hi => by cases hi) (fun i hi => by have : i < q.len := hi; omega) hp k1 hxr k2 k3 (by show (0 + q.len) * _ ≤ _; rw [hn]; simp) (by show 0 + q.len ≤ _; omega)
  refine good_cons h hd hdst (st0 := st.app ⟨[(s, (st.get s).view)], []⟩) hS ?_ (fun t => app_get_two st d s t _ _) (fun _ => rfl) (fun _ h => h)
  simp only [execOp, ho, resolve, invoke, builtin, Sem.run_bind, Sem.run_pure, Result.andThen_ok, List.map_toArray, List.map_cons, List.map_nil]
  rw [show a.eval (.tmp s) = a.tmps.getD s undef from rfl, hrun]
  rfl
theorem enter_run {f : Nat} {args : Array Value} {n : Sem Next} (hc : callable P f = true) (hn : n = callFunc f args) : n.run P w = .ok (.enter f args) w := by
  unfold callable at hc
  cases hf : P.funcs[f]? with
  | none => rw [hf] at hc; cases hc
  | some fn =>
    rw [hf] at hc
    simp only [Bool.and_eq_true, Bool.not_eq_true'] at hc
    obtain ⟨hc1, hc2⟩ := hc
    have hbody : fn.body.isNone = false := by cases hb : fn.body with | none => rw [hb] at hc2; cases hc2 | some c => rfl
    subst hn
    simp only [callFunc, Sem.run_bind, Sem.run_pure, Result.andThen_ok, run_program, hf]
    simp [hc1, hbody]
theorem Rel.up {B : Nat → Prop} {p : PV} {v : Value} (h : Rel w M (fun _ => none) (fun _ => False) p v) : Rel w M β B p v := by
  induction h with
  | any v => exact .any v
  | val v h => exact .val v h
  | agg l cs hl h1 _ ih => exact .agg l cs hl h1 ih
  | tup l cs hl _ ih => exact .tup l cs hl ih
  | row p s hs a c vs hc hsz ha hm _ ih => exact .row p s hs a c vs hc hsz ha hm ih
  | loc d off b n h => cases h
  | el d sz i off b n h => cases h
  | vw cf d e sz n b c h => cases h
  | mp d b n h => cases h
  | clo f n l cs hl _ ih => exact .clo f n l cs hl ih
  | ref l ad vs hm _ ih => exact .ref l ad vs (fun i p hp => ⟨.inr ((hm i p hp).1.resolve_left id), (hm i p hp).2⟩) ih
theorem map_pure0_get {l : List PV} {i : Nat} {q : PV} (h : (l.map PV.pure0)[i]? = some q) : ∃ p, l[i]? = some p ∧ q = p.pure0 := by
  rw [List.getElem?_map] at h
  cases hp : l[i]? with
  | none => rw [hp] at h; cases h
  | some p => rw [hp] at h; injection h with h; exact ⟨p, rfl, h.symm⟩
theorem snap_rel (h : SR cx w0 N nt st a w M β) {p : PV} {v : Value} (hp : Rel w M β w0.old p v) : Rel w M (fun _ => none) (fun b => b < w.heap.size) (snap st.obj p) v := by
  have hle : w0.w.heap.size ≤ w.heap.size := h.sh.bel.size
  cases p with
  | loc d off =>
    obtain ⟨b, n, hb, hv⟩ := loc_eq hp
    simp only [snap]
    split
    · rename_i hpl
      rw [hv]
      have hbw := h.sh.mlt b 0 (h.sh.box d b n hb).2.1
      have hcell := h.cellsAt (off := off) hb (l := (st.obj d).drop off) (fun i p hp => by rw [List.getElem?_drop] at hp; exact hp) hpl
      have hall : ∀ i, ∃ v, ∀ p, ((st.obj d).drop off)[i]? = some p → w.cell? ((⟨b, off, none⟩ : Addr).add i) = some v ∧ Rel w M β w0.old p v ∧ v.oneCell' = true := fun i => by
        cases hp : ((st.obj d).drop off)[i]? with
        | none => exact ⟨undef, fun p hp => by cases hp⟩
        | some p => obtain ⟨v, hv⟩ := hcell i p hp; exact ⟨v, fun q hq => by injection hq with hq; subst hq; exact hv⟩
      obtain ⟨vs, hvs⟩ := Classical.axiomOfChoice hall
      refine .ref _ _ vs (fun i q hq => ?_) (fun i q hq => ?_)
      · obtain ⟨p, hp, rfl⟩ := map_pure0_get hq
        exact ⟨.inl hbw, (hvs i p hp).1, (hvs i p hp).2.2⟩
      · obtain ⟨p, hp, rfl⟩ := map_pure0_get hq
        exact (hvs i p hp).2.1.pure0
    · exact .any _
  | agg l =>
    cases hp with
    | row p s hs => cases hs
    | agg l cs hl h1 hr =>
      refine .agg _ cs (by rw [List.length_map, hl]) h1 (fun i q u hq hu => ?_)
      obtain ⟨p, hp, rfl⟩ := map_pure0_get hq
      exact (hr i p u hp hu).pure0
  | ref l =>
    cases hp with
    | row p s hs => cases hs
    | ref l ad vs hm hr =>
      refine .ref _ ad vs (fun i q hq => ?_) (fun i q hq => ?_)
      · obtain ⟨p, hp, rfl⟩ := map_pure0_get hq
        exact ⟨(hm i p hp).1.imp (fun hb => h.sh.bel.lt hb) id, (hm i p hp).2⟩
      · obtain ⟨p, hp, rfl⟩ := map_pure0_get hq
        exact (hr i p hp).pure0
  | _ => exact hp.pure0
theorem step_call (h : SR cx w0 N nt st a w M β) (hd : ∀ x, o.dst = some x → x < nt) (f : Nat) (args : List Operand) (ats : Array Nat) (ho : o.op = .call { callee := .value (.func f), args := args.toArray, argTypes := ats })
    (hc : callable P f = true) (r : PV) (hr : Holds P f (args.map fun x => snap st.obj (st.opd x)) r) : Good cx P w0 N nt st a w o (dput o.dst r.view) := by
  intro K Q hK
  have hrun : (execOp a.eval o).run P w = .ok (.enter f (args.map a.eval).toArray) w := by
    refine enter_run (P := P) hc ?_
    simp [execOp, ho, resolve, Act.eval, Deferred.ofValue, invoke]
  unfold Oper.wp
  rw [hrun]
  refine Calls.mono (hr w M (args.map a.eval) (by simp) ?_ h.sh.mlt (h.sh.mN.gl.all h.sh.bel h.sh.mN.eq)) ?_
  · intro i p v hp hv
    rw [List.getElem?_map] at hp hv
    cases hx : args[i]? with
    | none => rw [hx] at hp; cases hp
    | some x =>
      rw [hx] at hp hv
      simp only [Option.map_some, Option.some.injEq] at hp hv
      subst hp; subst hv
      exact snap_rel h (h.opd x)
  · rintro e w' ⟨v, rfl, hv, hb⟩
    have hv' : Rel w' M β w0.old r v := by
      exact hv.up
    exact hK _ _ _ _ ((h.world hb).dput o.dst r.view v hd hv'.view (view_no_own _))
theorem step_enter (h : SR cx w0 N nt st a w M β) (hd : ∀ x, o.dst = some x → x < nt) (f : Nat) (args : List PV) (vs : List Value) (hrun : (execOp a.eval o).run P w = .ok (.enter f vs.toArray) w)
    (hl : vs.length = args.length) (hr : ∀ (i : Nat) (p : PV) (v : Value), args[i]? = some p → vs[i]? = some v → Rel w M β w0.old p v) (r : PV) (o' : List (Nat × List PV))
    (hI : HoldsI P f args st.ob r o') : Good cx P w0 N nt st a w o ⟨(dput o.dst r).s, o'⟩ := by
  intro K Q hK
  unfold Oper.wp
  rw [hrun]
  refine Calls.mono (hI (hold cx st a) w0 w N M β st.obj _ vs (fun _ => rfl) (fun _ => rfl) h.sh hl hr) ?_
  rintro e w' ⟨v, M', β', rfl, hS⟩
  show K (a.put o.dst v) w'
  cases hdst : o.dst with
  | some d =>
    rw [hdst] at hK
    exact hK _ _ _ _ (SR.of_cons h.defs h.nt (hd d hdst) (st0 := st) hS (fun s => look_one _ _ _ _ _) (fun _ => mrg_look _ _ _) (fun z hz => by rw [← mrg_key]; exact hz))
  | none =>
    rw [hdst] at hK
    refine hK _ _ M' β' ⟨h.defs, h.nt, ?_⟩
    have e1 : (st.app ⟨(dput none r).s, o'⟩).obj = look [] (o' ++ st.ob) := funext fun z => mrg_look _ _ _
    have e2 : (fun d => notIn d ((st.app ⟨(dput none r).s, o'⟩).ob.map Prod.fst)) = fun d => notIn d ((o' ++ st.ob).map Prod.fst) := funext fun z => mrg_key _ _ _
    rw [e1, e2]
    exact hS.hold (fun k => hS.reg (some k)) (fun k => some (some k)) (fun k s h1 h2 => ⟨some k, rfl, h1, rfl⟩) (fun k k' j h1 h2 => by injection h1 with h1; injection h2 with h2; rw [← h1] at h2; injection h2 with h2; exact h2.symm)
theorem noO_spec {s : Nat} : ∀ {l : List Operand}, noO s l = true → ∀ x ∈ l, x ≠ Operand.tmp s
  | [], _, x, h => by cases h
  | y :: l, h, x, hx => by
    rcases List.mem_cons.1 hx with rfl | hx
    · rintro rfl
      simp only [noO, Nat.beq_refl] at h
      cases h
    · refine noO_spec ?_ x hx
      cases y with
      | tmp t =>
        simp only [noO] at h
        split at h
        · cases h
        · exact h
      | _ => exact h
theorem onceO_spec {s : Nat} : ∀ {l : List Operand}, onceO s l = true → ∃ i : Nat, l[i]? = some (Operand.tmp s) ∧ ∀ j : Nat, l[j]? = some (Operand.tmp s) → j = i
  | [], h => by cases h
  | y :: l, h => by
    have go : (y ≠ Operand.tmp s ∧ onceO s l = true) ∨ (y = Operand.tmp s ∧ noO s l = true) := by
      cases y with
      | tmp t =>
        simp only [onceO] at h
        split at h
        · rename_i e
          exact .inr ⟨by rw [Nat.eq_of_beq_eq_true e], h⟩
        · rename_i e
          refine .inl ⟨fun e2 => ?_, h⟩
          injection e2 with e2
          rw [e2, Nat.beq_refl] at e; cases e
      | _ => exact .inl ⟨fun e => (by cases e), h⟩
    rcases go with ⟨h1, h2⟩ | ⟨h1, h2⟩
    · obtain ⟨i, h3, h4⟩ := onceO_spec h2
      refine ⟨i + 1, h3, fun j hj => ?_⟩
      cases j with
      | zero => injection hj with hj; exact absurd hj h1
      | succ j => rw [h4 j hj]
    · refine ⟨0, by rw [h1]; rfl, fun j hj => ?_⟩
      cases j with
      | zero => rfl
      | succ j => exact absurd rfl (noO_spec h2 _ (List.mem_of_getElem? hj))
/-- a call in place, one row being handed over -/
theorem step_enterT (h : SR cx w0 N nt st a w M β) (hd : ∀ x, o.dst = some x → x < nt) (f : Nat) (args : List Operand) (s : Nat) (hrun : (execOp a.eval o).run P w = .ok (.enter f (args.map a.eval).toArray) w)
    (ho : onceO s args = true) (r : PV) (o' : List (Nat × List PV)) (hI : HoldsT P f (args.map fun x => st.argT s x) st.ob r o') : Good cx P w0 N nt st a w o ⟨(dput o.dst r).s ++ [(s, (st.get s).view)], o'⟩ := by
  obtain ⟨i0, hi0, hu⟩ := onceO_spec ho
  let st1 : St := st.app ⟨[(s, (st.get s).view)], []⟩
  have g1 : ∀ t, st1.get t = if s = t then (st.get s).view else st.get t := fun t => look_one _ _ _ _ _
  have hS1 : SH (aH (args.map fun x => st.argT s x) (args.map a.eval) (hold cx st1 a)) w0 N st.obj (fun d => notIn d (st.ob.map Prod.fst)) w M β := by
    refine h.sh.hold (fun k => ?_) (fun k => match k with | .inl (.inl t) => (if t = s then none else some (.inl t)) | .inl (.inr i) => some (.inr i) | .inr i => (if i = i0 then some (.inl s) else none)) (fun k sv h1 h2 => ?_) (fun k k' j h1 h2 => ?_)
    · cases k with
      | inl k =>
        cases k with
        | inl t =>
          show Rel w M β w0.old (st1.get t) (a.tmps.getD t undef)
          rw [g1]
          by_cases e : s = t
          · subst e; rw [if_pos rfl]; exact (h.reg s).view
          · rw [if_neg e]; exact h.reg t
        | inr i => exact h.sh.reg (.inr i)
      | inr i =>
        show Rel w M β w0.old ((args.map fun x => st.argT s x).getD i .any) ((args.map a.eval).getD i undef)
        rw [List.getD, List.getD, List.getElem?_map, List.getElem?_map]
        cases hx : args[i]? with
        | none => exact .any _
        | some x =>
          simp only [Option.map_some, Option.getD_some]
          have hr := h.opd x
          cases x with
          | tmp t =>
            simp only [St.argT]
            split
            · exact hr
            · exact hr.view
          | _ => exact hr.view
    · cases k with
      | inl k =>
        cases k with
        | inl t =>
          have h1 : (st1.get t).sv = some sv := h1
          rw [g1] at h1
          by_cases e : s = t
          · subst e
            rw [if_pos rfl] at h1
            rw [view_sv' h1] at h2; cases h2
          · rw [if_neg e] at h1
            exact ⟨.inl t, if_neg (fun e' => e e'.symm), h1, rfl⟩
        | inr i => exact ⟨.inr i, rfl, h1, rfl⟩
      | inr i =>
        have h1 : ((args.map fun x => st.argT s x).getD i .any).sv = some sv := h1
        rw [List.getD, List.getElem?_map] at h1
        cases hx : args[i]? with
        | none => rw [hx] at h1; cases h1
        | some x =>
          rw [hx] at h1
          simp only [Option.map_some, Option.getD_some] at h1
          have key : x = .tmp s := by
            cases x with
            | tmp t =>
              simp only [St.argT] at h1
              split at h1
              · rename_i e; rw [Nat.eq_of_beq_eq_true e]
              · rw [view_sv' h1] at h2; cases h2
            | _ => simp only [St.argT] at h1; rw [view_sv' h1] at h2; cases h2
          subst key
          have e := hu i hx
          subst e
          refine ⟨.inl s, if_pos rfl, ?_, ?_⟩
          · show (st.get s).sv = some sv
            simpa [St.argT] using h1
          · show a.tmps.getD s undef = (args.map a.eval).getD i undef
            rw [List.getD, List.getElem?_map, hx]; rfl
    · have inv : ∀ k : (Nat ⊕ ι) ⊕ Nat, (match k with | .inl (.inl t) => (if t = s then none else some (.inl t)) | .inl (.inr i) => some (.inr i) | .inr i => (if i = i0 then some (.inl s) else none) : Option (Nat ⊕ ι)) = some j → k = match j with | .inl t => (if t = s then .inr i0 else .inl (.inl t)) | .inr i => .inl (.inr i) := by
        intro k hk
        rcases k with (t | i) | i
        · simp only at hk
          split at hk
          · cases hk
          · rename_i e; injection hk with hk; subst hk; simp only [if_neg e]
        · injection hk with hk; subst hk; rfl
        · simp only at hk
          split at hk
          · rename_i e; injection hk with hk; subst hk; subst e; simp
          · cases hk
      exact (inv k h1).trans (inv k' h2).symm
  intro K Q hK
  unfold Oper.wp
  rw [hrun]
  refine Calls.mono (hI (hold cx st1 a) w0 w N M β st.obj _ (args.map a.eval) (fun _ => rfl) (fun _ => rfl) hS1 (by simp)) ?_
  rintro e w' ⟨v, M', β', rfl, hS⟩
  show K (a.put o.dst v) w'
  have e1 : ∀ z : List (Nat × PV), st.app ⟨z ++ [(s, (st.get s).view)], o'⟩ = st1.app ⟨z, o'⟩ := fun z => by
    show St.mk ((z ++ [(s, (st.get s).view)]) ++ st.fr) (mrgO o' st.ob) st.base = St.mk (z ++ ([(s, (st.get s).view)] ++ st.fr)) (mrgO o' (mrgO [] st.ob)) st.base
    rw [List.append_assoc]; rfl
  rw [e1] at hK
  cases hdst : o.dst with
  | some d =>
    rw [hdst] at hK
    exact hK _ _ _ _ (SR.of_cons h.defs h.nt (hd d hdst) (st0 := st1) hS (fun s => look_one _ _ _ _ _) (fun _ => mrg_look _ _ _) (fun z hz => by rw [← mrg_key]; exact hz))
  | none =>
    rw [hdst] at hK
    refine hK _ _ M' β' ⟨h.defs, h.nt, ?_⟩
    have e1 : (st1.app ⟨(dput none r).s, o'⟩).obj = look [] (o' ++ st.ob) := funext fun z => mrg_look _ _ _
    have e2 : (fun d => notIn d ((st1.app ⟨(dput none r).s, o'⟩).ob.map Prod.fst)) = fun d => notIn d ((o' ++ st.ob).map Prod.fst) := funext fun z => mrg_key _ _ _
    rw [e1, e2]
    exact hS.hold (fun k => hS.reg (some k)) (fun k => some (some k)) (fun k s h1 h2 => ⟨some k, rfl, h1, rfl⟩) (fun k k' j h1 h2 => by injection h1 with h1; injection h2 with h2; rw [← h1] at h2; injection h2 with h2; exact h2.symm)
/-- a call in place that does not touch the caller's variables -/
theorem HoldsI.frame {f : Nat} {args : List PV} {ob : List (Nat × List PV)} {r : PV} (h : HoldsI P f args [] r []) (hf : r.flat = true) (ha : ∀ p ∈ args, ∀ w M β B v, Rel w M β B p v → ∀ β' B', Rel w M β' B' p v) : HoldsI P f args ob r [] := by
  intro κ H w0 w N M β O D vs hO hD hS hl hr
  have h0 : SH (fun (e : Empty) => (e.elim : PV × Value)) (Base.all w) M (fun _ => []) (fun _ => true) w M (fun _ => none) :=
    ⟨Bel.of w _ rfl, ⟨fun _ _ => rfl, hS.mN.gl.all hS.bel hS.mN.eq⟩, hS.mlt, (fun d b n h => by cases h), (fun d d' b n n' h => by cases h), fun _ _ => rfl, fun k => k.elim,
      (fun key s v ho => by cases key with | slot k => exact k.elim | cell d i => obtain ⟨b, n, p, h, _⟩ := ho; cases h),
      (fun key key' s s' v v' g ho => by cases key with | slot k => exact k.elim | cell d i => obtain ⟨b, n, p, h, _⟩ := ho; cases h),
      (fun key s v g d n ho => by cases key with | slot k => exact k.elim | cell d i => obtain ⟨b, n, p, h, _⟩ := ho; cases h)⟩
  refine Calls.mono (h _ (Base.all w) w M M (fun _ => none) (fun _ => []) (fun _ => true) vs (fun d => rfl) (fun d => rfl) h0 hl (fun i p v hp hv => ha p (List.mem_of_getElem? hp) _ _ _ _ _ (hr i p v hp hv) _ _)) ?_
  rintro e w' ⟨v, M', β', rfl, S1⟩
  have hb : Below w.heap.size w w' := S1.bel.below
  have hMM : ∀ b, b < w.heap.size → M' b = M b := fun b hb => S1.mN.eq b hb
  have hE : Ext w M w' M' := fun x u hi hv => ⟨fun n hn => hi n (by rw [← hMM _ (cell_lt hv)]; exact hn), by rw [hb.cell (cell_lt hv)]; exact hv⟩
  have hR : ∀ p v, Rel w M β w0.old p v → Rel w' M' β w0.old p v := fun p v hr => hr.ext hE (fun x hx => hb.cell (hS.bel.lt hx)) (fun _ _ h => h)
  have hOw : ∀ key s v, Own H O w' β key s v → Own H O w β key s v := by
    intro key s v ho
    cases key with
    | slot k => exact ho
    | cell d i =>
      obtain ⟨b, n, p, h1, h2, h3, h4, h5⟩ := ho
      have hbl := hS.mlt b 0 (hS.box d b n h1).2.1
      exact ⟨b, n, p, h1, h2, h3, h4, by rw [← hb.cell (p := ⟨b, i, none⟩) hbl]; exact h5⟩
  have htl : ∀ key s v, Own H O w β key s v → ∀ g, tb v = some g → g < w.heap.size := fun key s v ho g hg => by
    obtain ⟨_, k, hk⟩ := (hS.tok key s v ho).lt hg
    exact hS.mlt g k hk
  have SW : SH H w0 N O D w' M' β := by
    refine ⟨hS.bel.later hb, ⟨fun b hb => (hMM b (hS.bel.lt hb)).trans (hS.mN b hb), hS.mN.gl⟩, S1.mlt, ?_, hS.inj, hS.dom, fun k => hR _ _ (hS.reg k), ?_, ?_, ?_⟩
    · intro d b n hd
      obtain ⟨h1, h2, h3⟩ := hS.box d b n hd
      have hbl := hS.mlt b 0 h2
      exact ⟨h1, (hMM b hbl).trans h2, h3.ext (hb.block b hbl) hR⟩
    · intro key s v ho
      have ht := hS.tok key s v (hOw _ _ _ ho)
      exact ht.ext (fun g hg => ⟨hb.block g (htl _ _ _ (hOw _ _ _ ho) g hg), hMM g (htl _ _ _ (hOw _ _ _ ho) g hg)⟩)
    · intro key key' s s' v v' g ho ho'; exact hS.tokne key key' s s' v v' g (hOw _ _ _ ho) (hOw _ _ _ ho')
    · intro key s v g d n ho; exact hS.tokbox key s v g d n (hOw _ _ _ ho)
  have hrv : Rel w' M' β w0.old r v := Rel.flat (S1.reg none) hf
  have e1 : O = look [] ([] ++ ob) := funext hO
  have e2 : D = fun d => notIn d (([] ++ ob).map Prod.fst) := funext hD
  refine ⟨v, M', β, rfl, ?_⟩
  rw [← e1, ← e2]
  have new : ∀ (s : SV) g, r.sv = some s → s.own = true → tb v = some g → w.heap.size ≤ g := fun s g h1 h2 hg => by
    have ht := S1.tok (.slot none) s v ⟨h1, h2, rfl⟩
    rcases ht with ⟨a, rfl⟩ | ⟨g', c, cur, rfl, t2, _⟩
    · exact absurd hg tb_full
    · have : g' = g := tb_blk hg
      subst this
      exact Nat.le_of_not_lt t2
  refine SW.cons r v hrv (fun s h1 h2 => ⟨?_, fun key s' v' g ho hg hg' => ?_, fun g d n hg hd => ?_⟩)
  · have ht := S1.tok (.slot none) s v ⟨h1, h2, rfl⟩
    rcases ht with ht | ⟨g, c, cur, t1, t2, t3, t4, t5⟩
    · exact .inl ht
    · exact .inr ⟨g, c, cur, t1, fun hg => t2 (hS.bel.lt hg), t3, t4, t5⟩
  · have := new s g h1 h2 hg
    have := htl key s' v' (hOw _ _ _ ho) g hg'
    omega
  · have := new s g h1 h2 hg
    have := hS.mlt g 0 (hS.box d g n hd).2.1
    omega
theorem flatAll_spec : ∀ {args : List Operand}, flatAll st args = true → ∀ p ∈ args.map (fun x => (st.opd x).view), p.flat = true
  | [], _, p, hp => by cases hp
  | x :: r, h, p, hp => by
    simp only [flatAll] at h
    split at h
    · rename_i hx
      rw [List.map_cons] at hp
      rcases List.mem_cons.1 hp with e | e
      · subst e; exact hx
      · exact flatAll_spec h p e
    · cases h
theorem args_rel (h : SR cx w0 N nt st a w M β) (args : List Operand) : ∀ (i : Nat) (p : PV) (v : Value), (args.map fun x => (st.opd x).view)[i]? = some p → (args.map a.eval)[i]? = some v → Rel w M β w0.old p v := by
  intro i p v hp hv
  rw [List.getElem?_map] at hp hv
  cases hx : args[i]? with
  | none => rw [hx] at hp; cases hp
  | some x =>
    rw [hx] at hp hv
    simp only [Option.map_some, Option.some.injEq] at hp hv
    subst hp; subst hv
    exact (h.opd x).view
theorem clo_eq {B : Nat → Prop} {f n : Nat} {caps : List PV} {v : Value} (h : Rel w M β B (.clo f n caps) v) : ∃ cs : List Value, v = .func (.func f) (cs.take n).toArray (cs.drop n).toArray ∧ caps.length = cs.length ∧ ∀ (i : Nat) (p : PV) (v : Value), caps[i]? = some p → cs[i]? = some v → Rel w M β B p v := by
  cases h with
  | row p s hs => cases hs
  | clo f n l cs hl hr => exact ⟨cs, rfl, hl, hr⟩
/-- a row as it is, or as it reads -/
def RowR (x y : List PV) : Prop := x.length = y.length ∧ ∀ (j : Nat) (q : PV), y[j]? = some q → ∃ p, x[j]? = some p ∧ (q = p ∨ PV.Le p q)
theorem RowR.of_le {x y : List PV} (h : RowLe x y) : RowR x y := ⟨h.get.1, fun j q hq => let ⟨p, h1, h2⟩ := h.get.2 j q hq; ⟨p, h1, .inr h2⟩⟩
theorem step_sound (h : SR cx w0 N nt st a w M β) (hd : ∀ x, o.dst = some x → x < nt) {inl : Nat → Bool} {once : Nat} (hs : stepD P (CStar P) (XStar P) ban (cOp P inl once o) o.dst st (fun δ' => δ' = δ)) : Good cx P w0 N nt st a w o δ := by
  obtain ⟨dst, op, type, pos, after, guard⟩ := o
  have nilmv : ∀ (x : Operand) (op : Op), (∀ w, (execOp a.eval ⟨dst, op, type, pos, after, guard⟩).run P w = .ok (.value (a.eval x)) w) → ∀ e, isNilS x = true → stepD P (CStar P) (XStar P) ban (.nilsl e) dst st (fun δ' => δ' = δ) →
      Good cx P w0 N nt st a w ⟨dst, op, type, pos, after, guard⟩ δ := by
    intro x op hrun e hx hs
    have hv : a.eval x = .slice none 0 0 := by
      unfold isNilS at hx
      split at hx
      · rfl
      · cases hx
    simp only [stepD, gd_and] at hs
    cases dst with
    | none => exact hs.elim
    | some d =>
      cases hy : LX.nil e with
      | none => rw [hy] at hs; exact hs.elim
      | some y => rw [hy] at hs; exact (step_nilsl (P := P) (o := ⟨some d, op, type, pos, after, guard⟩) h hd e y d rfl hy (by rw [hrun, hv])).of_eq hs
  have nilk : ∀ (x : Operand) (op : Op) (k : K), (∀ w, (execOp a.eval ⟨dst, op, type, pos, after, guard⟩).run P w = .ok (.value (a.eval x)) w) → (stepD P (CStar P) (XStar P) ban k dst st (fun δ' => δ' = δ) → Good cx P w0 N nt st a w ⟨dst, op, type, pos, after, guard⟩ δ) →
      stepD P (CStar P) (XStar P) ban (nilK P x type k) dst st (fun δ' => δ' = δ) → Good cx P w0 N nt st a w ⟨dst, op, type, pos, after, guard⟩ δ := by
    intro x op k hrun hk hs
    unfold nilK at hs
    split at hs
    · rename_i e hx _
      exact nilmv x _ hrun e hx hs
    · exact hk hs
  cases op with
  | move x =>
    refine nilk x _ (moveK P once type dst x) (fun _ => rfl) (fun hs => ?_) hs
    have tk : (∃ s d, x = .tmp s ∧ dst = some d ∧ moveK P once type dst x = .take s) ∨ moveK P once type dst x = .move x := by
      unfold moveK
      cases isSlT P type with
      | false => exact .inr rfl
      | true =>
        cases x with
        | tmp s =>
          cases dst with
          | none => exact .inr rfl
          | some d =>
            cases hb : mvB once d with
            | true => exact .inl ⟨s, d, rfl, rfl, by simp only [hb]⟩
            | false => exact .inr (by simp only [hb])
        | _ => exact .inr rfl
    rcases tk with ⟨s, d, rfl, rfl, e⟩ | e
    · rw [e] at hs
      exact (step_take h hd s d rfl (fun _ => rfl)).of_eq hs
    · rw [e] at hs
      exact (step_move h hd x (fun _ => rfl)).of_eq hs
  | assign x =>
    refine nilk x _ (takeK P type x) (fun _ => rfl) (fun hs => ?_) hs
    have tk : (∃ s, x = .tmp s ∧ takeK P type x = .take s) ∨ takeK P type x = .move x := by
      unfold takeK
      cases isSlT P type with
      | false => exact .inr rfl
      | true => cases x <;> first | exact .inl ⟨_, rfl, rfl⟩ | exact .inr rfl
    rcases tk with ⟨s, rfl, e⟩ | e
    · rw [e] at hs
      simp only [stepD, gd_and] at hs
      cases dst with
      | none => exact hs.elim
      | some d => exact (step_take h hd s d rfl (fun _ => rfl)).of_eq hs
    · rw [e] at hs
      exact (step_move h hd x (fun _ => rfl)).of_eq hs
  | pick c x y =>
    simp only [cOp, stepD, gd_and] at hs
    have hcr := h.opd c
    split at hs
    · rename_i t hq
      rw [hq] at hcr
      have hv : a.eval c = .bool t := hcr.val_eq
      have hrun : ∀ w, (execOp a.eval ⟨dst, .pick c x y, type, pos, after, guard⟩).run P w = .ok (.value (if t then a.eval x else a.eval y)) w := by
        intro w
        simp only [execOp, hv, asBool, Sem.run_bind, Sem.run_pure, Result.andThen_ok]
      cases t with
      | true => exact (good_put h hd _ _ w (Below.refl _ _) (hrun w) (h.opd x).view (view_no_own _)).of_eq hs
      | false => exact (good_put h hd _ _ w (Below.refl _ _) (hrun w) (h.opd y).view (view_no_own _)).of_eq hs
    · exact hs.elim
  | alloc t =>
    simp only [cOp] at hs
    split at hs
    · rename_i z hz
      simp only [stepD, gd_and] at hs
      cases dst with
      | none => exact hs.elim
      | some d =>
        simp only at hs
        split at hs
        · rename_i g1
          obtain ⟨i, z0, hi, hz0, hl0, hr0⟩ := zeroP_rel (w := w) (M := M) (β := β) (B := w0.old) hz
          refine (step_alloc h hd d (st.base + d) rfl z z0.cells t g1 ⟨hl0, fun i p v hp hv => ⟨(hr0 i p v hp hv).1, (hr0 i p v hp hv).2.1⟩⟩ (fun i p s v hp hs ho hv => (hr0 i p v hp hv).2.2 s hs ho) ?_).of_eq hs
          simp only [execOp, Instr.alloc, zeroValue, typeInfo, newVar, newRow, newObj, Sem.run_bind, Sem.run_pure, Result.andThen_ok, run_program, hi, hz0]
          simp [Sem.run]
        · exact hs.elim
    · exact hs.elim
  | box t x =>
    simp only [cOp, stepD, gd_and] at hs
    cases dst with
    | none => exact hs.elim
    | some d =>
      simp only at hs
      split at hs
      · rename_i g1 g2
        obtain ⟨c1, c2⟩ := cells_view (h.opd x) g2
        refine (step_alloc h hd d (st.base + d) rfl _ (a.eval x).cells t g1 ⟨by rw [← c1]; simp, fun i p v hp hv => c2 i p v hp (by rw [Array.getElem?_toList]; exact hv)⟩ (fun i p s v hp hs ho hv => ?_) ?_).of_eq hs
        · obtain ⟨p', _, rfl⟩ := map_view_get hp
          rw [view_sv' hs] at ho; cases ho
        · simp only [execOp, Instr.box, newVar, newRow, newObj, Sem.run_bind, Sem.run_pure, Result.andThen_ok]
          rfl
      · exact hs.elim
  | build t parts =>
    simp only [cOp] at hs
    split at hs
    · rename_i z fs hz hf
      split at hs
      · rename_i qs hp
        simp only [stepD, gd_and] at hs
        obtain ⟨i, z0, hi, hz0, hl0, hr0⟩ := zeroB_rel (w := w) (M := M) (β := β) (B := w0.old) hz
        obtain ⟨l', cs', r1, r2, r3, r4⟩ := fill_sound h fs parts.toList qs (z.map PV.view) z0.cells _ hp ⟨by rw [List.length_map, hl0], fun i p v hp hv => by
          obtain ⟨p', hp', rfl⟩ := map_view_get hp
          exact ⟨(hr0 i p' v hp' hv).1.view, (hr0 i p' v hp' hv).2.1⟩⟩ hs
        have hbuilt : P.built t (parts.map fun p => (p.1, a.eval p.2)).toList = some cs' := by
          unfold Program.built
          unfold fieldsT at hf
          cases hu : P.underlying t with
          | none => rw [hu] at hf; cases hf
          | some d =>
            rw [hu] at hf
            cases d with
            | struct fields =>
              simp only at hf
              simp only [hi, hz0, hf]
              simpa using r1
            | array n e =>
              simp only at hf
              cases hie : P.info? e with
              | none => rw [hie] at hf; cases hf
              | some ie =>
                rw [hie] at hf
                simp only [Option.map_some, Option.some.injEq] at hf
                subst hf
                simp only [hi, hz0, hie]
                refine fill_more (fun j x hj => ?_) _ _ _ (by simpa using r1)
                cases hjr : (List.range n)[j]? with
                | none => rw [hjr] at hj; cases hj
                | some j' =>
                  rw [hjr] at hj
                  rw [List.getElem?_range (by have := (List.getElem?_eq_some_iff.1 hjr).1; simpa using this)] at hjr
                  injection hjr with hjr
                  subst hjr
                  exact hj
            | _ => cases hf
        refine (good_put (v := .agg cs') h hd (.agg l') w (Below.refl _ _) ?_ ?_ (no_own rfl)).of_eq r4
        · have := run_build w t _ cs' hbuilt
          simp only [execOp, Sem.run_bind, Sem.run_pure, Result.andThen_ok]
          rw [this]
          rfl
        · have : Rel w M β w0.old (.agg l') (.agg cs'.toList.toArray) := by
            refine .agg l' cs'.toList (by simpa using r2.1) (fun v hv => ?_) (fun i p v hp hv => (r2.2 i p v hp (by rw [← Array.getElem?_toList]; exact hv)).1)
            obtain ⟨j, hj, rfl⟩ := List.getElem_of_mem hv
            have hj' : j < l'.length := by rw [r2.1]; simpa using hj
            exact (r2.2 j _ _ (List.getElem?_eq_getElem hj') (by rw [← Array.getElem?_toList]; exact List.getElem?_eq_getElem hj)).2
          simpa using this
      · exact hs.elim
    · exact hs.elim
  | buildSlice t n parts =>
    simp only [cOp] at hs
    cases hu : P.underlying t with
    | none => rw [hu] at hs; exact hs.elim
    | some d =>
      rw [hu] at hs
      cases d with
      | slice e =>
        simp only at hs
        cases g1 : szT P e with
        | none => rw [g1] at hs; exact hs.elim
        | some sz =>
          cases g2 : zeroT P e with
          | none => rw [g1, g2] at hs; exact hs.elim
          | some z =>
            cases g3 : denseT 0 parts.toList with
            | none => rw [g1, g2, g3] at hs; exact hs.elim
            | some xs =>
              rw [g1, g2, g3] at hs
              simp only at hs
              cases b1 : Nat.beq xs.length n <;> cases b2 : Nat.ble (n * sz) 16777216 <;> cases b3 : Nat.beq z.length sz <;> cases b4 : Nat.ble 1 sz <;> simp only [b1, b2, b3, b4] at hs <;> try exact hs.elim
              have e1 := nat_beq b1
              have e2 : n * sz ≤ 16777216 := Nat.le_of_ble_eq_true b2
              have e3 := nat_beq b3
              have e4 : 1 ≤ sz := Nat.le_of_ble_eq_true b4
              simp only [stepD, gd_and] at hs
              obtain ⟨i, hi, his⟩ := szT_info g1
              unfold zeroT at g2
              cases hzz : i.zero with
              | none => simp [hi, hzz] at g2
              | some zv =>
                simp [hi, hzz] at g2
                have hzs : zv.cells.size = sz := by rw [← e3, ← g2]; simp
                obtain ⟨es, cs', r1, r2, r3, r4, r5, r6, r7⟩ := elems_sound h sz parts.toList 0 xs _ ((Array.range (n * sz)).map (zv.cells[· % zv.cells.size]!)) g3 hs (by simp; rw [← e1]; exact Nat.le_refl _)
                have hlen : es.length = n := by rw [r3, e1]
                obtain ⟨hE, hS, hRR, hb1, hn1⟩ := h.sh.rowNew cs' e (es.length * sz)
                have hh : (w.alloc (.cells cs' e)).heap[w.heap.size]? = some (.cells cs' e (0, 0)) := heap_alloc_new w _
                have hsize : cs'.size = n * sz := by rw [r2]; simp
                have hrun : (execOp a.eval ⟨dst, .buildSlice t n parts, type, pos, after, guard⟩).run P w = .ok (.value (.slice (some ⟨w.heap.size, 0, none⟩) n n)) (w.alloc (.cells cs' e)) := by
                  by_cases hz0 : n * i.size = 0
                  · have hn0 : n = 0 := by
                      rcases Nat.mul_eq_zero.1 hz0 with h0 | h0
                      · exact h0
                      · omega
                    subst hn0
                    have hpn : parts.toList = [] := by
                      have hx0 : xs = [] := List.eq_nil_of_length_eq_zero e1
                      subst hx0
                      cases hp : parts.toList with
                      | nil => rfl
                      | cons q r =>
                        obtain ⟨j, y⟩ := q
                        rw [hp] at g3
                        simp only [denseT] at g3
                        split at g3
                        · injection g3 with g3; cases g3
                        · cases g3
                    have hpa : parts = #[] := by apply Array.ext'; simpa using hpn
                    have hcs : cs' = #[] := Array.eq_empty_of_size_eq_zero (by rw [hsize]; simp)
                    subst hpa; subst hcs
                    have hr0 : Array.map (fun (_ : Nat) => (default : Value)) (Array.range 0) = #[] := Array.eq_empty_of_size_eq_zero (by simp)
                    simp [execOp, Instr.buildSlice, run_underlying hu, sizeOf, typeInfo, hi, Instr.fill, newRow, newObj, Sem.run]
                    rw [hr0]
                  · have := run_buildSlice (P := P) w t e n (parts.map fun p => (p.1, a.eval p.2)) cs' i zv hu hi hzz (by rw [his]; omega) hz0 (by rw [his]; simpa using r1)
                    simp only [execOp, Sem.run_bind, Sem.run_pure, Result.andThen_ok]
                    rw [this]
                    rfl
                have hle : w0.w.heap.size ≤ w.heap.size := h.sh.bel.size
                have hmax : n ≤ maxLen := by
                  have : n ≤ n * sz := Nat.le_mul_of_pos_right _ (by omega)
                  simp only [maxLen]; omega
                -- the row, under the name that it goes by
                have fin : ∀ (p : PV) (s : SV), p.sv = some s → s.e = e → s.sz = sz → s.n = n → (∀ (i : Nat) (x : List PV), es[i]? = some x → RowR x (s.f i)) → dput dst p = δ → Good cx P w0 N nt st a w ⟨dst, .buildSlice t n parts, type, pos, after, guard⟩ δ := by
                  intro p s hp hse hss hsn hrow hδ
                  subst hδ
                  have hget : ∀ i, i < n → ∃ x, es[i]? = some x := fun i hi => ⟨_, List.getElem?_eq_getElem (by omega)⟩
                  have hrel : Rel (w.alloc (.cells cs' e)) (fun b => if b = w.heap.size then some (es.length * sz) else M b) β w0.old p (.slice (some ⟨w.heap.size, 0, none⟩) n n) :=
                    Rel_row hp hsn.symm hh (Nat.le_refl _) (fun i hi => by
                        obtain ⟨x, hx⟩ := hget i hi
                        rw [← (hrow i x hx).1, hss]; exact r5 i x hx)
                      (fun j hj m hm => by
                        simp only [if_true] at hm; injection hm with hm
                        show j < m
                        rw [hss] at hj; rw [← hm, hlen]; exact hj)
                      (fun i j q hi hq => by
                        obtain ⟨x, hx⟩ := hget i hi
                        obtain ⟨p0, hp0, hle'⟩ := (hrow i x hx).2 j q hq
                        obtain ⟨v, q1, q2, q3⟩ := r6 i x j p0 hx hp0
                        rw [hss]
                        refine ⟨v, by simpa using q1, ?_, q3⟩
                        rcases hle' with rfl | hle'
                        · exact hRR _ _ q2
                        · exact (hRR _ _ q2).le hle')
                  cases dst with
                  | none =>
                    intro K Q hK
                    exact wp_value hrun (hK _ _ _ _ ⟨h.defs, h.nt, hS⟩)
                  | some d =>
                    refine good_cons h hd rfl (st0 := st) (hS.cons p _ hrel (fun s' h1 h2 => ?_)) hrun (fun s => app_get_one st d s _) (fun _ => rfl) (fun _ h => h)
                    rw [hp] at h1; injection h1 with h1; subst h1
                    cases n with
                    | zero => exact ⟨.z rfl hsn, fun key s' v' g _ hg => absurd hg tb_zero, fun g d n hg => absurd hg tb_zero⟩
                    | succ n =>
                      refine ⟨.inr ⟨w.heap.size, n, cs', by rw [hsn], h.sh.bel.new, by simp [hsn, hss, hlen], by rw [hse]; exact hh, by omega, hmax, by rw [hss]; exact hsize⟩, fun key s' v' g ho' hg => ?_, fun g d n hg => ?_⟩
                      · have : w.heap.size = g := tb_blk hg
                        rw [← this]; exact (hn1 key s' v' ho').2
                      · have : w.heap.size = g := tb_blk hg
                        rw [← this]; exact hb1 d _
                cases hlit : LX.lit e es with
                | some x =>
                  rw [hlit] at r7
                  simp only at r7
                  obtain ⟨l1, l2, l3⟩ := LX.lit_spec e es x hlit
                  cases b5 : Nat.beq x.sz sz with
                  | false => rw [b5] at r7; exact r7.elim
                  | true =>
                    rw [b5] at r7
                    exact fin (.lst true x) ⟨true, x.e, x.sz, x.len, x.row⟩ rfl l1 (nat_beq b5) (by show x.len = n; rw [l2, hlen]) (fun i r hr => .of_le (l3 i r hr)) r7
                | none =>
                  rw [hlit] at r7
                  refine fin (.sl true e sz es) ⟨true, e, sz, es.length, fun i => es.getD i []⟩ rfl rfl rfl hlen (fun i x hx => ?_) r7
                  have : es.getD i [] = x := by simp [List.getD, hx]
                  show RowR x (es.getD i [])
                  rw [this]
                  exact ⟨rfl, fun j q hq => ⟨q, hq, .inl rfl⟩⟩
      | _ => exact hs.elim
  | load t x =>
    simp only [cOp] at hs
    cases hu : P.underlying t with
    | none => rw [hu] at hs; exact hs.elim
    | some d =>
      cases hsz : szT P t with
      | none => rw [hu, hsz] at hs; exact hs.elim
      | some sz =>
        rw [hu, hsz] at hs
        simp only at hs
        have key : ∀ (g : Bool), g = isAggT P t → (isAggT P t = false → sz = 1) → stepD P (CStar P) (XStar P) ban (.load g sz x) dst st (fun δ' => δ' = δ) → Good cx P w0 N nt st a w ⟨dst, .load t x, type, pos, after, guard⟩ δ := by
          intro g hg hsz1 hs
          subst hg
          have hxr := h.opd x
          simp only [stepD, gd_and] at hs
          split at hs
          · rename_i b off hq
            rw [hq] at hxr
            split at hs
            · rename_i g1 g2 g3
              obtain ⟨bb, n, hb, hv⟩ := loc_eq hxr
              rw [vobj_take] at g3 hs
              rw [plain_views] at g3
              exact (step_load h hd t sz x d rfl hu hsz hsz1 _ _ hv (h.cellsAt hb (fun i p hp => drop_take_get hp) g3).views (by have := (lenGe_iff _ _).1 g2; simp [St.vobj] at this; simp; omega)).of_eq hs
            · exact hs.elim
          · rename_i l hq
            rw [hq] at hxr
            split at hs
            · rename_i g2
              obtain ⟨ad, hv, hcell⟩ := ref_cellsAt hxr
              exact (step_load h hd t sz x d rfl hu hsz hsz1 _ _ hv (hcell.take sz) (by rw [List.length_take]; have := (lenGe_iff _ _).1 g2; omega)).of_eq hs
            · exact hs.elim
          · rename_i b sz' i off hq
            rw [hq] at hxr
            split at hs
            · rename_i y g1 g3
              have g3 := vobj_arr g3
              split at hs
              · rename_i g4 g5
                have e := nat_beq g4
                subst e
                obtain ⟨bb, n, hb, hin, hv⟩ := el_eq hxr
                exact (step_load h hd t sz x d rfl hu hsz hsz1 _ _ hv ((el_cellsAt h hb hin g3).take sz) (by rw [List.length_take]; have := (lenGe_iff _ _).1 g5; omega)).of_eq hs
              · exact hs.elim
            · exact hs.elim
          · exact hs.elim
        have key2 : (isAggT P t = false ∧ sz = 1) → ∀ dd, dst = some dd → stepD P (CStar P) (XStar P) ban (.loadT x) dst st (fun δ' => δ' = δ) → Good cx P w0 N nt st a w ⟨dst, .load t x, type, pos, after, guard⟩ δ := by
          rintro ⟨hg, rfl⟩ dd hdd hs
          subst hdd
          simp only [stepD, gd_and] at hs
          cases hq : st.opd x with
          | loc b off =>
            rw [hq] at hs
            simp only at hs
            split at hs
            · rename_i g1 g2
              simp only [Bool.and_eq_true] at g2
              exact (step_loadT h hd dd rfl x t b off d rfl hu hsz hg hq g2.1 g2.2).of_eq hs
            · exact hs.elim
          | _ => rw [hq] at hs; exact hs.elim
        have slagg : isSlT P t = true → isAggT P t = false := by
          intro h1
          unfold isSlT at h1
          unfold isAggT
          rw [hu] at h1 ⊢
          cases d <;> simp at h1 ⊢
        have sub : ∀ (g : Bool), g = isAggT P t → (isAggT P t = false → sz = 1) → stepD P (CStar P) (XStar P) ban (loadK P once t dst g sz x) dst st (fun δ' => δ' = δ) → Good cx P w0 N nt st a w ⟨dst, .load t x, type, pos, after, guard⟩ δ := by
          intro g hg hsz1 hs
          unfold loadK at hs
          split at hs
          · rename_i dd hsl _
            split at hs
            · exact key2 ⟨slagg hsl, hsz1 (slagg hsl)⟩ dd rfl hs
            · exact key g hg hsz1 hs
          · exact key g hg hsz1 hs
        cases g1 : isAggT P t with
        | false =>
          cases g2 : Nat.beq sz 1 with
          | false => rw [g1, g2] at hs; exact hs.elim
          | true => rw [g1, g2] at hs; exact sub false g1.symm (fun _ => nat_beq g2) hs
        | true => rw [g1] at hs; exact sub true g1.symm (fun e => by rw [g1] at e; cases e) hs
  | store t ad x =>
    simp only [cOp] at hs
    cases hdst : dst with
    | some d => rw [hdst] at hs; exact hs.elim
    | none =>
      subst hdst
      cases hsz : szT P t with
      | none => rw [hsz] at hs; exact hs.elim
      | some sz =>
        rw [hsz] at hs
        simp only at hs
        have key : stepD P (CStar P) (XStar P) ban (.store sz ad x) none st (fun δ' => δ' = δ) → Good cx P w0 N nt st a w ⟨none, .store t ad x, type, pos, after, guard⟩ δ := by
          intro hs
          simp only [stepD, gd_and] at hs
          cases hq : st.opd ad with
          | loc b off =>
            rw [hq] at hs
            simp only at hs
            split at hs
            · rename_i g1 g2 g3
              simp only [Bool.and_eq_true] at g3
              obtain ⟨w', hrun, hS⟩ := step_storeN (o := ⟨none, .store t ad x, type, pos, after, guard⟩) h ad x t sz b off rfl hsz hq g1 g2 g3.1 g3.2
              exact (skip_ok rfl hrun hS).of_eq hs
            · exact hs.elim
          | el b sz' i off =>
            rw [hq] at hs
            simp only at hs
            split at hs
            · rename_i y g1 g2 g3
              split at hs
              · rename_i y' g4 g5
                have e := nat_beq g4
                subst e
                obtain ⟨w', hrun, hS⟩ := step_storeEl (o := ⟨none, .store t ad x, type, pos, after, guard⟩) h ad x t sz b i off y y' _ rfl hsz hq rfl g1 g2 g3 g5
                exact (skip_ok rfl hrun hS).of_eq hs
              · exact hs.elim
            · exact hs.elim
          | _ => rw [hq] at hs; exact hs.elim
        unfold storeK at hs
        split at hs
        · rename_i s hsl
          split at hs
          · rename_i g1 g2
            have e := nat_beq g2
            subst e
            simp only [stepD, gd_and] at hs
            cases hq : st.opd ad with
            | loc b off =>
              rw [hq] at hs
              simp only at hs
              split at hs
              · rename_i q1 q2
                simp only [Bool.and_eq_true] at q2
                exact (step_storeT h ad s t b off rfl hsz hq q1 q2.1 q2.2 rfl).of_eq hs
              · exact hs.elim
            | el b sz' i off =>
              rw [hq] at hs
              simp only at hs
              split at hs
              · rename_i y q1 q2
                split at hs
                · rename_i y' q3 q4
                  have e := nat_beq q3
                  subst e
                  have hc : (st.opd (.tmp s)).cells = [st.get s] := one_cells q1
                  obtain ⟨w', hrun, hS⟩ := step_storeEl (o := ⟨none, .store t ad (.tmp s), type, pos, after, guard⟩) h ad (.tmp s) t 1 b i off y y' [(st.get s).view] rfl hsz hq (by rw [hc]; rfl) (by rw [hc]; rfl) (by rw [hc]; simp only [ones]; rw [q1]) q2 q4
                  exact (skip_ok (δ := ⟨[(s, (st.get s).view)], [(b, [.arrO y'])]⟩) rfl hrun (hS.drop s)).of_eq hs
                · exact hs.elim
              · exact hs.elim
            | _ => rw [hq] at hs; exact hs.elim
          · exact key hs
        · exact key hs
  | nilCheck x =>
    simp only [cOp, stepD, gd_and] at hs
    have hxr := h.opd x
    split at hs
    · rename_i b off hq
      rw [hq] at hxr
      obtain ⟨bb, n, hb, hv⟩ := loc_eq hxr
      exact (good_put h hd _ _ w (Below.refl _ _) (by simp only [execOp, hv]; rfl) (.loc b off bb n hb) (no_own rfl)).of_eq hs
    · rename_i l hq
      rw [hq] at hxr
      obtain ⟨ad, hv, _⟩ := ref_cellsAt hxr
      rw [hv] at hxr
      exact (good_put h hd _ _ w (Below.refl _ _) (by simp only [execOp, hv]; rfl) hxr (no_own rfl)).of_eq hs
    · rename_i b sz i off hq
      rw [hq] at hxr
      obtain ⟨bb, n, hb, hin, hv⟩ := el_eq hxr
      exact (good_put h hd _ _ w (Below.refl _ _) (by simp only [execOp, hv]; rfl) (.el b sz i off bb n hb hin) (no_own rfl)).of_eq hs
    · exact hs.elim
  | binOp b t x y t' =>
    simp only [cOp] at hs
    cases hag : isAggT P t with
    | false =>
      rw [hag] at hs
      simp only at hs
      split at hs
      · refine bin2_sound h hd hs fun u v r hu hv hb w => ?_
        simp only [execOp, hu, hv, Sem.run_bind]
        rw [bin2_run0 t' hb]; rfl
      · refine bin2_sound h hd hs fun u v r hu hv hb w => ?_
        simp only [execOp, hu, hv, Sem.run_bind]
        rw [bin2_run1 t' hb]; rfl
      · refine bin2_sound h hd hs fun u v r hu hv hb w => ?_
        simp only [execOp, hu, hv, Sem.run_bind]
        rw [bin2_run2 t' hb]; rfl
      · refine bin2_sound h hd hs fun u v r hu hv hb w => ?_
        simp only [execOp, hu, hv, Sem.run_bind]
        rw [bin2_run3 t' hb]; rfl
      · refine bin2_sound h hd hs fun u v r hu hv hb w => ?_
        simp only [execOp, hu, hv, Sem.run_bind]
        rw [bin2_run4 t' hb]; rfl
      · rename_i hty
        refine bin2_sound h hd hs (fun u v r hu hv hb w => ?_) fun ad n c hx hy _ w => ?_
        · unfold bin2 at hb
          cases u <;> cases v <;> cases hb
        · have e1 := equal_nil (P := P) (ad := ad) (n := n) (c := c) w hty
          simp only [execOp, hx, hy, Sem.run_bind, eqGuard, binOp, Bool.not_true, Bool.false_eq_true, if_false, ite_self, e1, Sem.run_pure, Result.andThen_ok]
          rfl
      · rename_i hty
        refine bin2_sound h hd hs (fun u v r hu hv hb w => ?_) fun ad n c hx hy _ w => ?_
        · unfold bin2 at hb
          cases u <;> cases v <;> cases hb
        · have e1 := equal_nil (P := P) (ad := ad) (n := n) (c := c) w hty
          simp only [execOp, hx, hy, Sem.run_bind, eqGuard, binOp, Bool.not_true, Bool.false_eq_true, if_false, ite_self, e1, Sem.run_pure, Result.andThen_ok]
          rfl
      · exact scal_sound h hd (fun cs b e => by cases e) hs
    | true =>
      rw [hag] at hs
      simp only at hs
      split at hs
      · rename_i ts hts
        exact eqA_sound h hd (.inl ⟨rfl, rfl⟩) hts rfl hs
      · rename_i ts hts
        exact eqA_sound h hd (.inr ⟨rfl, rfl⟩) hts rfl hs
      · exact hs.elim
  | unOp b t x => exact scal_sound h hd (fun cs b e => by cases e) hs
  | convert b t x =>
    have key : stepD P (CStar P) (XStar P) ban (.scal ⟨dst, .convert b t x, type, pos, after, guard⟩) dst st (fun δ' => δ' = δ) → Good cx P w0 N nt st a w ⟨dst, .convert b t x, type, pos, after, guard⟩ δ := fun hs => scal_sound h hd (fun cs b e => by cases e) hs
    simp only [cOp] at hs
    split at hs
    · rename_i e h1 h2
      split at hs
      · rename_i h3
        simp only [stepD, gd_and] at hs
        split at hs
        · rename_i own y hx
          split at hs
          · rename_i s hy
            exact (step_bstr h hd b t e x rfl h1 h3 h2 own y hx s hy).of_eq hs
          · exact hs.elim
        · rename_i hx
          exact (step_bstr0 h hd b t e x rfl h1 h3 h2 hx).of_eq hs
        · exact hs.elim
      · exact hs.elim
    · exact key hs
  | index t x i =>
    simp only [cOp] at hs
    split at hs
    · rename_i hty
      refine bin2_sound h hd hs fun u v r hu hv hb w => ?_
      simp only [execOp, hu, hv, Sem.run_bind]
      rw [bin2_run5 hty hb]; rfl
    · exact hs.elim
  | fieldAddr t x f =>
    simp only [cOp] at hs
    cases hu : P.underlying t with
    | none => rw [hu] at hs; exact hs.elim
    | some d =>
      rw [hu] at hs
      cases d with
      | struct fs =>
        simp only at hs
        cases hf : fs[f]? with
        | none => rw [hf] at hs; exact hs.elim
        | some fd =>
          rw [hf] at hs
          simp only at hs
          cases hsz : szT P fd.type with
          | none => rw [hsz] at hs; exact hs.elim
          | some sz =>
            rw [hsz] at hs
            cases sz with
            | zero => exact hs.elim
            | succ n =>
              simp only [stepD, gd_and] at hs
              have hxr := h.opd x
              split at hs
              · rename_i b off hq
                rw [hq] at hxr
                obtain ⟨bb, m, hb, hv⟩ := loc_eq hxr
                refine (step_field h hd t f x fs fd n rfl hu hf hsz _ hv (.loc b (off + fd.offset)) ?_ rfl).of_eq hs
                rw [add_lit2]
                exact .loc b _ bb m hb
              · rename_i l hq
                rw [hq] at hxr
                obtain ⟨ad, hv, _⟩ := ref_cellsAt hxr
                exact (step_field h hd t f x fs fd n rfl hu hf hsz _ hv _ (ref_drop hxr hv _) rfl).of_eq hs
              · rename_i b sz i off hq
                rw [hq] at hxr
                obtain ⟨bb, m, hb, hin, hv⟩ := el_eq hxr
                refine (step_field h hd t f x fs fd n rfl hu hf hsz _ hv (.el b sz i (off + fd.offset)) ?_ rfl).of_eq hs
                rw [add_lit2, Nat.add_assoc]
                exact .el b sz i _ bb m hb hin
              · exact hs.elim
      | _ => exact hs.elim
  | indexAddr t x i =>
    simp only [cOp] at hs
    cases hu : P.underlying t with
    | none => rw [hu] at hs; exact hs.elim
    | some d =>
      rw [hu] at hs
      cases d with
      | slice e =>
        simp only at hs
        cases hsz : szT P e with
        | none => rw [hsz] at hs; exact hs.elim
        | some sz =>
          rw [hsz] at hs
          simp only [stepD, gd_and] at hs
          have hxr := h.opd x
          have hir := h.opd i
          split at hs
          · rename_i c b e' sz' m k n hq hqi
            rw [hq] at hxr
            rw [hqi] at hir
            obtain ⟨bb, cp, hb, hc, hv⟩ := vw_eq hxr
            split at hs
            · rename_i g1
              obtain ⟨h0, h1, hk⟩ := hs
              have e := nat_beq g1
              subst e
              refine (step_index h hd t _ sz x i rfl hu hsz _ _ _ k n hv hir.val_eq h0 h1 (.el b sz n.toNat 0) ?_ rfl).of_eq hk
              rw [add_lit]
              exact .el b sz n.toNat 0 bb m hb (by omega)
            · rename_i g1
              obtain ⟨h0, h1, hk⟩ := hs
              refine (step_index h hd t _ sz x i rfl hu hsz _ _ _ k n hv hir.val_eq h0 h1 (.loc b (n.toNat * sz)) ?_ rfl).of_eq hk
              rw [add_lit]
              exact .loc b _ bb m hb
            · exact hs.elim
          · rename_i k n hqi hne
            rw [hqi] at hir
            cases hsv : (st.opd x).sv with
            | none => rw [hsv] at hs; exact hs.elim
            | some s =>
              rw [hsv] at hs
              simp only at hs
              cases g1 : Nat.beq sz s.sz with
              | false => rw [g1] at hs; exact hs.elim
              | true =>
                rw [g1] at hs
                obtain ⟨h0, h1, hk⟩ := hs
                have e := nat_beq g1
                subst e
                obtain ⟨A, c, hv, hc, hrow⟩ := row_eq hsv hxr
                obtain ⟨ad, rfl, hrel⟩ := hrow n.toNat (by omega)
                exact (step_index h hd t _ s.sz x i rfl hu hsz _ _ _ k n hv hir.val_eq h0 h1 (.ref (s.f n.toNat)) hrel rfl).of_eq hk
          · exact hs.elim
      | array n e =>
        simp only at hs
        split at hs
        · rename_i sz k hsz
          split at hs
          · rename_i hb
            rw [Bool.and_eq_true] at hb
            have h0 := of_decide_eq_true hb.1
            have h1 := of_decide_eq_true hb.2
            simp only [stepD, gd_and] at hs
            have hxr := h.opd x
            split at hs
            · rename_i b off hq
              rw [hq] at hxr
              obtain ⟨bb, m, hb, hv⟩ := loc_eq hxr
              refine (step_aindex h hd t n e sz x k rfl hu hsz _ hv h0 h1 (.loc b (off + k.toNat * sz)) ?_ rfl).of_eq hs
              rw [add_lit2]
              exact .loc b _ bb m hb
            · rename_i l hq
              rw [hq] at hxr
              obtain ⟨ad, hv, _⟩ := ref_cellsAt hxr
              exact (step_aindex h hd t n e sz x k rfl hu hsz _ hv h0 h1 _ (ref_drop hxr hv _) rfl).of_eq hs
            · rename_i b sz' i off hq
              rw [hq] at hxr
              obtain ⟨bb, m, hb, hin, hv⟩ := el_eq hxr
              refine (step_aindex h hd t n e sz x k rfl hu hsz _ hv h0 h1 (.el b sz' i (off + k.toNat * sz)) ?_ rfl).of_eq hs
              rw [add_lit2, Nat.add_assoc]
              exact .el b sz' i _ bb m hb hin
            · exact hs.elim
          · exact hs.elim
        · exact hs.elim
      | _ => exact hs.elim
  | extract x i =>
    simp only [cOp, stepD, gd_and] at hs
    have hxr := h.opd x
    split at hs
    · rename_i l hq
      rw [hq] at hxr
      split at hs
      · rename_i g1
        have hil := (lenGe_iff _ _).1 g1
        generalize hux : a.eval x = u at hxr
        cases hxr with
        | row p s hs => cases hs
        | tup l cs hl hr =>
          have hi : i < cs.length := by omega
          have hv : cs[i]? = some cs[i] := List.getElem?_eq_getElem hi
          have hp : l[i]? = some (l[i]'(by omega)) := List.getElem?_eq_getElem (by omega)
          refine (good_put h hd _ cs[i] w (Below.refl _ _) ?_ ?_ (view_no_own _)).of_eq hs
          · simp only [execOp, hux, Instr.extract, Sem.run_bind, List.getElem?_toArray, hv]
            rfl
          · rw [getN_get l i _ hp]
            exact (hr i _ _ hp hv).view
      · exact hs.elim
    · exact hs.elim
  | makeFunc fn first caps =>
    cases fn with
    | func f =>
      simp only [cOp] at hs
      cases hc : callable P f with
      | false => rw [hc] at hs; exact hs.elim
      | true =>
        rw [hc] at hs
        simp only [stepD, gd_and] at hs
        have e0 : caps.map a.eval = (caps.toList.map a.eval).toArray := by apply Array.ext'; simp
        have e1 : first.map a.eval = (first.toList.map a.eval).toArray := by apply Array.ext'; simp
        refine (good_put h hd (.clo f first.size ((first.toList ++ caps.toList).map fun x => (st.opd x).view)) (.func (.func f) (((first.toList ++ caps.toList).map a.eval).take first.size).toArray (((first.toList ++ caps.toList).map a.eval).drop first.size).toArray) w (Below.refl _ _) ?_ (.clo f _ _ _ (by simp) (args_rel h (first.toList ++ caps.toList))) (no_own rfl)).of_eq hs
        have t1 : ((first.toList ++ caps.toList).map a.eval).take first.size = first.toList.map a.eval := by
          rw [List.map_append, List.take_left' (by simp)]
        have t2 : ((first.toList ++ caps.toList).map a.eval).drop first.size = caps.toList.map a.eval := by
          rw [List.map_append, List.drop_left' (by simp)]
        rw [t1, t2, ← e0, ← e1]
        simp only [execOp, Instr.makeFunc, Sem.run_bind, Sem.run_pure, Result.andThen_ok]
    | _ => exact hs.elim
  | makeMap t r =>
    cases r with
    | some r => simp only [cOp] at hs; exact hs.elim
    | none =>
      simp only [cOp] at hs
      split at hs
      · rename_i ek ev hu
        split at hs
        · rename_i x y hx hy
          simp only [stepD, gd_and] at hs
          cases dst with
          | none => exact hs.elim
          | some d =>
            simp only at hs
            split at hs
            · rename_i g1
              exact (step_mkmap h hd d (st.base + d) rfl t _ _ x y rfl (LX.nil_spec ek x hx).2 (LX.nil_spec ev y hy).2 g1).of_eq hs
            · exact hs.elim
        · exact hs.elim
      · exact hs.elim
  | lookup t m q ok =>
    simp only [cOp] at hs
    split at hs
    · rename_i ek ev hu
      split at hs
      · rename_i gq ts z ht hz
        split at hs
        · rename_i hzk
          simp only [stepD, gd_and] at hs
          split at hs
          · rename_i b hm
            split at hs
            · rename_i gk gv ks vs c _ hob hq
              split at hs
              · rename_i r hgk hf hgv
                cases ok <;> exact step_lookup h hd rfl hu ht hz hzk hm hq hob hgk hf hgv hs
              · exact hs.elim
            · exact hs.elim
          · exact hs.elim
        · exact hs.elim
      · exact hs.elim
    · exact hs.elim
  | mapUpdate t m q x =>
    simp only [cOp] at hs
    split at hs
    · rename_i ek ev hu
      split at hs
      · rename_i gq ts ht
        simp only [stepD, gd_and] at hs
        split at hs
        · rename_i b hm
          split at hs
          · rename_i gk gv ks vs ck hob hq
            split at hs
            · rename_i r c hgk hf hc
              exact step_mapup h rfl rfl hu ht hm hq hob hgk hf hc hs
            · exact hs.elim
          · exact hs.elim
        · exact hs.elim
      · exact hs.elim
    · exact hs.elim
  | slice t x lo hi mx =>
    simp only [cOp] at hs
    cases hu : P.underlying t with
    | none => rw [hu] at hs; exact hs.elim
    | some d =>
      rw [hu] at hs
      cases d with
      | string =>
        cases mx with
        | some m => exact hs.elim
        | none =>
          simp only [stepD, gd_and] at hs
          split at hs
          · rename_i s hx
            split at hs
            · rename_i hh hhi
              split at hs
              · rename_i l hl
                obtain ⟨h0, h1, h2, hk⟩ := hs
                exact (step_sstr h hd t x lo hi rfl hu s hx hhi hl h0 h1 h2).of_eq hk
              · exact hs.elim
            · exact hs.elim
          · exact hs.elim
      | slice e =>
        simp only at hs
        cases hsz : szT P e with
        | none => rw [hsz] at hs; exact hs.elim
        | some sz =>
          rw [hsz] at hs
          have key : (hi = none → mx = none) → stepD P (CStar P) (XStar P) ban (.slc sz x lo hi mx) dst st (fun δ' => δ' = δ) → Good cx P w0 N nt st a w ⟨dst, .slice t x lo hi mx, type, pos, after, guard⟩ δ := by
            intro hmx hs
            simp only [stepD, gd_and, gdIf_and] at hs
            split at hs
            · rename_i own y hx
              split at hs
              · rename_i m g1 hm
                split at hs
                · rename_i hh hhi
                  split at hs
                  · rename_i l hl
                    obtain ⟨h0, h1, h2, h3, h4, hk⟩ := hs
                    exact (step_slc h hd t e sz x lo hi mx rfl hu hsz hmx own y hx (nat_beq g1) hm hhi hl h0 h1 h2 h3 h4).of_eq hk
                  · exact hs.elim
                · exact hs.elim
              · exact hs.elim
            · exact hs.elim
          cases mx with
          | none => exact key (fun _ => rfl) hs
          | some m =>
            cases hi with
            | none => exact hs.elim
            | some hi => exact key (fun e => by cases e) hs
      | _ => exact hs.elim
  | makeSlice t l c =>
    simp only [cOp] at hs
    cases hu : P.underlying t with
    | none => rw [hu] at hs; exact hs.elim
    | some d =>
      rw [hu] at hs
      cases d with
      | slice e =>
        simp only at hs
        cases hi : P.info? e with
        | none => rw [hi] at hs; exact hs.elim
        | some i =>
          cases hsz : szT P e with
          | none => rw [hi, hsz] at hs; exact hs.elim
          | some sz =>
            cases hz : zeroP P e with
            | none => rw [hi, hsz, hz] at hs; exact hs.elim
            | some z =>
              rw [hi, hsz, hz] at hs
              simp only at hs
              have his : i.size = sz := by
                unfold szT at hsz
                rw [hi] at hsz
                simpa using hsz
              cases b1 : Nat.beq z.length sz <;> cases b2 : Nat.ble 1 sz <;> cases b3 : sameOpd l c <;> cases b4 : zeroOpd l <;> simp only [b1, b2, b3, b4] at hs <;> try exact hs.elim
              · -- an empty row with room
                have hl0 : a.eval l = .int .i64 0 := by
                  unfold zeroOpd at b4
                  split at b4
                  · rename_i n
                    have e := of_decide_eq_true b4
                    subst e; rfl
                  · cases b4
                obtain ⟨i', z0, hi', hz0, hlz, _⟩ := zeroP_rel (w := w) (M := M) (β := β) (B := w0.old) hz
                rw [hi] at hi'
                injection hi' with hi'
                subst hi'
                simp only [stepD, gd_and] at hs
                split at hs
                · rename_i d m x hc hx
                  split at hs
                  · rename_i b5
                    obtain ⟨h0, h1, h2, hk⟩ := hs
                    have hcr := h.opd c
                    rw [hc] at hcr
                    have hcv : a.eval c = .int .i64 (m.toNat : Int) := by rw [hcr.val_eq, Int.toNat_of_nonneg h0]
                    have e1 : ((m.toNat * i.bytes : Nat) : Int) = m * (i.bytes : Int) := by rw [Int.natCast_mul, Int.toNat_of_nonneg h0]
                    exact (step_mkcap h hd d e rfl t l c m.toNat i x z0 rfl hu hi hz0 hx (by rw [his]; exact nat_beq b5) hl0 hcv (by omega) (by omega)).of_eq hk
                  · exact hs.elim
                · exact hs.elim
              all_goals
                have hlc : a.eval c = a.eval l := by
                  unfold sameOpd at b3
                  split at b3
                  · have e := nat_beq b3
                    subst e; rfl
                  · have e := of_decide_eq_true b3
                    subst e; rfl
                  · cases b3
                have hpos : 1 ≤ sz := Nat.le_of_ble_eq_true b2
                simp only [stepD, gd_and] at hs
                have hlr := h.opd l
                split at hs
                · rename_i d m hlv
                  rw [hlv] at hlr
                  split at hs
                  · split at hs
                    · rename_i h0 hnew hby
                      simp only [Bool.and_eq_true] at hby
                      have h0' := of_decide_eq_true h0
                      have hv : a.eval l = .int .i64 (m.toNat : Int) := by rw [hlr.val_eq, Int.toNat_of_nonneg h0']
                      exact (step_mksl h hd d (st.base + d) e sz rfl t l c m.toNat i z rfl hu hi his hz (nat_beq b1) hpos hv (by rw [hlc]; exact hv) (Nat.le_of_ble_eq_true hby.1) (Nat.le_trans (Nat.le_of_ble_eq_true hby.2) (by decide)) hnew true _ (.inl ⟨rfl, rfl⟩)).of_eq hs
                    · exact hs.elim
                  · split at hs
                    · rename_i y hnew hy
                      cases b5 : Nat.beq y.sz sz with
                      | false => rw [b5] at hs; exact hs.elim
                      | true =>
                        rw [b5] at hs
                        obtain ⟨h0, h1, h2, hk⟩ := hs
                        have hv : a.eval l = .int .i64 (m.toNat : Int) := by rw [hlr.val_eq, Int.toNat_of_nonneg h0]
                        have e1 : ((m.toNat * i.bytes : Nat) : Int) = m * (i.bytes : Int) := by rw [Int.natCast_mul, Int.toNat_of_nonneg h0]
                        exact (step_mksl h hd d (st.base + d) e sz rfl t l c m.toNat i z rfl hu hi his hz (nat_beq b1) hpos hv (by rw [hlc]; exact hv) (by omega) (by omega) hnew false _ (.inr ⟨y, hy, rfl, nat_beq b5⟩)).of_eq hk
                    · exact hs.elim
                · exact hs.elim
      | _ => exact hs.elim
  | call cl =>
    obtain ⟨callee, args, argTypes⟩ := cl
    cases callee with
    | invoke r m => exact hs.elim
    | value f =>
      cases f with
      | func f =>
        simp only [cOp] at hs
        cases g1 : callable P f with
        | false =>
          rw [g1] at hs
          simp only at hs
          split at hs
          · rename_i sb x y c he hx
            have hx' : args = #[x, y, c] := by apply Array.ext'; simpa using hx
            subst hx'
            exact step_ext h hd he rfl hs
          · exact hs.elim
        | true =>
          rw [g1] at hs
          cases g3 : inl f with
          | false =>
            rw [g3] at hs
            simp only [stepD, gd_and] at hs
            cases g2 : locsOk st ban args.toList with
            | false => rw [g2] at hs; exact hs.elim
            | true =>
              rw [g2] at hs
              obtain ⟨r, hr, hk⟩ := hs
              rw [HoldsC.of (headT_snap _ _ _)] at hr
              exact (step_call h hd f args.toList argTypes (by simp) g1 r hr).of_eq hk
          | true =>
            rw [g3] at hs
            simp only at hs
            cases g4 : inl (4398046511104 + f) with
            | true =>
              rw [g4] at hs
              simp only [stepD, gd_and] at hs
              cases g5 : flatAll st args.toList with
              | false => rw [g5] at hs; exact hs.elim
              | true =>
                rw [g5] at hs
                obtain ⟨_, r, o', hI, hk⟩ := hs
                unfold ownR at hk
                split at hk
                · rename_i hfl
                  refine (step_enter h hd f (args.toList.map fun x => (st.opd x).view) (args.toList.map a.eval) ?_ (by simp) (args_rel h args.toList) r [] (HoldsI.frame (HoldsT.toI hI (views_own _ _)) hfl fun p hp _ _ _ _ _ hr _ _ => hr.flat (flatAll_spec g5 p hp))).of_eq ?_
                  · have e0 : args.map a.eval = (args.toList.map a.eval).toArray := by apply Array.ext'; simp
                    refine enter_run (P := P) g1 ?_
                    rw [← e0]
                    simp [execOp, resolve, Act.eval, Deferred.ofValue, invoke]
                  · rw [← hk]; cases dst <;> rfl
                · exact hk.elim
            | false =>
            rw [g4] at hs
            simp only at hs
            have hrun : (execOp a.eval ⟨dst, .call { callee := .value (.func f), args := args, argTypes := argTypes }, type, pos, after, guard⟩).run P w = .ok (.enter f (args.toList.map a.eval).toArray) w := by
              have e0 : args.map a.eval = (args.toList.map a.eval).toArray := by apply Array.ext'; simp
              refine enter_run (P := P) g1 ?_
              rw [← e0]
              simp [execOp, resolve, Act.eval, Deferred.ofValue, invoke]
            split at hs
            · rename_i s r0 _ hl
              simp only [stepD, gd_and] at hs
              split at hs
              · rename_i ho
                obtain ⟨_, r, o', hI, hk⟩ := hs
                refine (step_enterT h hd f (.tmp s :: r0) s ?_ ho r o' hI).of_eq hk
                rw [← hl]; exact hrun
              · exact hs.elim
            · simp only [stepD, gd_and] at hs
              obtain ⟨_, r, o', hI, hk⟩ := hs
              exact (step_enter h hd f (args.toList.map fun x => (st.opd x).view) (args.toList.map a.eval) hrun (by simp) (args_rel h args.toList) r o' (hI.toI (views_own _ _))).of_eq hk
      | tmp x =>
        simp only [cOp, stepD, gd_and] at hs
        have hxr := h.opd (.tmp x)
        split at hs
        · rename_i f n caps hx
          rw [hx] at hxr
          obtain ⟨cs, hv, hl, hr⟩ := clo_eq hxr
          obtain ⟨hc, r, o', hI, hk⟩ := hs
          have hfin : ∀ (i : Nat) (p : PV) (v : Value), (caps.take n ++ ((args.toList.map fun x => (st.opd x).view) ++ caps.drop n))[i]? = some p → (cs.take n ++ (args.toList.map a.eval ++ cs.drop n))[i]? = some v → Rel w M β w0.old p v := by
            intro i p v hp hv
            by_cases hi : i < (caps.take n).length
            · have hi' : i < (cs.take n).length := by rw [List.length_take] at hi ⊢; omega
              rw [List.getElem?_append_left hi] at hp
              rw [List.getElem?_append_left hi'] at hv
              rw [List.getElem?_take] at hp hv
              split at hp
              · rename_i hlt
                rw [if_pos hlt] at hv
                exact hr _ p v hp hv
              · cases hp
            · have e3 : (cs.take n).length = (caps.take n).length := by rw [List.length_take, List.length_take, hl]
              rw [List.getElem?_append_right (by omega)] at hp
              rw [List.getElem?_append_right (by omega), e3] at hv
              by_cases hi2 : i - (caps.take n).length < args.toList.length
              · rw [List.getElem?_append_left (by simpa using hi2)] at hp hv
                exact args_rel h args.toList _ p v hp hv
              · rw [List.getElem?_append_right (by simp at hi2 ⊢; omega)] at hp hv
                simp only [List.length_map] at hp hv
                rw [List.getElem?_drop] at hp hv
                exact hr _ p v hp hv
          refine (step_enter h hd f ((caps.take n ++ ((args.toList.map fun x => (st.opd x).view) ++ caps.drop n)).map PV.view) (cs.take n ++ (args.toList.map a.eval ++ cs.drop n)) ?_ (by simp [hl]) (fun i p v hp hv => ?_) r o' (hI.toI (views_own (fun x => x) _))).of_eq hk
          · refine enter_run (P := P) hc ?_
            have hv' : a.tmps.getD x undef = .func (.func f) (cs.take n).toArray (cs.drop n).toArray := hv
            have e0 : (cs.take n).toArray ++ args.map a.eval ++ (cs.drop n).toArray = (cs.take n ++ (args.toList.map a.eval ++ cs.drop n)).toArray := by apply Array.ext'; simp
            rw [← e0]
            simp [execOp, resolve, Act.eval, Deferred.ofValue, invoke, hv']
          · rw [List.getElem?_map] at hp
            obtain ⟨q, hq, rfl⟩ := Option.map_eq_some_iff.1 hp
            exact (hfin i q v hq hv).view
        · exact hs.elim
      | _ => exact hs.elim
    | builtin b =>
      cases b with
      | delete =>
        simp only [cOp] at hs
        split at hs
        · rename_i m q t ts' hx ht
          trace_state
          have hx' : args = #[m, q] := by apply Array.ext'; simpa using hx
          subst hx'
          cases hu : P.underlying t with
          | none => rw [hu] at hs; exact hs.elim
          | some d =>
            rw [hu] at hs
            cases d with
            | map ek ev =>
              simp only at hs
              cases hkp : keyPlan P ek with
              | none => rw [hkp] at hs; exact hs.elim
              | some x =>
                obtain ⟨gq, ts⟩ := x
                rw [hkp] at hs
                simp only [stepD] at hs
                cases hm : st.opd m with
                | mp b =>
                  rw [hm] at hs
                  simp only at hs
                  split at hs
                  · rename_i gk gv ks vs ck hob hq
                    split at hs
                    · rename_i r hgk hf
                      have hat : argTypes[0]? = some t := by rw [← Array.getElem?_toList, ht]; rfl
                      exact step_del h rfl rfl hat hu hkp hm hq hob hgk hf hs
                    · exact hs.elim
                  · exact hs.elim
                | _ => rw [hm] at hs; exact hs.elim
            | _ => exact hs.elim
        · exact hs.elim
      | len =>
        simp only [cOp] at hs
        split at hs
        · rename_i x t hx ht
          have hx' : args = #[x] := by apply Array.ext'; simpa using hx
          have ht' : argTypes = #[t] := by apply Array.ext'; simpa using ht
          subst hx'; subst ht'
          cases g1 : isSlT P t with
          | false =>
            rw [g1] at hs
            exact scal_sound h hd (fun cs b e => by cases e) hs
          | true =>
            rw [g1] at hs
            unfold isSlT at g1
            cases hu : P.underlying t with
            | none => rw [hu] at g1; cases g1
            | some d =>
              rw [hu] at g1
              cases d with
              | slice e =>
                have helem : P.elem t = e := by simp [Program.elem, hu]
                have hrun : ∀ (A : Option Addr) (n c : Nat), a.eval x = .slice A n c → ∀ w, (execOp a.eval ⟨dst, .call ⟨.builtin .len, #[x], #[t]⟩, type, pos, after, guard⟩).run P w = .ok (.value (.int .i64 n)) w := by
                  intro A n c hv w
                  have := run_len_slice (P := P) w t type A n c (by rw [helem]; exact hu)
                  simp only [execOp, resolve, invoke, builtin, Sem.run_bind, Sem.run_pure, Result.andThen_ok, List.map_toArray, List.map_cons, List.map_nil, hv]
                  rw [this]
                  rfl
                simp only [stepD, gd_and] at hs
                have hxr := h.opd x
                split at hs
                · rename_i c b e' sz' m hq
                  rw [hq] at hxr
                  obtain ⟨bb, cp, hb, hc, hv⟩ := vw_eq hxr
                  exact (good_put h hd _ _ w (Below.refl _ _) (hrun _ _ _ hv w) (.val _ rfl) (no_own rfl)).of_eq hs
                · rename_i A n c hq
                  rw [hq] at hxr
                  exact (good_put h hd _ _ w (Below.refl _ _) (hrun _ _ _ hxr.val_eq w) (.val _ rfl) (no_own rfl)).of_eq hs
                · cases hsv : (st.opd x).sv with
                  | none => rw [hsv] at hs; exact hs.elim
                  | some s =>
                    rw [hsv] at hs
                    obtain ⟨A, c, hv, _, _⟩ := row_eq hsv hxr
                    exact (good_put h hd _ _ w (Below.refl _ _) (hrun _ _ _ hv w) (.val _ rfl) (no_own rfl)).of_eq hs
              | _ => cases g1
        · exact hs.elim
      | cap =>
        simp only [cOp] at hs
        split at hs
        · rename_i x t hx ht
          have hx' : args = #[x] := by apply Array.ext'; simpa using hx
          have ht' : argTypes = #[t] := by apply Array.ext'; simpa using ht
          subst hx'; subst ht'
          cases g1 : isSlT P t with
          | false => rw [g1] at hs; exact hs.elim
          | true =>
            rw [g1] at hs
            unfold isSlT at g1
            cases hu : P.underlying t with
            | none => rw [hu] at g1; cases g1
            | some d =>
              rw [hu] at g1
              cases d with
              | slice e =>
                have helem : P.elem t = e := by simp [Program.elem, hu]
                simp only [stepD, gd_and] at hs
                have hxr := h.opd x
                split at hs
                · rename_i A n c hq
                  rw [hq] at hxr
                  refine (good_put h hd (.val (.int .i64 c)) (.int .i64 c) w (Below.refl _ _) ?_ (.val _ rfl) (no_own rfl)).of_eq hs
                  have := run_cap_slice (P := P) w t type A n c (by rw [helem]; exact hu)
                  simp only [execOp, resolve, invoke, builtin, Sem.run_bind, Sem.run_pure, Result.andThen_ok, List.map_toArray, List.map_cons, List.map_nil, hxr.val_eq]
                  rw [this]
                  rfl
                · exact hs.elim
              | _ => cases g1
        · exact hs.elim
      | append =>
        simp only [cOp] at hs
        split at hs
        · rename_i s x t t' hx ht
          have hx' : args = #[.tmp s, x] := by apply Array.ext'; simpa using hx
          have ht' : argTypes = #[t, t'] := by apply Array.ext'; simpa using ht
          subst hx'; subst ht'
          cases g1 : Nat.beq t t' with
          | false => rw [g1] at hs; exact hs.elim
          | true =>
            have := nat_beq g1
            subst this
            rw [g1] at hs
            cases hu : P.underlying t with
            | none => rw [hu] at hs; exact hs.elim
            | some d =>
              rw [hu] at hs
              cases d with
              | slice e =>
                simp only at hs
                cases hi : P.info? e with
                | none => rw [hi] at hs; exact hs.elim
                | some i =>
                  rw [hi] at hs
                  simp only at hs
                  cases hz : i.zero with
                  | none => rw [hz] at hs; exact hs.elim
                  | some z =>
                    rw [hz] at hs
                    simp only at hs
                    cases b1 : Nat.beq z.cells.size i.size <;> cases b2 : Nat.ble 1 i.size <;> simp only [b1, b2] at hs <;> try exact hs.elim
                    have e1 := nat_beq b1
                    have e2 : 1 ≤ i.size := Nat.le_of_ble_eq_true b2
                    cases b3 : cloneB once dst && !(inl (2199023255552 + e)) with
                    | true =>
                      rw [b3] at hs
                      simp only [stepD, gd_and] at hs
                      cases dst with
                      | none => exact hs.elim
                      | some d =>
                        split at hs
                        · rename_i d' n hd' hn
                          injection hd' with hd'
                          subst hd'
                          split at hs
                          · rename_i hnew hbare
                            simp only [Bool.and_eq_true] at hbare
                            obtain ⟨⟨g2, g3⟩, g4⟩ := hbare
                            split at hs
                            · rename_i own q hgx
                              split at hs
                              · rename_i c1 c2
                                cases hb0 : Nat.beq q.len 0 with
                                | true =>
                                  rw [hb0] at hs
                                  exact (step_clone0 h hd d s rfl x t e i z rfl hu hi hz e1 e2 g2 hgx (nat_beq c2) (nat_beq hb0) hn (nat_beq g4)).of_eq hs
                                | false =>
                                  rw [hb0] at hs
                                  obtain ⟨hb, hm, hk⟩ := hs
                                  exact (step_clone h hd d s (st.base + d) rfl x t e i z rfl hu hi hz e1 e2 g2 hgx (nat_beq c2) hb hm (by
                                    rcases Nat.eq_zero_or_pos q.len with h0 | h0
                                    · rw [h0] at hb0; cases hb0
                                    · exact h0) _ hnew).of_eq hk
                              · exact hs.elim
                            · exact hs.elim
                          · exact hs.elim
                        · exact hs.elim
                    | false =>
                    rw [b3] at hs
                    simp only [stepD, gd_and] at hs
                    cases dst with
                    | none => exact hs.elim
                    | some d =>
                      simp only at hs
                      split at hs
                      · rename_i y own q hgs hgx
                        split at hs
                        · rename_i r c1 c2 hcat
                          obtain ⟨hb, hm, hk⟩ := hs
                          exact (step_app h hd d s rfl x t e i.size i z rfl hu hi hz e1 rfl e2 hgs hgx hcat (nat_beq c1) (nat_beq c2) hb hm).of_eq hk
                        · exact hs.elim
                      · rename_i y hgs hgx
                        split at hs
                        · exact (step_app_none h hd d s rfl x t e i rfl hu hi hgs hgx).of_eq hs
                        · exact hs.elim
                      · rename_i own q hgs hgx
                        split at hs
                        · rename_i c1 c2
                          obtain ⟨hb, hm, hk⟩ := hs
                          exact (step_app_nil h hd d s rfl x t e i.size i z rfl hu hi hz e1 rfl e2 hgs hgx (nat_beq c1) (nat_beq c2) hb hm).of_eq hk
                        · exact hs.elim
                      · exact hs.elim
              | _ => exact hs.elim
        · exact hs.elim
      | min => exact scal_sound h hd (fun cs b e => by cases e) hs
      | max => exact scal_sound h hd (fun cs b e => by cases e) hs
      | _ => exact hs.elim
  | _ => exact hs.elim
end
end Go.Proofs.YtpdlcbmnmeihoaaGreatDoor.Ev
