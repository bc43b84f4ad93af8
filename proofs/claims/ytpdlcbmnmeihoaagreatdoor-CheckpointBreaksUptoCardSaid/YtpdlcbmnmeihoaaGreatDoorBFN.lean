/-  Code, evaluated; functions; calls that are carried out in place. -/
import Derived.Test.YtpdlcbmnmeihoaaGreatDoorBFV
import Derived.DataReads
import Derived.ProofKit
import Derived.OpenShut
import Derived.Carry
set_option linter.unusedVariables false
set_option linter.unusedSimpArgs false
set_option linter.unnecessarySimpa false
namespace Go.Proofs.YtpdlcbmnmeihoaaGreatDoor.Ev
open Go Go.RowKit
section
variable {ι : Type} {cx : ι → PV × Value} {P : Program} {C : Oracle} {X : Inl} {inl : Nat → Bool} {w0 : Base} {w : World} {N M : Mut} {β : Loc} {nt : Nat} {st : St} {a : Act}
theorem vwL_ok {S : Nat → Prop} : ∀ (V : List Nat) {st : St}, SR cx w0 N nt st a w M β → Has S st → SR cx w0 N nt (st.vwL V) a w M β ∧ Has S (st.vwL V)
  | [], _, h, hs => ⟨h, hs⟩
  | t :: r, _, h, hs => vwL_ok r (h.drop t) (has_app hs _)
theorem vwR_ok {S : Nat → Prop} (once : Nat) (V : List Nat) {st : St} (h : SR cx w0 N nt st a w M β) (hs : Has S st) : SR cx w0 N nt (vwR once V st) a w M β ∧ Has S (vwR once V st) := by
  unfold vwR
  split
  · exact vwL_ok V h hs
  · exact ⟨h, hs⟩
theorem regR_ev {L once : Nat} {V : List Nat} {l : List EOp} {st : St} {k : Ex → St → Prop} (h : evC P C X L (regR once V l) st k) : evSeq P C X l.length l st (fun st' => k .normal (vwR once V st')) := by
  unfold regR at h
  unfold vwR
  cases hb : Nat.testBit once 40007 with
  | true => rw [hb] at h; exact h
  | false => rw [hb] at h; exact h
theorem evC_sound0 (hC : SoundC P C) (hX : SoundX P X) (hm : P.follows .mixedOrders = true) (once : Nat) (L : Nat) : ∀ (sz : Nat) (c : Code), SizeOf.sizeOf c < sz → ∀ {ι : Type} (cx : ι → PV × Value) (w0 : Base) (N : Mut) (S : Nat → Prop) (hcx : ∀ i, LocsIn S (cx i).1) (V : List Nat) (out lt : Nat) (ec : EC), cCode P inl once nt V out lt c = ec →
    ∀ (st : St) (a : Act) (w : World) (M : Mut) (β : Loc) (k : Ex → St → Prop), Has S st → SR cx w0 N nt st a w M β → evC P C X L ec st k →
    ∀ (Q : Exit → Act → World → Prop), (∀ e st' a' w' M' β', k e st' → Has S st' → SR cx w0 N nt st' a' w' M' β' → Q (exOf e) a' w') → c.wp P Q a w := by
  intro sz
  induction sz with
  | zero => intro c h; exact absurd h (Nat.not_lt_zero _)
  | succ sz IH =>
  intro c hsz ι cx w0 N S hcx
  cases c with
  | skip =>
    intro V out lt ec hc st a w M β k hs h hk Q hQ
    subst hc
    exact wp_skip (hQ .normal st a w M β hk hs h)
  | region id os d =>
    intro V out lt ec hc st a w M β k hs h hk Q hQ
    simp only [cCode] at hc
    cases hco : cOps P inl once os os.toList with
    | none => rw [hco] at hc; subst hc; exact hk.elim
    | some l =>
      rw [hco] at hc
      simp only at hc
      cases hds : dstsOK nt l with
      | false => rw [hds] at hc; subst hc; exact hk.elim
      | true =>
        rw [hds] at hc
        have hsel : ∀ eo ∈ l, ∀ o', eo.k = .scal o' → ∀ cs b, o'.op ≠ .select cs b := by
          intro eo hm o' hk'
          obtain ⟨i, hi, rfl⟩ := List.getElem_of_mem hm
          obtain ⟨e1, e2⟩ := cOps_spec _ _ hco
          obtain ⟨eo', q1, q2, _⟩ := e2 i (os.toList[i]'(by omega)) (List.getElem?_eq_getElem (by omega))
          rw [List.getElem?_eq_getElem hi] at q1
          injection q1 with q1
          rw [q1] at hk'
          exact cOp_sel q2 o' hk'
        cases d with
        | false =>
          obtain ⟨st0, M0, β0, hs0, h0, hk⟩ : ∃ st0 M0 β0, Has S st0 ∧ SR cx w0 N nt st0 a w M0 β0 ∧ evSeq P C X l.length l st0 (fun st' => k .normal (vwR once V st')) := by
            cases hfb : Nat.testBit once 40003 with
            | true =>
              rw [hfb] at hc
              subst hc
              obtain ⟨M0, β0, h0, hs0⟩ := SR.frzL hcx (frzGo l.reverse (frzV once V)) h hs
              exact ⟨_, M0, β0, hs0, h0, regR_ev (st := st.frzL _) hk⟩
            | false =>
              rw [hfb] at hc
              subst hc
              exact ⟨st, M, β, hs, h, regR_ev hk⟩
          obtain ⟨st1, st', h1, h2, h3⟩ := evSeq_run hC hX _ l st0 st0 _ hsel (.refl _) hk
          have hs' : Has S st' := has_eq (has_runS h1 hs0) h2.symm
          refine wp_region ?_
          obtain ⟨hlen, hsp⟩ := cOps_spec _ _ hco
          have := runS_sound (Q := Q) (os := os) (inl := inl) (once := once) (nt := nt) h1 0 os.size (by omega) (by rw [hlen]; simp) (fun j eo hj => by
            have hjl : j < os.size := by have := (List.getElem?_eq_some_iff.1 hj).1; rw [hlen] at this; simpa using this
            have ho : os[j]? = some os[j] := Array.getElem?_eq_getElem hjl
            obtain ⟨eo', g1, g2, g3, g4⟩ := hsp j os[j] (by simp [ho])
            rw [hj] at g1; injection g1 with g1; subst g1
            exact ⟨os[j], by rw [Nat.zero_add]; exact ho, g2, g3, g4, fun x hx => dstsOK_spec l hds eo (List.mem_of_getElem? hj) x (by rw [g3]; exact hx)⟩) a w M0 β0 h0 (fun a' w' M' β' h' => by
              rw [hlen]
              simp only [Array.length_toList, Nat.sub_self]
              exact hQ .normal _ a' w' M' β' h3 (vwR_ok once V (h'.equiv h2.symm) hs').2 (vwR_ok once V (h'.equiv h2.symm) hs').1)
          rw [List.range_eq_range']
          exact this
        | true =>
          simp only at hc
          have key : (∃ ap, drawOK ap os.toList l = true ∧ ec = .region (madeBy l) ap l) ∨ ec = .stop := by
            cases hdr : drawOK [] os.toList l with
            | true =>
              rw [hdr] at hc
              exact .inl ⟨[], hdr, hc.symm⟩
            | false =>
              rw [hdr] at hc
              simp only at hc
              cases hdr2 : drawOK (wantAp l l) os.toList l with
              | false => rw [hdr2] at hc; exact .inr hc.symm
              | true =>
                rw [hdr2] at hc
                exact .inl ⟨_, hdr2, hc.symm⟩
          rcases key with ⟨ap, hdr, rfl⟩ | rfl
          rotate_left
          · exact hk.elim
          simp only [evC] at hk
          cases hap : apartOK st ap with
          | false => rw [hap] at hk; exact hk.elim
          | true =>
            rw [hap] at hk
            simp only at hk
            obtain ⟨δs, st1, st', h1, h2, h3⟩ := evOps_run hC hX l st st _ hsel (.refl _) hk
            have hs' : Has S st' := has_eq (by rw [h1.last]; exact has_stM _ _ _ hs) h2.symm
            refine wp_region_any hm ?_
            have hrep : ∀ i, (Array.replicate os.size false).getD i false = false := fun i => by
              rw [Array.getD_eq_getD_getElem?, Array.getElem?_replicate]; split <;> rfl
            refine draw_sound (Q := Q) hap h1 hco hds hdr (fun a' w' M' β' h' => hQ .normal st' a' w' M' β' h3 hs' (h'.equiv h2.symm)) os.size _ (by simp) ?_ ?_ a _ M β ?_
            · rw [List.filter_eq_self.2 (fun i _ => by rw [hrep]; rfl)]; simp
            · intro j o ho hj; rw [hrep] at hj; cases hj
            · rw [show stM δs (maskL (Array.replicate os.size false)) st = st from stM_none _ _ _ (fun i _ => hrep i)]; exact h.drawn
  | seq x y =>
    have ihx := @IH x (by have := hsz; simp only [Code.seq.sizeOf_spec] at this; omega) ι cx w0 N S hcx
    have ihy := @IH y (by have := hsz; simp only [Code.seq.sizeOf_spec] at this; omega) ι cx w0 N S hcx
    intro V out lt ec hc st a w M β k hs h hk Q hQ
    subst hc
    cases hrp : rngP x y with
    | none =>
      rw [cC_seq hrp] at hk
      dsimp only [evC] at hk
      refine wp_seq (ihx _ _ _ _ rfl st a w M β _ hs h hk _ ?_)
      intro e st' a' w' M' β' hk' hs' h'
      cases e with
      | normal =>
        cases hb : simpleC y with
        | true =>
          rw [hb] at hk'
          exact ihy _ _ _ _ rfl st' a' w' M' β' k hs' h' hk' Q hQ
        | false =>
          rw [hb] at hk'
          exact ihy _ _ _ _ rfl _ a' w' M' _ k (has_eq (live_has hs' _) (keepF_eq _ _ _).symm) ((h'.keep hcx _ (liveK st') (live_live hs')).equiv (keepF_eq _ _ _).symm) hk' Q hQ
      | exit i => exact hQ (.exit i) st' a' w' M' β' hk' hs' h'
      | ret => exact hQ .ret st' a' w' M' β' hk' hs' h'
    | some p =>
      rw [cC_seqR hrp] at hk
      unfold rngP at hrp
      split at hrp
      · rename_i id1 os1 o id2 os2 mo o' n id3 os3 code
        split at hrp
        · rename_i hoo
          have hoo := nat_beq hoo
          subst hoo
          obtain ⟨i1, i2, i3, i4, _, _, _, _, ⟨t3, p3, a3, j3⟩⟩ := rngHd_inv hrp
          unfold rngC at hk
          split at hk
          · rename_i keys v hpj
            split at hk
            · rename_i l1 l3 hc1 hc3
              split at hk
              · rename_i hchk
                simp only [Bool.and_eq_true, Bool.not_eq_true'] at hchk
                obtain ⟨⟨⟨⟨⟨⟨⟨c1, c2⟩, c3⟩, c4⟩, c5⟩, c6⟩, c7⟩, c8⟩ := hchk
                have hlt : ∀ {a b : Nat}, Nat.blt a b = true → a < b := fun {a b} h => Nat.le_of_ble_eq_true h
                rw [i1] at hc1
                rw [i2] at hc3
                obtain ⟨V', out', lt', hv⟩ := proj_inv hpj
                have hcode : CodeOK P C X L nt code v := by
                  intro ι' cx' w0' N' S' hcx' st a w M β k hs h hk Q hQ
                  have ihc := @IH code (by have := hsz; simp only [Code.seq.sizeOf_spec, Code.block.sizeOf_spec, Code.loop.sizeOf_spec] at this; omega) ι' cx' w0' N' S' hcx'
                  rcases hv with ⟨_, rfl⟩ | ⟨ks, rfl⟩
                  · exact ihc V' out' lt' _ rfl st a w M β k hs h hk Q hQ
                  · dsimp only [evC, kSeq] at hk
                    exact ihc V' out' lt' _ rfl _ a w M _ k (has_eq (live_has hs _) (keepF_eq _ _ _).symm) ((h.keep hcx' _ (liveK st) (live_live hs)).equiv (keepF_eq _ _ _).symm) hk Q hQ
                exact rng_sound hC hX hcx hrp hc1 c1 (body_ok hC hX j3 hc3 c2 hcode) c8 (hlt c3) (hlt c4) (hlt c5) (hlt c6) c7 hs h hk hQ
              · exact hk.elim
            · exact hk.elim
          · exact hk.elim
        · cases hrp
      · cases hrp
  | cond c x y =>
    have ihx := @IH x (by have := hsz; simp only [Code.cond.sizeOf_spec] at this; omega) ι cx w0 N S hcx
    have ihy := @IH y (by have := hsz; simp only [Code.cond.sizeOf_spec] at this; omega) ι cx w0 N S hcx
    intro V out lt ec hc st a w M β k hs h hk Q hQ
    subst hc
    simp only [cCode, evC] at hk
    have hr := h.opd c
    split at hk
    · rename_i t hq
      rw [hq] at hr
      have hv : a.eval c = .bool t := hr.val_eq
      cases t with
      | true => exact wp_cond_true hv (ihx _ _ _ _ rfl st a w M β k hs h hk Q hQ)
      | false => exact wp_cond_false hv (ihy _ _ _ _ rfl st a w M β k hs h hk Q hQ)
    · exact hk.elim
  | block id b =>
    have ih := @IH b (by have := hsz; simp only [Code.block.sizeOf_spec] at this; omega) ι cx w0 N S hcx
    intro V out lt ec hc st a w M β k hs h hk Q hQ
    subst hc
    refine wp_block (ih _ _ _ _ rfl st a w M β _ hs h hk _ ?_)
    intro e st' a' w' M' β' hk' hs' h'
    cases e with
    | normal => exact hQ .normal st' a' w' M' β' hk' hs' h'
    | ret => exact hQ .ret st' a' w' M' β' hk' hs' h'
    | exit i =>
      simp only [exOf, Exit.inBlock]
      by_cases e : i = id
      · subst e
        rw [if_pos rfl]
        simp only [kBlock, Nat.beq_refl] at hk'
        exact hQ .normal st' a' w' M' β' hk' hs' h'
      · rw [if_neg e]
        have hb : Nat.beq i id = false := by
          cases hb : Nat.beq i id with
          | false => rfl
          | true => exact absurd (nat_beq hb) e
        simp only [kBlock, hb] at hk'
        exact hQ (.exit i) st' a' w' M' β' hk' hs' h'
  | loop b =>
    have ih := @IH b (by have := hsz; simp only [Code.loop.sizeOf_spec] at this; omega) ι cx w0 N S hcx
    intro V out lt ec hc st a w M β k hs h hk Q hQ
    have key0 : ∃ (ec0 : EC) (st0 : St), (match Nat.testBit once 40004 with
        | true => .loopU (headKeys nt V out (maskC b)) (cCode P inl once nt (V ++ headKeys nt V out (maskC b)) out (lt ||| maskC b) b)
        | false => .loop (headKeys nt V out (maskC b)) (cCode P inl once nt (V ++ headKeys nt V out (maskC b)) out (lt ||| maskC b) b)) = ec0 ∧ Has S st0 ∧ SR cx w0 N nt st0 a w M β ∧ evC P C X L ec0 st0 k := by
      subst hc
      have hk : evC P C X L (loopR once V (match Nat.testBit once 40004 with
        | true => .loopU (headKeys nt V out (maskC b)) (cCode P inl once nt (V ++ headKeys nt V out (maskC b)) out (lt ||| maskC b) b)
        | false => .loop (headKeys nt V out (maskC b)) (cCode P inl once nt (V ++ headKeys nt V out (maskC b)) out (lt ||| maskC b) b))) st k := hk
      unfold loopR at hk
      split at hk
      · obtain ⟨q1, q2⟩ := vwL_ok V h hs
        exact ⟨_, _, rfl, q2, q1, hk⟩
      · exact ⟨_, _, rfl, hs, h, hk⟩
    clear hk hs h hc
    obtain ⟨ec, st, hc, hs, h, hk⟩ := key0
    refine wp_loop_rounds L ?_
    cases hfl : Nat.testBit once 40004 with
    | true =>
      rw [hfl] at hc
      subst hc
      simp only [evC] at hk
      generalize hkeys : headKeys nt V out (maskC b) = keys at hk
      have key : ∀ (n : Nat) (st : St) (a : Act) (w : World) (M : Mut) (β : Loc), Has S st → SR cx w0 N nt st a w M β → loopNU (evC P C X L (cCode P inl once nt (V ++ keys) out (lt ||| maskC b) b)) keys n st k → Code.rounds P b Q n a w := by
        intro n
        induction n with
        | zero => intro st a w M β _ _ hk; exact hk.elim
        | succ n ihn =>
          intro st a w M β hs h hk
          rw [rounds_succ]
          refine ih _ _ _ _ rfl st a w M β _ hs h hk _ ?_
          intro e st' a' w' M' β' hk' hs' h'
          cases e with
          | normal =>
            have hlive : ∀ d, S d → notIn d (liveK st') = false := fun d hd => by
              have := (hs' d hd).1
              cases hn : notIn d (liveK st') with
              | false => rfl
              | true =>
                have h1 := (notIn_iff _ _).1 hn
                have h2 : notIn d (st'.ob.map Prod.fst) = true := (notIn_iff _ _).2 (fun hm => h1 ((sortK_mem _ _).2 hm))
                rw [h2] at this; cases this
            have hskeep : Has S (keep keys (liveK st') st') := fun d hd => by
              have e : (keep keys (liveK st') st').ob.map Prod.fst = liveK st' := by
                show ((liveK st').map fun d => (d, _)).map Prod.fst = liveK st'
                rw [List.map_map]
                exact List.map_id' (liveK st')
              rw [e]; exact ⟨hlive d hd, (hs' d hd).2⟩
            exact ihn _ a' w' M' _ (has_eq hskeep (keepF_eq _ _ _).symm) ((h'.keep hcx _ (liveK st') hlive).equiv (keepF_eq _ _ _).symm) hk'
          | exit i => exact hQ (.exit i) st' a' w' M' β' hk' hs' h'
          | ret => exact hQ .ret st' a' w' M' β' hk' hs' h'
      exact key L st a w M β hs h hk
    | false =>
    rw [hfl] at hc
    subst hc
    simp only [evC] at hk
    generalize hkeys : headKeys nt V out (maskC b) = keys at hk
    have hlive := gc_live hs keys
    generalize gcK keys st = live at hk hlive
    have hskeep : ∀ keys (s : St), Has S s → Has S (keep keys live s) := fun keys s hs d hd => by
      have e : (keep keys live s).ob.map Prod.fst = live := by
        show (live.map fun d => (d, _)).map Prod.fst = live
        rw [List.map_map]
        exact List.map_id' live
      rw [e]; exact ⟨hlive d hd, (hs d hd).2⟩
    have key : ∀ (n : Nat) (st : St) (a : Act) (w : World) (M : Mut) (β : Loc), Has S st → SR cx w0 N nt st a w M β → loopN (evC P C X L (cCode P inl once nt (V ++ keys) out (lt ||| maskC b) b)) keys live n st k → Code.rounds P b Q n a w := by
      intro n
      induction n with
      | zero => intro st a w M β _ _ hk; exact hk.elim
      | succ n ihn =>
        intro st a w M β hs h hk
        rw [rounds_succ]
        refine ih _ _ _ _ rfl st a w M β _ hs h hk _ ?_
        intro e st' a' w' M' β' hk' hs' h'
        cases e with
        | normal => exact ihn _ a' w' M' _ (hskeep _ _ hs') (h'.keep hcx _ live hlive) hk'
        | exit i => exact hQ (.exit i) _ a' w' M' _ hk' (hskeep _ _ hs') (h'.keep hcx _ live hlive)
        | ret => exact hQ .ret _ a' w' M' _ hk' (hskeep _ _ hs') (h'.keep hcx _ live hlive)
    exact key L _ a w M _ (hskeep _ _ hs) (h.keep hcx _ live hlive) hk
  | exit id =>
    intro V out lt ec hc st a w M β k hs h hk Q hQ
    subst hc
    exact wp_exit (hQ (.exit id) st a w M β hk hs h)
  | ret =>
    intro V out lt ec hc st a w M β k hs h hk Q hQ
    subst hc
    exact wp_ret (hQ .ret st a w M β hk hs h)
  | rangeFunc => intro V out lt ec hc st a w M β k hs h hk; subst hc; exact hk.elim
  | scope => intro V out lt ec hc st a w M β k hs h hk; subst hc; exact hk.elim
  | label => intro V out lt ec hc st a w M β k hs h hk; subst hc; exact hk.elim
  | goto => intro V out lt ec hc st a w M β k hs h hk; subst hc; exact hk.elim
  | refuse => intro V out lt ec hc st a w M β k hs h hk; subst hc; exact hk.elim
theorem evC_sound (hC : SoundC P C) (hX : SoundX P X) (hm : P.follows .mixedOrders = true) {S : Nat → Prop} (hcx : ∀ i, LocsIn S (cx i).1) (once : Nat) (L : Nat) : ∀ (c : Code) (V : List Nat) (out lt : Nat) (ec : EC), cCode P inl once nt V out lt c = ec →
    ∀ (st : St) (a : Act) (w : World) (M : Mut) (β : Loc) (k : Ex → St → Prop), Has S st → SR cx w0 N nt st a w M β → evC P C X L ec st k →
    ∀ (Q : Exit → Act → World → Prop), (∀ e st' a' w' M' β', k e st' → Has S st' → SR cx w0 N nt st' a' w' M' β' → Q (exOf e) a' w') → c.wp P Q a w :=
  fun c => evC_sound0 hC hX hm once L _ c (Nat.lt_succ_self _) cx w0 N S hcx
/-! ### results -/
def resOne (a : Act) : ResultVar → Sem Value
  | .tmp t => pure (a.tmps.getD t undef)
  | .cell b t => do loadVar t (← asAddr (a.tmps.getD b undef))
theorem evRes_pick : ∀ (rs : List ResultVar) (k : List PV → Prop), evRes P st rs k → ∃ l, k l ∧ ∀ k' : List PV → Prop, k' l → evRes P st rs k' := by
  intro rs
  induction rs with
  | nil => intro k h; exact ⟨[], h, fun k' h' => h'⟩
  | cons x rs ih =>
    intro k h
    cases x with
    | tmp t =>
      simp only [evRes] at h ⊢
      obtain ⟨l, h1, h2⟩ := ih _ h
      exact ⟨_, h1, fun k' hk => h2 (fun l => k' (st.get t :: l)) hk⟩
    | cell b t =>
      simp only [evRes] at h ⊢
      split at h
      · split at h
        · obtain ⟨l, h1, h2⟩ := ih _ h
          exact ⟨_, h1, fun k' hk => h2 (fun l => k' (_ :: l)) hk⟩
        · obtain ⟨l, h1, h2⟩ := ih _ h
          exact ⟨_, h1, fun k' hk => h2 (fun l => k' (_ :: l)) hk⟩
        · exact h.elim
      · exact h.elim
theorem evRes_sound (h : SR cx w0 N nt st a w M β) : ∀ (rs : List ResultVar) (k : List PV → Prop), evRes P st rs k → ∃ (ps : List PV) (vs : List Value), k ps ∧ vs.length = ps.length ∧ ps.length = rs.length ∧
    (∀ (i : Nat) (p : PV) (v : Value), ps[i]? = some p → vs[i]? = some v → Rel w M β w0.old p v ∧ ((∃ t, p = st.get t ∧ v = a.tmps.getD t undef) ∨ ∀ s, p.sv = some s → s.own = false)) ∧
    (rs.mapM (resOne a)).run P w = .ok vs w := by
  intro rs
  induction rs with
  | nil => intro k hk; exact ⟨[], [], hk, rfl, rfl, fun i p v hp => by simp at hp, rfl⟩
  | cons x rs ih =>
    intro k hk
    cases x with
    | tmp t =>
      obtain ⟨ps, vs, h1, h2, h3, h4, h5⟩ := ih _ hk
      refine ⟨_, a.tmps.getD t undef :: vs, h1, by simp [h2], by simp [h3], fun i p v hp hv => ?_, ?_⟩
      · cases i with
        | zero =>
          rw [List.getElem?_cons_zero] at hp hv
          injection hp with hp; injection hv with hv
          subst hp; subst hv; exact ⟨h.reg t, .inl ⟨t, rfl, rfl⟩⟩
        | succ i => exact h4 i p v (by simpa using hp) (by simpa using hv)
      · simp only [List.mapM_cons, resOne, Sem.run_bind, Sem.run_pure, Result.andThen_ok, h5]
    | cell b t =>
      simp only [evRes] at hk
      cases hq : st.get b with
      | loc d off =>
        cases hs : szT P t with
        | none => rw [hq, hs] at hk; exact hk.elim
        | some sz =>
          cases hu : P.underlying t with
          | none => rw [hq, hs, hu] at hk; exact hk.elim
          | some td =>
            rw [hq, hs, hu] at hk
            simp only at hk
            have hreg := h.reg b
            rw [hq] at hreg
            obtain ⟨bb, n, hb, hv⟩ := loc_eq hreg
            have fin : ∀ (pv : PV), (isAggT P t = false → sz = 1) → (lenGe ((st.obj d).drop off) sz && plain (((st.obj d).drop off).take sz)) = true → pv = mkP (isAggT P t) (((st.obj d).drop off).take sz) →
                evRes P st rs (fun l => k (pv :: l)) → ∃ (ps : List PV) (vs : List Value), k ps ∧ vs.length = ps.length ∧ ps.length = (ResultVar.cell b t :: rs).length ∧
                (∀ (i : Nat) (p : PV) (v : Value), ps[i]? = some p → vs[i]? = some v → Rel w M β w0.old p v ∧ ((∃ t, p = st.get t ∧ v = a.tmps.getD t undef) ∨ ∀ s, p.sv = some s → s.own = false)) ∧
                ((ResultVar.cell b t :: rs).mapM (resOne a)).run P w = .ok vs w := by
              intro pv hsz hl hpv hk
              simp only [Bool.and_eq_true] at hl
              obtain ⟨v, hrun, hr⟩ := load_ok (B := w0.old) (l := ((st.obj d).drop off).take sz) hu hs hsz (by rw [List.length_take]; have := (lenGe_iff _ _).1 hl.1; omega) (h.cellsAt hb (fun i p hp => drop_take_get hp) hl.2)
              obtain ⟨ps, vs, h1, h2, h3, h4, h5⟩ := ih _ hk
              refine ⟨_, v :: vs, h1, by simp [h2], by simp [h3], fun i p u hp hu => ?_, ?_⟩
              · cases i with
                | zero => simp at hp hu; subst hp; subst hu; rw [hpv]; exact ⟨hr, .inr (mkP_no_own _ _)⟩
                | succ i => exact h4 i p u (by simpa using hp) (by simpa using hu)
              · simp only [List.mapM_cons, resOne, Sem.run_bind, Sem.run_pure, Result.andThen_ok, hv, asAddr, hrun, h5]
            cases g1 : isAggT P t <;> cases g2 : Nat.beq sz 1 <;> cases g3 : (lenGe ((st.obj d).drop off) sz && plain (((st.obj d).drop off).take sz)) <;> simp only [g1, g2, g3] at hk fin
            · exact fin _ (fun _ => nat_beq g2) trivial rfl hk
            · exact fin _ (fun e => by cases e) trivial rfl hk
            · exact fin _ (fun e => by cases e) trivial rfl hk
      | _ => rw [hq] at hk; exact hk.elim
theorem results_run {fn : Func} {us : List Value} (h5 : (fn.results.toList.mapM (resOne a)).run P w = .ok us w) : (results fn a.tmps).run P w = .ok (if h : us.length = 1 then us[0] else .tuple us.toArray) w := by
  have e : results fn a.tmps = (do let vs ← fn.results.mapM (resOne a); pure (if h : vs.size = 1 then vs[0] else .tuple vs)) := rfl
  rw [e, Array.mapM_eq_mapM_toList]
  simp only [Sem.run_bind, Sem.run_map]
  rw [h5]
  simp only [Result.andThen_ok, Sem.run_pure]
  by_cases hu : us.length = 1
  · simp [hu]
  · simp [hu]
theorem rowsOf_get (sz : Nat) : ∀ (n : Nat) (l : List PV) (i : Nat), i < n → (rowsOf sz n l)[i]? = some ((l.drop (i * sz)).take sz) := by
  intro n
  induction n with
  | zero => intro l i h; omega
  | succ n ih =>
    intro l i h
    simp only [rowsOf]
    cases i with
    | zero => simp
    | succ i =>
      rw [List.getElem?_cons_succ, ih _ _ (by omega), List.drop_drop]
      congr 3
      rw [Nat.add_mul]; omega
theorem rowsOf_len (sz : Nat) : ∀ (n : Nat) (l : List PV), (rowsOf sz n l).length = n := by
  intro n
  induction n with
  | zero => intro l; rfl
  | succ n ih => intro l; simp only [rowsOf, List.length_cons, ih]
/-- a result, when the function is left -/
theorem finN_rel {w0s : Nat → Prop} {O : Nat → List PV} (hN : ∀ x : Addr, ¬ w0s x.block → imm N x) (hbox : ∀ d b n, β d = some (b, n) → ¬ w0s b ∧ ObjOK w N β w0s b n (O d)) : ∀ (m : Nat) {p : PV} {v : Value}, Rel w N β w0s p v → Rel w N (fun _ => none) (fun _ => False) (p.finN O m) v := by
  intro m
  induction m with
  | zero => intro p v h; exact h.pure0
  | succ m ih =>
  intro p v h
  unfold PV.finN
  split
  · rename_i c d e sz n
    obtain ⟨b, cp, hb, hc, rfl⟩ := vw_eq h
    obtain ⟨hb1, hob⟩ := hbox d b n hb
    split
    · rename_i x hO
      split
      · rename_i g1
        have e := nat_beq g1
        subst e
        obtain ⟨cs, t, q1, q2, q3, q4⟩ := arr_of hob hO
        refine Rel_row (s := ⟨false, x.e, x.sz, x.len, x.row⟩) rfl q2.symm q1 hc (fun i _ => LX.row_len _ _) (fun i _ => hN _ hb1) (fun i j q hi hq => ?_)
        have hj : j < x.sz := by have := (List.getElem?_eq_some_iff.1 hq).1; rw [LX.row_len] at this; exact this
        have hm : (i + 1) * x.sz ≤ n * x.sz := Nat.mul_le_mul_right _ hi
        rw [Nat.add_mul, Nat.one_mul] at hm
        have hv : cs[i * x.sz + j]? = some (cs[i * x.sz + j]'(by omega)) := Array.getElem?_eq_getElem (by omega)
        obtain ⟨r1, r2⟩ := q4 i j q _ hi hq hv
        exact ⟨_, hv, r1.flat (LX.row_flat _ _ _ (List.mem_of_getElem? hq)), r2⟩
      · exact .any _
    · split
      · rename_i x hlit hlen
        split
        · rename_i g1
          have e1 := nat_beq g1
          simp only [Bool.and_eq_true] at hlen
          have hlen' := (lenIs_iff _ _).1 hlen.1
          obtain ⟨l1, l2, l3⟩ := LX.lit_spec _ _ _ hlit
          rw [rowsOf_len] at l2
          have hob' : ∃ cs t, w.heap[b]? = some (.cells cs t (0, 0)) ∧ (n * sz ≤ cs.size) ∧ ∀ (i : Nat) (p : PV) (v : Value), i < n * sz → (O d)[i]? = some p → cs[i]? = some v → Rel w N (fun _ => none) (fun _ => False) (p.finN O m) v ∧ v.oneCell' = true := by
            obtain ⟨cs, t, q1, q2, q3⟩ := cells_of_obj hob hlen.2
            exact ⟨cs, t, q1, by omega, fun i p v _ hp hv => ⟨ih (q3 i p v hp hv).1, (q3 i p v hp hv).2⟩⟩
          obtain ⟨cs, t, q1, q2, q3⟩ := hob'
          refine Rel_row (s := ⟨false, x.e, x.sz, x.len, x.row⟩) rfl l2.symm q1 hc (fun i _ => LX.row_len _ _) (fun i _ => hN _ hb1) (fun i j q hi hq => ?_)
          have hj : j < x.sz := by have := (List.getElem?_eq_some_iff.1 hq).1; rw [LX.row_len] at this; exact this
          have hm : (i + 1) * sz ≤ n * sz := Nat.mul_le_mul_right _ hi
          rw [Nat.add_mul, Nat.one_mul] at hm
          obtain ⟨p0, hp0, hle⟩ := (l3 i _ (rowsOf_get sz n _ i hi)).get.2 j q hq
          have hp1 := drop_take_get hp0
          rw [List.getElem?_map] at hp1
          obtain ⟨p1, hp2, rfl⟩ := Option.map_eq_some_iff.1 hp1
          rw [← e1] at hj ⊢
          have hv : cs[i * sz + j]? = some (cs[i * sz + j]'(by omega)) := Array.getElem?_eq_getElem (by omega)
          obtain ⟨r1, r2⟩ := q3 _ p1 _ (by omega) hp2 hv
          exact ⟨_, hv, r1.le hle, r2⟩
        · exact .any _
      · exact .any _
    · exact .any _
  · exact h.pure0
theorem fin1_rel {w0s : Nat → Prop} {O : Nat → List PV} (hN : ∀ x : Addr, ¬ w0s x.block → imm N x) (hbox : ∀ d b n, β d = some (b, n) → ¬ w0s b ∧ ObjOK w N β w0s b n (O d)) {p : PV} {v : Value} (h : Rel w N β w0s p v) :
    Rel w N (fun _ => none) (fun _ => False) (p.fin1 O) v := finN_rel hN hbox 3 h
theorem fin_rel {w0s : Nat → Prop} {O : Nat → List PV} (hN : ∀ x : Addr, ¬ w0s x.block → imm N x) (hbox : ∀ d b n, β d = some (b, n) → ¬ w0s b ∧ ObjOK w N β w0s b n (O d)) {p : PV} {v : Value} (h : Rel w N β w0s p v) :
    Rel w N (fun _ => none) (fun _ => False) (p.fin O) v := by
  cases p with
  | agg l =>
    cases h with
    | row p s hs => cases hs
    | agg l cs hl h1 hr =>
      refine .agg _ cs (by rw [List.length_map, hl]) h1 (fun i q u hq hu => ?_)
      rw [List.getElem?_map] at hq
      cases hp : l[i]? with
      | none => rw [hp] at hq; cases hq
      | some p =>
        rw [hp] at hq
        injection hq with hq
        subst hq
        exact fin1_rel hN hbox (hr i p u hp hu)
  | tup l =>
    cases h with
    | row p s hs => cases hs
    | tup l cs hl hr =>
      refine .tup _ cs (by rw [List.length_map, hl]) (fun i q u hq hu => ?_)
      rw [List.getElem?_map] at hq
      cases hp : l[i]? with
      | none => rw [hp] at hq; cases hq
      | some p =>
        rw [hp] at hq
        injection hq with hq
        subst hq
        exact fin1_rel hN hbox (hr i p u hp hu)
  | sl own e sz es =>
    cases h with
    | row p s hs a c vs hc hsz ha hm hr =>
      injection hs with hs; subst hs
      have hf : ∀ i, i < es.length → (es.map fun r => r.map PV.pure0).getD i [] = (es.getD i []).map PV.pure0 := fun i hi => by
        simp [List.getD, hi]
      have := Rel.row (w := w) (M := N) (β := fun _ => none) (B := fun _ => False) (.sl false e sz (es.map fun r => r.map PV.pure0)) ⟨false, e, sz, (es.map fun r => r.map PV.pure0).length, fun i => (es.map fun r => r.map PV.pure0).getD i []⟩ rfl a c vs
        (by simpa using hc) (fun i hi => by
          simp only [List.length_map] at hi
          show ((es.map fun r => r.map PV.pure0).getD i []).length = sz
          rw [hf i hi, List.length_map]; exact hsz i hi) (fun i hi => ha i (by simpa using hi))
        (fun ad i j q had hi hq => by
          simp only [List.length_map] at hi
          have hq' : ((es.map fun r => r.map PV.pure0).getD i [])[j]? = some q := hq
          rw [hf i hi] at hq'
          obtain ⟨p, hp, rfl⟩ := map_pure0_get hq'
          exact hm ad i j p had hi hp)
        (fun i j q hi hq => by
          simp only [List.length_map] at hi
          have hq' : ((es.map fun r => r.map PV.pure0).getD i [])[j]? = some q := hq
          rw [hf i hi] at hq'
          obtain ⟨p, hp, rfl⟩ := map_pure0_get hq'
          exact (hr i j p hi hp).pure0)
      simp only [List.length_map] at this
      exact this
  | _ => exact fin1_rel hN hbox h
/-! ### a function's beginning -/
theorem frArgs_get : ∀ (l : List PV) (i s : Nat), look .any (frArgs i l) s = if i ≤ s then (match l[s - i]? with | some p => p.view | none => .any) else .any := by
  intro l
  induction l with
  | nil => intro i s; simp [frArgs, look]
  | cons p l ih =>
    intro i s
    simp only [frArgs]
    rw [look_one, ih]
    by_cases e : i = s
    · subst e; simp
    · rw [if_neg e]
      by_cases h1 : i ≤ s
      · rw [if_pos (by omega), if_pos h1]
        rw [show s - i = (s - (i + 1)) + 1 by omega]
        simp
      · rw [if_neg (by omega), if_neg h1]
theorem sr_start {κ : Type} {H : κ → PV × Value} {O : Nat → List PV} {D : Nat → Bool} {ob : List (Nat × List PV)} (base : Nat) (h : SH H w0 N O D w M β) (hO : ∀ d, O d = look [] ob d) (hD : ∀ d, D d = notIn d (ob.map Prod.fst))
    (args : List PV) (vs : List Value) (hl : vs.length = args.length) (hr : ∀ (i : Nat) (p : PV) (v : Value), args[i]? = some p → vs[i]? = some v → Rel w M β w0.old p v) (hn : args.length ≤ nt) :
    SR H w0 N nt { fr := frArgs 0 args, ob := ob, base := base } { tmps := vs.toArray ++ Array.replicate (nt - vs.toArray.size) undef, defers := [] } w M β := by
  have hg : ∀ s, St.get { fr := frArgs 0 args, ob := ob, base := base } s = match args[s]? with | some p => p.view | none => .any := fun s => by
    have := frArgs_get args 0 s
    rw [if_pos (Nat.zero_le s), Nat.sub_zero] at this
    exact this
  have e1 : O = St.obj { fr := frArgs 0 args, ob := ob, base := base } := funext hO
  have e2 : D = fun d => notIn d (ob.map Prod.fst) := funext hD
  refine ⟨rfl, by simp; omega, ?_⟩
  rw [← e1]
  show SH _ w0 N O (fun d => notIn d (ob.map Prod.fst)) w M β
  rw [← e2]
  refine h.hold (fun k => ?_) (fun k => match k with | .inl _ => none | .inr i => some i) (fun k s h1 h2 => ?_) (fun k k' j h1 h2 => ?_)
  · cases k with
    | inl s =>
      simp only [hold]
      rw [hg]
      cases hp : args[s]? with
      | none => exact .any _
      | some p =>
        have hs : s < args.length := (List.getElem?_eq_some_iff.1 hp).1
        have hv : vs[s]? = some (vs[s]'(by omega)) := List.getElem?_eq_getElem (by omega)
        have : (vs.toArray ++ Array.replicate (nt - vs.toArray.size) undef).getD s undef = vs[s]'(by omega) := by
          rw [Array.getD_eq_getD_getElem?, Array.getElem?_append_left (by simp; omega)]
          simp [hv]
        simp only []
        rw [this]
        exact (hr s p _ hp hv).view
    | inr i => exact h.reg i
  · cases k with
    | inl s =>
      simp only [hold] at h1
      rw [hg] at h1
      cases hp : args[s]? with
      | none => rw [hp] at h1; cases h1
      | some p => rw [hp] at h1; rw [view_sv' h1] at h2; cases h2
    | inr i => exact ⟨i, rfl, h1, rfl⟩
  · cases k with
    | inl s => cases h1
    | inr i =>
      cases k' with
      | inl s => cases h2
      | inr i' => injection h1 with h1; injection h2 with h2; rw [h1, h2]
/-! ### calls carried out in place -/
theorem evOps_star (hC : SoundC P C) (hX : SoundX P X) {ban : List Nat} : ∀ (l : List EOp) (st : St) (k : St → Prop), evOps P C X ban l st k → ∃ st', k st' ∧ ∀ k' : St → Prop, k' st' → evOps P (CStar P) (XStar P) ban l st k' := by
  intro l
  induction l with
  | nil => intro st k h; exact ⟨st, h, fun k' h' => h'⟩
  | cons eo l ih =>
    intro st k h
    have run1 : ∀ (su : St), stepD P C X ban eo.k eo.dst su (fun δ => evOps P C X ban l (su.app δ) k) → ∃ st', k st' ∧ ∀ k' : St → Prop, k' st' → stepD P (CStar P) (XStar P) ban eo.k eo.dst su (fun δ => evOps P (CStar P) (XStar P) ban l (su.app δ) k') := by
      intro su hs
      obtain ⟨δ, h1, h2⟩ := step_star hC hX _ _ _ _ hs
      obtain ⟨st', h3, h4⟩ := ih _ _ h1
      exact ⟨st', h3, fun k' hk => h2 (fun δ => evOps P (CStar P) (XStar P) ban l (su.app δ) k') (h4 k' hk)⟩
    simp only [evOps] at h ⊢
    cases hg : eo.g with
    | none =>
      rw [hg] at h
      exact run1 st h
    | some sw =>
      obtain ⟨s, want⟩ := sw
      rw [hg] at h
      simp only at h ⊢
      split at h
      · rename_i t hq
        cases t <;> cases want <;> simp only [br] at h ⊢ <;> first | exact run1 _ h | exact ih _ _ h
      · exact ih _ _ h
      · exact h.elim
theorem evSeq_star (hC : SoundC P C) (hX : SoundX P X) : ∀ (n : Nat) (l : List EOp) (st : St) (k : St → Prop), evSeq P C X n l st k → ∃ st', k st' ∧ ∀ k' : St → Prop, k' st' → evSeq P (CStar P) (XStar P) n l st k' := by
  intro n
  induction n with
  | zero =>
    intro l st k h
    cases l with
    | nil => exact ⟨st, h, fun k' h' => h'⟩
    | cons _ _ => exact h.elim
  | succ n ih =>
    intro l st k h
    cases l with
    | nil => exact ⟨st, h, fun k' h' => h'⟩
    | cons eo l =>
      have run1 : ∀ (su : St), stepD P C X [] eo.k eo.dst su (fun δ => evSeq P C X n l (su.app δ) k) → ∃ st', k st' ∧ ∀ k' : St → Prop, k' st' → stepD P (CStar P) (XStar P) [] eo.k eo.dst su (fun δ => evSeq P (CStar P) (XStar P) n l (su.app δ) k') := by
        intro su hs
        obtain ⟨δ, h1, h2⟩ := step_star hC hX _ _ _ _ hs
        obtain ⟨st', h3, h4⟩ := ih _ _ _ h1
        exact ⟨st', h3, fun k' hk => h2 (fun δ => evSeq P (CStar P) (XStar P) n l (su.app δ) k') (h4 k' hk)⟩
      simp only [evSeq] at h ⊢
      cases hg : eo.g with
      | none =>
        rw [hg] at h
        exact run1 st h
      | some sw =>
        obtain ⟨s, want⟩ := sw
        rw [hg] at h
        simp only at h ⊢
        split at h
        · rename_i t hq
          cases hsp : splitB s (eo :: l) with
          | none =>
            rw [hsp] at h
            cases t <;> cases want <;> simp only [br] at h ⊢ <;> first | exact run1 _ h | exact ih _ _ _ h
          | some x =>
            obtain ⟨B, pd, r'⟩ := x
            rw [hsp] at h
            simp only [jn] at h ⊢
            have go : ∀ su, evOps P C X [] B su (jPick pd (fun b => evSeq P C X n r' (stJ st B pd b) k)) → ∃ st', k st' ∧ ∀ k' : St → Prop, k' st' → evOps P (CStar P) (XStar P) [] B su (jPick pd (fun b => evSeq P (CStar P) (XStar P) n r' (stJ st B pd b) k')) := by
              intro su hs
              obtain ⟨sB, h1, h2⟩ := evOps_star hC hX _ _ _ hs
              unfold jPick at h1
              split at h1
              · rename_i b hb
                obtain ⟨st', h3, h4⟩ := ih _ _ _ h1
                exact ⟨st', h3, fun k' hk => h2 _ (by unfold jPick; rw [hb]; exact h4 k' hk)⟩
              · exact h1.elim
            cases t <;> simp only [br] at h ⊢ <;> exact go _ h
        · exact ih _ _ _ h
        · exact h.elim
theorem rngK_star {F F' : St → (Ex → St → Prop) → Prop} (hf : ∀ (st : St) (k : Ex → St → Prop), F st k → ∃ e st', k e st' ∧ ∀ k' : Ex → St → Prop, k' e st' → F' st k') {n : Nat} {m : Operand} {it nx mo pr : Nat} {keys : List Nat} {L : Nat} {st : St} {k : St → Prop}
    (h : rngK F n m it nx mo pr keys L st k) : ∃ stF, k stF ∧ ∀ k' : St → Prop, k' stF → rngK F' n m it nx mo pr keys L st k' := by
  have hr : ∀ (d : Nat) (O : List PV) (V : PV) (gk gv : Bool) (ks vs : LX) (live : List Nat) (kk : St → Prop) (Ln : Nat) (Sn : List Nat) (st : St), rngN F n d O V gk gv ks vs it nx mo pr keys live Ln Sn st kk → rngN F' n d O V gk gv ks vs it nx mo pr keys live Ln Sn st kk := by
    intro d O V gk gv ks vs live kk Ln
    induction Ln with
    | zero => intro Sn st h; exact h
    | succ Ln ihn =>
      intro Sn st h
      refine ⟨h.1, fun i hi hn => ?_⟩
      obtain ⟨e, st', h3, h4⟩ := hf _ _ (h.2 i hi hn)
      exact h4 _ ⟨h3.1, h3.2.1, h3.2.2.1, ihn _ _ h3.2.2.2⟩
  unfold rngK at h
  split at h
  · rename_i d hq
    split at h
    · rename_i gk gv ks vs hob
      obtain ⟨stF, hN, hk⟩ := h
      refine ⟨stF, hk, fun k' hk' => ?_⟩
      unfold rngK
      rw [hq]
      dsimp only
      rw [hob]
      exact ⟨stF, fun es clock r => hr _ _ _ _ _ _ _ _ _ _ _ _ (hN es clock r), hk'⟩
    · exact h.elim
  · exact h.elim
theorem evC_star (hC : SoundC P C) (hX : SoundX P X) (L : Nat) : ∀ (ec : EC) (st : St) (k : Ex → St → Prop), evC P C X L ec st k → ∃ e st', k e st' ∧ ∀ k' : Ex → St → Prop, k' e st' → evC P (CStar P) (XStar P) L ec st k' := by
  intro ec
  induction ec with
  | skip => intro st k h; exact ⟨.normal, st, h, fun k' h' => h'⟩
  | region ban ap l =>
    intro st k h
    simp only [evC] at h ⊢
    cases hap : apartOK st ap with
    | false => rw [hap] at h; exact h.elim
    | true =>
      rw [hap] at h
      obtain ⟨st', h1, h2⟩ := evOps_star hC hX _ _ _ h
      exact ⟨.normal, st', h1, fun k' hk => h2 (fun st' => k' .normal st') hk⟩
  | regS l =>
    intro st k h
    simp only [evC] at h ⊢
    obtain ⟨st', h1, h2⟩ := evSeq_star hC hX _ _ _ _ h
    exact ⟨.normal, st', h1, fun k' hk => h2 (fun st' => k' .normal st') hk⟩
  | seq a b iha ihb =>
    intro st k h
    simp only [evC] at h ⊢
    obtain ⟨e, st1, h1, h2⟩ := iha _ _ h
    cases e with
    | normal =>
      obtain ⟨e, st', h3, h4⟩ := ihb _ _ h1
      exact ⟨e, st', h3, fun k' hk => h2 _ (h4 k' hk)⟩
    | exit i => exact ⟨.exit i, st1, h1, fun k' hk => h2 _ hk⟩
    | ret => exact ⟨.ret, st1, h1, fun k' hk => h2 _ hk⟩
  | cond c a b iha ihb =>
    intro st k h
    simp only [evC] at h ⊢
    split at h
    · rename_i t hq
      cases t with
      | true => exact iha _ _ h
      | false => exact ihb _ _ h
    · exact h.elim
  | block id b ih =>
    intro st k h
    simp only [evC] at h ⊢
    obtain ⟨e, st1, h1, h2⟩ := ih _ _ h
    cases e with
    | normal => exact ⟨.normal, st1, h1, fun k' hk => h2 _ hk⟩
    | ret => exact ⟨.ret, st1, h1, fun k' hk => h2 _ hk⟩
    | exit i =>
      cases hb : Nat.beq i id with
      | true =>
        simp only [kBlock, hb] at h1
        exact ⟨.normal, st1, h1, fun k' hk => h2 _ (by simp only [kBlock, hb]; exact hk)⟩
      | false =>
        simp only [kBlock, hb] at h1
        exact ⟨.exit i, st1, h1, fun k' hk => h2 _ (by simp only [kBlock, hb]; exact hk)⟩
  | loop keys b ih =>
    intro st k h
    simp only [evC] at h ⊢
    generalize keep keys (gcK keys st) st = s0 at h ⊢
    generalize gcK keys st = live at h ⊢
    have key : ∀ (n : Nat) (st : St) (k : Ex → St → Prop), loopN (evC P C X L b) keys live n st k → ∃ e st', k e st' ∧ ∀ k' : Ex → St → Prop, k' e st' → loopN (evC P (CStar P) (XStar P) L b) keys live n st k' := by
      intro n
      induction n with
      | zero => intro st k h; exact h.elim
      | succ n ihn =>
        intro st k h
        obtain ⟨e, st1, h1, h2⟩ := ih _ _ h
        cases e with
        | normal =>
          obtain ⟨e, st', h3, h4⟩ := ihn _ _ h1
          exact ⟨e, st', h3, fun k' hk => h2 _ (h4 k' hk)⟩
        | exit i => exact ⟨.exit i, _, h1, fun k' hk => h2 _ hk⟩
        | ret => exact ⟨.ret, _, h1, fun k' hk => h2 _ hk⟩
    exact key L s0 k h
  | exit id => intro st k h; exact ⟨.exit id, st, h, fun k' h' => h'⟩
  | kp keys => intro st k h; exact ⟨.normal, _, h, fun k' h' => h'⟩
  | frz ts => intro st k h; exact ⟨.normal, _, h, fun k' h' => h'⟩
  | vws ts => intro st k h; exact ⟨.normal, _, h, fun k' h' => h'⟩
  | loopU keys b ih =>
    intro st k h
    simp only [evC] at h ⊢
    have key : ∀ (n : Nat) (st : St) (k : Ex → St → Prop), loopNU (evC P C X L b) keys n st k → ∃ e st', k e st' ∧ ∀ k' : Ex → St → Prop, k' e st' → loopNU (evC P (CStar P) (XStar P) L b) keys n st k' := by
      intro n
      induction n with
      | zero => intro st k h; exact h.elim
      | succ n ihn =>
        intro st k h
        obtain ⟨e, st1, h1, h2⟩ := ih _ _ h
        cases e with
        | normal =>
          obtain ⟨e, st', h3, h4⟩ := ihn _ _ h1
          exact ⟨e, st', h3, fun k' hk => h2 _ (h4 k' hk)⟩
        | exit i => exact ⟨.exit i, _, h1, fun k' hk => h2 _ hk⟩
        | ret => exact ⟨.ret, _, h1, fun k' hk => h2 _ hk⟩
    exact key L st k h
  | rng pre m it nx mo pr keys asg b n ih =>
    intro st k h
    simp only [evC] at h ⊢
    obtain ⟨st1, h1, h2⟩ := evSeq_star hC hX _ _ _ _ h
    have hf : ∀ (st : St) (k : Ex → St → Prop), (evSeq P C X asg.length asg st fun st' => evC P C X L b st' k) → ∃ e st', k e st' ∧ ∀ k' : Ex → St → Prop, k' e st' →
        (evSeq P (CStar P) (XStar P) asg.length asg st fun st' => evC P (CStar P) (XStar P) L b st' k') := fun st k h => by
      obtain ⟨st1, h1, h2⟩ := evSeq_star hC hX _ _ _ _ h
      obtain ⟨e, st', h3, h4⟩ := ih _ _ h1
      exact ⟨e, st', h3, fun k' hk => h2 _ (h4 k' hk)⟩
    obtain ⟨stF, q1, q2⟩ := rngK_star (F' := fun (st : St) (k : Ex → St → Prop) => evSeq P (CStar P) (XStar P) asg.length asg st fun st' => evC P (CStar P) (XStar P) L b st' k) hf h1
    exact ⟨.normal, stF, q1, fun k' hk' => h2 _ (q2 _ hk')⟩
  | ret => intro st k h; exact ⟨.ret, st, h, fun k' h' => h'⟩
  | stop => intro st k h; exact h.elim
theorem SoundC.star : SoundC P (CStar P) := fun _ _ _ h => h
theorem SoundX.star : SoundX P (XStar P) := fun _ _ _ _ h => h
theorem holdsI_of_holds {f : Nat} {args : List PV} {ob : List (Nat × List PV)} {r : PV} (h : Holds P f (args.map (snap (look [] ob))) r) : HoldsI P f args ob r.view [] := by
  intro κ H w0 w N M β O D vs hO hD hS hl hr
  have hsr : SR H w0 N 0 { fr := [], ob := ob, base := 0 } { tmps := #[], defers := [] } w M β := by
    have e1 : O = St.obj { fr := [], ob := ob, base := 0 } := funext hO
    have e2 : D = fun d => notIn d (ob.map Prod.fst) := funext hD
    refine ⟨rfl, rfl, ?_⟩
    rw [← e1]
    show SH _ w0 N O (fun d => notIn d (ob.map Prod.fst)) w M β
    rw [← e2]
    refine hS.hold (fun k => ?_) (fun k => match k with | .inl _ => none | .inr i => some i) (fun k s h1 h2 => ?_) (fun k k' j h1 h2 => ?_)
    · cases k with
      | inl s => exact .any _
      | inr i => exact hS.reg i
    · cases k with
      | inl s => cases h1
      | inr i => exact ⟨i, rfl, h1, rfl⟩
    · cases k with
      | inl s => cases h1
      | inr i =>
        cases k' with
        | inl s => cases h2
        | inr i' => injection h1 with h1; injection h2 with h2; rw [h1, h2]
  refine Calls.mono (h w M vs (by simp [hl]) (fun i p v hp hv => ?_) hS.mlt (hS.mN.gl.all hS.bel hS.mN.eq)) ?_
  · rw [List.getElem?_map] at hp
    cases hx : args[i]? with
    | none => rw [hx] at hp; cases hp
    | some x =>
      rw [hx] at hp
      simp only [Option.map_some, Option.some.injEq] at hp
      subst hp
      exact snap_rel hsr (hr i x v hx hv)
  · rintro e w' ⟨v, rfl, hv, hb⟩
    have e1 : O = look [] ([] ++ ob) := funext hO
    have e2 : D = fun d => notIn d (([] ++ ob).map Prod.fst) := funext hD
    refine ⟨v, M, β, rfl, ?_⟩
    rw [← e1, ← e2]
    exact (hS.world hb).cons _ v hv.up.view (fun s h1 h2 => by rw [view_sv' h1] at h2; cases h2)
/-- A block that was made since: ours. -/
theorem SH.rowAt {κ : Type} {H : κ → PV × Value} {w0 : Base} {w w' : World} {N M : Mut} {O : Nat → List PV} {D : Nat → Bool} {β : Loc} (h : SH H w0 N O D w M β) (hb : Below w.heap.size w w') {g : Nat} (k : Nat) (hg : w.heap.size ≤ g) (hg2 : g < w'.heap.size) :
    SH H w0 N O D w' (fun b => if b = g then some k else M b) β ∧
    (∀ x n, β x ≠ some (g, n)) ∧ (∀ key s v, Own H O w' β key s v → Own H O w β key s v ∧ tb v ≠ some g) ∧ Ext w M w' (fun b => if b = g then some k else M b) := by
  have hoth : ∀ x, x < w.heap.size → w'.heap[x]? = w.heap[x]? := hb.block
  have hE : Ext w M w' (fun b => if b = g then some k else M b) := fun x v hi hc => by
    have hx := cell_lt hc
    refine ⟨fun n hn => hi n ?_, by rw [hb.cell hx]; exact hc⟩
    simp only [show x.block ≠ g by omega, if_false] at hn
    exact hn
  have hβb : ∀ x b n, β x = some (b, n) → b < w.heap.size := fun x b n hb => h.mlt b 0 (h.box x b n hb).2.1
  have hR : ∀ p v, Rel w M β w0.old p v → Rel w' (fun b => if b = g then some k else M b) β w0.old p v := fun p v hr =>
    hr.ext hE (fun x hx => World.cell?_of_block (w := w) (hoth _ (h.bel.lt hx))) (fun _ _ h => h)
  have hOwn : ∀ key s v, Own H O w' β key s v → Own H O w β key s v := by
    intro key s v ho
    cases key with
    | slot k => exact ho
    | cell x i =>
      obtain ⟨b', m, p, h1, h2, h3, h4, h5⟩ := ho
      exact ⟨b', m, p, h1, h2, h3, h4, by rw [← World.cell?_of_block (w := w) (a := ⟨b', i, none⟩) (hoth b' (hβb x b' m h1))]; exact h5⟩
  have hlt : ∀ key s v, Own H O w β key s v → ∀ g, tb v = some g → g < w.heap.size := fun key s v ho g hg => by
    obtain ⟨_, k, hk⟩ := (h.tok key s v ho).lt hg
    exact h.mlt g k hk
  refine ⟨⟨h.bel.later hb, ?_, ?_, ?_, h.inj, h.dom, fun k => hR _ _ (h.reg k), ?_, ?_, ?_⟩, ?_, ?_, hE⟩
  · refine ⟨fun b hb => ?_, h.mN.gl⟩; simp only [show b ≠ g by have := h.bel.lt hb; omega, if_false]; exact h.mN b hb
  · intro b n hn
    by_cases e : b = g
    · subst e; exact hg2
    · simp only [e, if_false] at hn; have := h.mlt b n hn; have := hb.size; omega
  · intro d b m hd
    obtain ⟨h1, h2, h3⟩ := h.box d b m hd
    have hbl := hβb d b m hd
    exact ⟨h1, by simp only [show b ≠ g by omega, if_false]; exact h2, h3.ext (hoth b hbl) hR⟩
  · intro key s v ho
    have ho' := hOwn key s v ho
    refine (h.tok key s v ho').ext (fun g' hg' => ?_)
    have := hlt key s v ho' g' hg'
    exact ⟨hoth g' this, by simp only [show g' ≠ g by omega, if_false]⟩
  · intro key key' s s' v v' g ho ho'; exact h.tokne key key' s s' v v' g (hOwn _ _ _ ho) (hOwn _ _ _ ho')
  · intro key s v g x m ho; exact h.tokbox key s v g x m (hOwn _ _ _ ho)
  · intro x n hx
    have := hβb x _ n hx
    omega
  · intro key s v ho
    have ho' := hOwn key s v ho
    refine ⟨ho', fun hg => ?_⟩
    have := hlt key s v ho' _ hg
    omega
theorem holdsO_of_calls {f : Nat} {args : List PV} {x : LX} (hf : allP PV.fx1 args = true) (h : HoldsW P f args x) : HoldsO P f args (.lst false x) := by
  refine ⟨x, rfl, fun ob => ?_⟩
  intro κ H w0 w N M β O D vs hO hD hS hl hr
  refine Calls.mono (h w M vs hl (fun i p v hp hv => (hr i p v hp hv).fx1 (allP_mem hf p (List.mem_of_getElem? hp))) hS.mlt (hS.mN.gl.all hS.bel hS.mN.eq)) ?_
  · rintro e w' ⟨v, rfl, hv, hb⟩
    have e1 : O = look [] ([] ++ ob) := funext hO
    have e2 : D = fun d => notIn d (([] ++ ob).map Prod.fst) := funext hD
    rcases hv with ⟨a, rfl, h0⟩ | ⟨g, c, cs, rfl, hg, hh, h1, h2, h3, h4⟩
    · refine ⟨_, M, β, rfl, ?_⟩
      rw [← e1, ← e2]
      have hr0 : Rel w' M β w0.old (.lst true x) (.slice a x.len 0) := .row (.lst true x) ⟨true, x.e, x.sz, x.len, x.row⟩ rfl a 0 (fun _ _ => undef) (by show x.len ≤ 0; omega) (fun i hi => by simp only at hi; omega) (fun i hi => by simp only at hi; omega)
        (fun ad i j p _ hi => by simp only at hi; omega) (fun i j p hi => by simp only at hi; omega)
      rw [h0] at hr0
      refine (hS.world hb).cons (.lst true x) _ hr0 (fun s h1 _ => ?_)
      injection h1 with h1; subst h1
      exact ⟨.z rfl h0, fun key s' v' g _ hg => absurd hg tb_zero, fun g d n hg => absurd hg tb_zero⟩
    · have hg2 : g < w'.heap.size := (Array.getElem?_eq_some_iff.1 hh).1
      obtain ⟨S2, hb1, hn1, _⟩ := hS.rowAt hb (x.len * x.sz) hg hg2
      have hle : ¬ w0.old g := fun ho => by have := hS.bel.lt ho; omega
      refine ⟨_, (fun b => if b = g then some (x.len * x.sz) else M b), β, rfl, ?_⟩
      rw [← e1, ← e2]
      refine S2.cons (.lst true x) _ (Rel_row (s := ⟨true, x.e, x.sz, x.len, x.row⟩) rfl rfl hh h1 (fun i _ => LX.row_len _ _) (fun i hi n hn => ?_) (fun i j q hi hq => ?_)) (fun s h1' _ => ?_)
      · simp only [if_true] at hn
        injection hn with hn
        subst hn
        exact hi
      · obtain ⟨u, rfl, q1, q2⟩ := h4 i j q hi hq
        exact ⟨u, q1, .val u q2, q2⟩
      · injection h1' with h1'; subst h1'
        refine ⟨.inr ⟨g, c, cs, rfl, hle, by simp, hh, h1, h2, h3⟩, fun key s' v' g' ho' hg' => ?_, fun g' d n hg' => ?_⟩
        · have : g = g' := tb_blk hg'
          rw [← this]; exact (hn1 key s' v' ho').2
        · have : g = g' := tb_blk hg'
          rw [← this]; exact hb1 d n
/-- what is asked of slices.Grow at the nil slice -/
def GrowOK (P : Program) (f e b : Nat) : Prop := callable P f = true ∧ ∀ (w : World) (m : Nat), m * b ≤ 140737488355328 → m ≤ 4611686018427387904 →
  Calls P f #[.slice none 0 0, .int .i64 m] w fun en w' => (en = .returned (.slice none 0 0) ∧ w' = w) ∨
    ∃ (w1 : World) (cs : Array Value) (c : Nat), en = .returned (.slice (some ⟨w1.heap.size, 0, none⟩) 0 c) ∧ Below w.heap.size w w1 ∧ w' = w1.alloc (.cells cs e) ∧ (∀ x, LX.nil e = some x → cs.size = c * x.sz) ∧ c ≤ maxLen
/-- what is asked of slices.Clone at an empty row -/
def CloneOK (P : Program) (f e : Nat) : Prop := callable P f = true ∧ ∀ (a : Option Addr) (c : Nat) (w : World),
  Calls P f #[.slice a 0 c] w fun en w' => (en = .returned (.slice none 0 0) ∧ w' = w) ∨ (en = .returned (.slice (some ⟨w.heap.size, 0, none⟩) 0 0) ∧ w' = w.alloc (.cells #[] e))
def SoundG (P : Program) (G : Nat → Option (Nat × Nat)) : Prop := ∀ f e b, G f = some (e, b) → (b = 0 → CloneOK P f e) ∧ (b ≠ 0 → b ≠ 2000000 → b ≠ 3000000 → GrowOK P f e b)
theorem grow_holdsI {f e b : Nat} (hg : GrowOK P f e b) {x : LX} (hx : LX.nil e = some x) {m : Int} (h0 : 0 ≤ m) (hb : m * (b : Int) ≤ 140737488355328) (hm : m ≤ (4611686018427387904 : Int)) (ob : List (Nat × List PV)) :
    HoldsI P f [.val (.slice none 0 0), .val (.int .i64 m)] ob (.lst true x) [] := by
  intro κ H w0 w N M β O D vs hO hD hS hl hr
  match vs, hl with
  | [v1, v2], _ =>
    have e1 : v1 = .slice none 0 0 := (hr 0 _ v1 rfl rfl).val_eq
    have e2 : v2 = .int .i64 m := (hr 1 _ v2 rfl rfl).val_eq
    subst e1; subst e2
    obtain ⟨n, rfl⟩ := Int.eq_ofNat_of_zero_le h0
    obtain ⟨hxe, hxn⟩ := LX.nil_spec e x hx
    have o1 : O = look [] ([] ++ ob) := funext hO
    have o2 : D = fun d => notIn d (([] ++ ob).map Prod.fst) := funext hD
    refine Calls.mono (hg.2 w n (by
      have : ((n * b : Nat) : Int) ≤ 140737488355328 := by rw [Int.natCast_mul]; exact hb
      omega) (by omega)) ?_
    rintro en w' (⟨rfl, rfl⟩ | ⟨w1, cs, c, rfl, hbel, rfl, hsz, hc⟩)
    · refine ⟨_, M, β, rfl, ?_⟩
      rw [← o1, ← o2]
      refine hS.cons (.lst true x) (.slice none 0 0) (Rel.le (PV.Le.nil true x hxn) (Rel.val _ rfl)) (fun s h1 _ => ?_)
      injection h1 with h1; subst h1
      exact ⟨.z rfl hxn, fun key s' v' g _ hg => absurd hg tb_zero, fun g d n hg => absurd hg tb_zero⟩
    · have hS1 := hS.world hbel
      obtain ⟨_, hS2, _, hb1, hn1⟩ := hS1.rowNew cs e 0
      have hh := heap_alloc_new w1 (.cells cs e)
      have hle : ¬ w0.old w1.heap.size := hS1.bel.new
      refine ⟨_, (fun b => if b = w1.heap.size then some 0 else M b), β, rfl, ?_⟩
      rw [← o1, ← o2]
      refine hS2.cons (.lst true x) _ (Rel_row (s := ⟨true, x.e, x.sz, x.len, x.row⟩) rfl hxn.symm hh (Nat.zero_le _) (fun i hi => by omega) (fun i hi => by omega) (fun i j q hi => by omega)) (fun s h1 _ => ?_)
      injection h1 with h1; subst h1
      cases c with
      | zero => exact ⟨.z rfl hxn, fun key s' v' g _ hg => absurd hg tb_zero, fun g d n hg => absurd hg tb_zero⟩
      | succ c =>
        refine ⟨.inr ⟨w1.heap.size, c, cs, by rw [hxn], hle, by simp [hxn], by rw [hxe]; exact hh, by simp [hxn], hc, by rw [hsz x hx]⟩, fun key s' v' g ho' hg => ?_, fun g d n hg => ?_⟩
        · have : w1.heap.size = g := tb_blk hg
          rw [← this]; exact (hn1 key s' v' ho').2
        · have : w1.heap.size = g := tb_blk hg
          rw [← this]; exact hb1 d n
theorem clone_holdsI {f e : Nat} (hg : CloneOK P f e) {x : LX} (hx : LX.nil e = some x) (o : Bool) {z : LX} (hz : Nat.beq z.len 0 = true) (ob : List (Nat × List PV)) :
    HoldsI P f [.lst o z] ob (.lst true x) [] := by
  intro κ H w0 w N M β O D vs hO hD hS hl hr
  match vs, hl with
  | [v1], _ =>
    have hz0 : z.len = 0 := Nat.eq_of_beq_eq_true hz
    obtain ⟨a, c, rfl⟩ : ∃ a c, v1 = .slice a 0 c := by
      cases hr 0 _ v1 rfl rfl with
      | row p s hs a c vs _ _ _ _ _ =>
        injection hs with hs
        subst hs
        exact ⟨a, c, by show Value.slice a z.len c = _; rw [hz0]⟩
    obtain ⟨hxe, hxn⟩ := LX.nil_spec e x hx
    have o1 : O = look [] ([] ++ ob) := funext hO
    have o2 : D = fun d => notIn d (([] ++ ob).map Prod.fst) := funext hD
    refine Calls.mono (hg.2 a c w) ?_
    rintro en w' (⟨rfl, rfl⟩ | ⟨rfl, rfl⟩)
    · refine ⟨_, M, β, rfl, ?_⟩
      rw [← o1, ← o2]
      refine hS.cons (.lst true x) (.slice none 0 0) (Rel.le (PV.Le.nil true x hxn) (Rel.val _ rfl)) (fun s h1 _ => ?_)
      injection h1 with h1; subst h1
      exact ⟨.z rfl hxn, fun key s' v' g _ hg => absurd hg tb_zero, fun g d n hg => absurd hg tb_zero⟩
    · obtain ⟨_, hS2, _, hb1, hn1⟩ := hS.rowNew #[] e 0
      have hh := heap_alloc_new w (.cells #[] e)
      refine ⟨_, (fun b => if b = w.heap.size then some 0 else M b), β, rfl, ?_⟩
      rw [← o1, ← o2]
      refine hS2.cons (.lst true x) _ (Rel_row (s := ⟨true, x.e, x.sz, x.len, x.row⟩) rfl hxn.symm hh (Nat.zero_le _) (fun i hi => by omega) (fun i hi => by omega) (fun i j q hi => by omega)) (fun s h1 _ => ?_)
      injection h1 with h1; subst h1
      exact ⟨.z rfl hxn, fun key s' v' g _ hg => absurd hg tb_zero, fun g d n hg => absurd hg tb_zero⟩
def rPhi (t : Option Nat) : HKey (Option ι) → Option (HKey (Nat ⊕ ι))
  | .slot none => t.map fun s => .slot (.inl s)
  | .slot (some k) => some (.slot (.inr k))
  | .cell x i => some (.cell x i)
def rPsi : HKey (Nat ⊕ ι) → HKey (Option ι)
  | .slot (.inl _) => .slot none
  | .slot (.inr k) => .slot (some k)
  | .cell x i => .cell x i
theorem rPhi_inv {t : Option Nat} {k : HKey (Option ι)} {j : HKey (Nat ⊕ ι)} (h : rPhi t k = some j) : k = rPsi j := by
  cases k with
  | slot k =>
    cases k with
    | none =>
      cases t with
      | none => cases h
      | some s => injection h with h; subst h; rfl
    | some k => injection h with h; subst h; rfl
  | cell x i => injection h with h; subst h; rfl
/-- what is left of a frame, when a call in place returns -/
theorem endI_or (st : St) (rs : List ResultVar) : st.endI rs = st ∨ st.endI rs = keepF (slotsR rs) (gcK (slotsR rs) st) st := by
  unfold St.endI
  cases rs with
  | cons a r => exact .inl rfl
  | nil =>
    cases longer 7 (liveK st) with
    | false => exact .inl rfl
    | true => exact .inr rfl
theorem leave (h : SR cx w0 N nt st a w M β) {ob : List (Nat × List PV)} {r : PV} {v : Value} (hr : Rel w M β w0.old r v) (ho : (∃ t, r = st.get t ∧ v = a.tmps.getD t undef) ∨ ∀ s, r.sv = some s → s.own = false) :
    SH (ocons (r, v) cx) w0 N (look [] (st.ob ++ ob)) (fun d => notIn d ((st.ob ++ ob).map Prod.fst)) w M β := by
  have hO : ∀ d x, β d = some x → look [] (st.ob ++ ob) d = st.obj d := fun d x hd => by
    rw [look_app, if_pos]
    · rfl
    · cases hn : notIn d (st.ob.map Prod.fst) with
      | true => have := h.sh.dom d hn; rw [this] at hd; cases hd
      | false =>
        have : ¬ notIn d (st.ob.map Prod.fst) = true := by rw [hn]; simp
        rw [notIn_iff] at this
        exact Classical.not_not.1 this
  have key : ∀ (t : Option Nat), (∀ s, r.sv = some s → s.own = true → ∃ t', t = some t' ∧ r = st.get t' ∧ v = a.tmps.getD t' undef) → SH (ocons (r, v) cx) w0 N (look [] (st.ob ++ ob)) (fun d => notIn d ((st.ob ++ ob).map Prod.fst)) w M β := by
    intro t ht
    refine h.sh.perm (fun k => ?_) (fun d b n hd => by rw [hO d _ hd]; exact (h.sh.box d b n hd).2.2) (fun d hd => ?_) (rPhi t) ?_ (fun k k' j h1 h2 => (rPhi_inv h1).trans (rPhi_inv h2).symm)
    · cases k with
      | none => exact hr
      | some k => exact h.sh.reg (.inr k)
    · rw [List.map_append, notIn_app, Bool.and_eq_true] at hd
      exact h.sh.dom d hd.1
    · intro key s u hk
      cases key with
      | slot k =>
        cases k with
        | none =>
          obtain ⟨q1, q2, q3⟩ := hk
          obtain ⟨t', e1, e2, e3⟩ := ht s q1 q2
          subst e1
          refine ⟨.slot (.inl t'), rfl, ?_, q2, ?_⟩
          · show (st.get t').sv = some s
            rw [← e2]; exact q1
          · show a.tmps.getD t' undef = u
            rw [← e3]; exact q3
        | some k => exact ⟨_, rfl, hk⟩
      | cell d i =>
        obtain ⟨b, n, p, q1, q2, q3⟩ := hk
        rw [hO d _ q1] at q2
        exact ⟨.cell d i, rfl, b, n, p, q1, q2, q3⟩
  rcases ho with ⟨t, e1, e2⟩ | ho
  · exact key (some t) (fun s _ _ => ⟨t, rfl, e1, e2⟩)
  · exact key none (fun s h1 h2 => by rw [ho s h1] at h2; cases h2)
/-- what a body does, begun at these slots -/
def HoldsR (P : Program) (f nt : Nat) (fr : List (Nat × PV)) (ob : List (Nat × List PV)) (r : PV) (o' : List (Nat × List PV)) : Prop :=
  ∀ {κ : Type} (H : κ → PV × Value) (w0 : Base) (w : World) (N M : Mut) (β : Loc) (vs : List Value),
    SR H w0 N nt { fr := fr, ob := ob, base := nextId ob } { tmps := vs.toArray ++ Array.replicate (nt - vs.toArray.size) undef, defers := [] } w M β →
    Calls P f vs.toArray w fun e w' => ∃ v M' β', e = .returned v ∧ SH (ocons (r, v) H) w0 N (look [] (o' ++ ob)) (fun d => notIn d ((o' ++ ob).map Prod.fst)) w' M' β'
theorem HoldsR.norm {f nt : Nat} {fr : List (Nat × PV)} {ob : List (Nat × List PV)} {r : PV} {o' : List (Nat × List PV)} (h : HoldsR P f nt fr ob r o') : HoldsR P f nt fr ob r (normO o') := by
  intro κ H w0 w N M β vs hS
  refine Calls.mono (h H w0 w N M β vs hS) ?_
  rintro e w' ⟨v, M', β', he, hS'⟩
  refine ⟨v, M', β', he, ?_⟩
  have e1 : look [] (normO o' ++ ob) = look [] (o' ++ ob) := funext fun d => by rw [look_app, look_app, normO_look]; simp only [normO_mem]
  have e2 : (fun d => notIn d ((normO o' ++ ob).map Prod.fst)) = fun d => notIn d ((o' ++ ob).map Prod.fst) := funext fun d => by rw [List.map_append, List.map_append, notIn_app, notIn_app, normO_key]
  rw [e1, e2]; exact hS'
/-- a call that is carried out in place -/
theorem inplace_core {X : Inl} (hC : SoundC P C) (ih : SoundX P X) (hm : P.follows .mixedOrders = true) (L : Nat) {f : Nat} {fn : Func} (hf : P.funcs[f]? = some fn) {ec : EC} (hc : cFn P inl fn = some ec) {fr : List (Nat × PV)}
    {ob : List (Nat × List PV)} {k : PV → List (Nat × List PV) → Prop} (h : evC P C X L ec { fr := fr, ob := ob, base := nextId ob } (kEndI P fn.results.toList k)) : ∃ r o', HoldsR P f fn.ntmps fr ob r o' ∧ k r o' := by
  unfold cFn at hc
  cases hb : fn.body with
  | none => rw [hb] at hc; cases hc
  | some c =>
    rw [hb] at hc
    injection hc with hc
    obtain ⟨e, st', h1, h2⟩ := evC_star hC ih L ec _ _ h
    have hfin : ∃ l, finishI (normO (st'.endI fn.results.toList).ob) k l ∧ evRes P (st'.endI fn.results.toList) fn.results.toList (fun l' => l' = l) ∧ (e = .normal ∨ e = .ret) := by
      cases e with
      | exit i => exact h1.elim
      | normal => obtain ⟨l, q1, q2⟩ := evRes_pick _ _ h1; exact ⟨l, q1, q2 _ rfl, .inl rfl⟩
      | ret => obtain ⟨l, q1, q2⟩ := evRes_pick _ _ h1; exact ⟨l, q1, q2 _ rfl, .inr rfl⟩
    obtain ⟨l, h3, h4, h5⟩ := hfin
    have main : ∀ (r : PV), (∃ t, l = [t] ∧ r = t) ∨ (l.length ≠ 1 ∧ r = .tup (l.map PV.view)) → HoldsR P f fn.ntmps fr ob r (st'.endI fn.results.toList).ob := by
      intro r hrl κ H w0 w N M β vs hS0
      refine calls_of_wp hf hb ?_
      have hS' : ∀ k, LocsIn (fun d => ∃ x, β d = some x) (H k).1 := fun k => (hS0.sh.reg (.inr k)).locs
      have hHas : Has (fun d => ∃ x, β d = some x) { fr := fr, ob := ob, base := nextId ob } := by
        rintro d ⟨x, hx⟩
        have hn : notIn d (ob.map Prod.fst) = false := by
          cases hn : notIn d (ob.map Prod.fst) with
          | false => rfl
          | true =>
            have := hS0.sh.dom d hn
            rw [this] at hx; cases hx
        exact ⟨hn, nextId_gt hn⟩
      refine evC_sound (cx := H) (w0 := w0) (N := N) (SoundC.star (P := P)) (SoundX.star (P := P)) hm hS' _ L c _ _ _ ec hc _ _ w M β (fun e' s' => e' = e ∧ s' = st') hHas hS0 (h2 _ ⟨rfl, rfl⟩) _ ?_
      rintro e' s' a' w' M' β' ⟨rfl, rfl⟩ hHs hSR0
      obtain ⟨β3, hSR⟩ : ∃ β3, SR H w0 N fn.ntmps (s'.endI fn.results.toList) a' w' M' β3 := by
        rcases endI_or s' fn.results.toList with he | he <;> rw [he]
        · exact ⟨β', hSR0⟩
        · exact ⟨_, (hSR0.keep hS' (slotsR fn.results.toList) (gcK (slotsR fn.results.toList) s') (gc_live hHs _)).equiv (keepF_eq (slotsR fn.results.toList) (gcK (slotsR fn.results.toList) s') s').symm⟩
      obtain ⟨ps, us, q1, q2, q3, q4, q5⟩ := evRes_sound hSR _ _ h4
      subst q1
      have hrun := results_run q5
      have fin : a'.defers = [] ∧ ∃ v, (results fn a'.tmps).run P w' = .ok v w' ∧ ∃ v2 M2 β2, Ending.returned v = .returned v2 ∧ SH (ocons (r, v2) H) w0 N (look [] ((s'.endI fn.results.toList).ob ++ ob)) (fun d => notIn d (((s'.endI fn.results.toList).ob ++ ob).map Prod.fst)) w' M2 β2 := by
        refine ⟨hSR.defs, _, hrun, _, M', β3, rfl, ?_⟩
        rcases hrl with ⟨t, hl1, rfl⟩ | ⟨hl1, rfl⟩
        · subst hl1
          match us, q2, q4 with
          | [u], _, q4 =>
            obtain ⟨r1, r2⟩ := q4 0 _ u rfl rfl
            exact leave hSR r1 r2
        · have hne : ¬ us.length = 1 := by rw [q2]; exact hl1
          rw [dif_neg hne]
          refine leave hSR (.tup _ us (by rw [List.length_map, q2]) (fun i q u hq hu => ?_)) (.inr (no_own rfl))
          obtain ⟨p, hp, rfl⟩ := map_view_get hq
          exact (q4 i p u hp hu).1.view
      rcases h5 with rfl | rfl
      · exact fin
      · exact fin
    match l, h3, main with
    | [], h3, main => exact ⟨_, _, HoldsR.norm (main _ (.inr ⟨by simp, rfl⟩)), h3⟩
    | [r], h3, main => exact ⟨_, _, HoldsR.norm (main _ (.inl ⟨r, rfl, rfl⟩)), h3⟩
    | a :: b :: l, h3, main => exact ⟨_, _, HoldsR.norm (main _ (.inr ⟨by simp, rfl⟩)), h3⟩
theorem frArgsT_get : ∀ (l : List PV) (i s : Nat), look .any (frArgsT i l) s = if i ≤ s then (match l[s - i]? with | some p => p | none => .any) else .any
  | [], i, s => by simp [frArgsT, look]
  | p :: r, i, s => by
    rw [frArgsT, look_one, frArgsT_get r (i + 1) s]
    by_cases h : i = s
    · subst h; simp
    · rw [if_neg h]
      by_cases h2 : i ≤ s
      · rw [if_pos h2, if_pos (by omega), show s - i = (s - (i + 1)) + 1 by omega]; rfl
      · rw [if_neg h2, if_neg (by omega)]
theorem sr_startT {κ : Type} {H : κ → PV × Value} {O : Nat → List PV} {D : Nat → Bool} {ob : List (Nat × List PV)} (base : Nat) {args : List PV} {vs : List Value} (h : SH (aH args vs H) w0 N O D w M β) (hO : ∀ d, O d = look [] ob d) (hD : ∀ d, D d = notIn d (ob.map Prod.fst))
    (hl : vs.length = args.length) (hn : args.length ≤ nt) :
    SR H w0 N nt { fr := frArgsT 0 args, ob := ob, base := base } { tmps := vs.toArray ++ Array.replicate (nt - vs.toArray.size) undef, defers := [] } w M β := by
  have hg : ∀ s, St.get { fr := frArgsT 0 args, ob := ob, base := base } s = args.getD s .any := fun s => by
    have := frArgsT_get args 0 s
    rw [if_pos (Nat.zero_le s), Nat.sub_zero] at this
    show look .any (frArgsT 0 args) s = _
    rw [this, List.getD]
    cases args[s]? <;> rfl
  have hv : ∀ s, (vs.toArray ++ Array.replicate (nt - vs.toArray.size) undef).getD s undef = vs.getD s undef := fun s => by
    rw [Array.getD_eq_getD_getElem?, List.getD]
    by_cases hs : s < vs.length
    · rw [Array.getElem?_append_left (by simpa using hs)]; simp
    · rw [Array.getElem?_append_right (by simp; omega), List.getElem?_eq_none (by omega), Array.getElem?_replicate]
      split <;> rfl
  have e1 : O = St.obj { fr := frArgsT 0 args, ob := ob, base := base } := funext hO
  have e2 : D = fun d => notIn d (ob.map Prod.fst) := funext hD
  refine ⟨rfl, by simp; omega, ?_⟩
  rw [← e1]
  show SH _ w0 N O (fun d => notIn d (ob.map Prod.fst)) w M β
  rw [← e2]
  refine h.hold (fun k => ?_) (fun k => match k with | .inl s => some (.inr s) | .inr i => some (.inl i)) (fun k s h1 h2 => ?_) (fun k k' j h1 h2 => ?_)
  · cases k with
    | inl s =>
      simp only [hold]
      rw [hg, hv]
      exact h.reg (.inr s)
    | inr i => exact h.reg (.inl i)
  · cases k with
    | inl s0 =>
      simp only [hold] at h1 ⊢
      rw [hg] at h1
      exact ⟨.inr s0, rfl, h1, (hv s0).symm⟩
    | inr i => exact ⟨.inl i, rfl, h1, rfl⟩
  · cases k <;> cases k' <;> simp at h1 h2 <;> subst h1 <;> simp at h2 <;> rw [h2]
theorem inplace_T {X : Inl} (hC : SoundC P C) (ih : SoundX P X) (hm : P.follows .mixedOrders = true) (L : Nat) {f : Nat} {fn : Func} (hf : P.funcs[f]? = some fn) {ec : EC} (hc : cFn P inl fn = some ec) {args : List PV} (hn : Nat.ble args.length fn.ntmps = true) (hcall : callable P f = true)
    {ob : List (Nat × List PV)} {k : PV → List (Nat × List PV) → Prop} (h : evC P C X L ec { fr := frArgsT 0 args, ob := ob, base := nextId ob } (kEndI P fn.results.toList k)) : XStar P f args ob k := by
  obtain ⟨r, o', h1, h2⟩ := inplace_core hC ih hm L hf hc h
  refine ⟨hcall, r, o', ?_, h2⟩
  intro κ H w0 w N M β O D vs hO hD hS hl
  exact h1 H w0 w N M β vs (sr_startT _ hS hO hD hl (Nat.le_of_ble_eq_true hn))
theorem inplace_sound {X : Inl} (hC : SoundC P C) (ih : SoundX P X) (hm : P.follows .mixedOrders = true) (L : Nat) {f : Nat} {fn : Func} (hf : P.funcs[f]? = some fn) {ec : EC} (hc : cFn P inl fn = some ec) {args : List PV} (hn : Nat.ble args.length fn.ntmps = true)
    {ob : List (Nat × List PV)} {k : PV → List (Nat × List PV) → Prop} (h : evC P C X L ec { fr := frArgs 0 args, ob := ob, base := nextId ob } (kEndI P fn.results.toList k)) : ∃ r o', HoldsI P f args ob r o' ∧ k r o' := by
  obtain ⟨r, o', h1, h2⟩ := inplace_core hC ih hm L hf hc h
  refine ⟨r, o', ?_, h2⟩
  intro κ H w0 w N M β O D vs hO hD hS hl hr
  exact h1 H w0 w N M β vs (sr_start _ hS hO hD args vs hl hr (Nat.le_of_ble_eq_true hn))
theorem evJ_sound {X : Inl} (hC : SoundC P C) (ih : SoundX P X) (hm : P.follows .mixedOrders = true) (L : Nat) : SoundX P (evJ P inl C L X) := by
    intro f args ob k h
    simp only [evJ] at h
    split at h
    · split at h
      · rename_i fn hf
        split at h
        · rename_i ec hc hn hcall
          exact inplace_T hC ih hm L hf hc hn hcall h
        · exact h.elim
      · exact h.elim
    · split at h
      · rename_i hcall
        obtain ⟨r, h1, h2⟩ := hC _ _ _ h
        rw [HoldsC.of (headT_snap (look [] ob) (fun x => x) args)] at h1
        exact ⟨hcall, _, _, HoldsI.toT (holdsI_of_holds h1), h2⟩
      · exact h.elim
theorem evI0_sound {G : Nat → Option (Nat × Nat)} (hG : SoundG P G) (hC : SoundC P C) (hm : P.follows .mixedOrders = true) (L : Nat) : ∀ n, SoundX P (evI0 P inl G C L n) := by
  intro n
  induction n with
  | zero => intro f args ob k h; exact h.elim
  | succ n ih =>
    intro f args ob k h
    simp only [evI0, evB] at h
    cases hGf : G f with
    | some eb =>
     obtain ⟨e, b⟩ := eb
     rw [hGf] at h
     simp only at h
     have hg := hG f e b hGf
     cases hb : Nat.beq b 0 with
     | true =>
       rw [hb] at h
       simp only [cloneK] at h
       have hg := hg.1 (Nat.eq_of_beq_eq_true hb)
       split at h
       · rename_i o z x hx
         cases hz : Nat.beq z.len 0 with
         | true =>
           rw [hz] at h
           exact ⟨hg.1, _, _, HoldsI.toT (clone_holdsI hg hx o hz ob), h⟩
         | false =>
           rw [hz] at h
           exact evJ_sound hC ih hm L _ _ _ _ h
       · exact evJ_sound hC ih hm L _ _ _ _ h
     | false =>
       rw [hb] at h
       cases hb2 : Nat.beq b 2000000 with
       | true =>
         rw [hb2] at h
         simp only [stK] at h
         split at h
         · rename_i d ps
           split at h
           · rename_i g1 g2 g3
             obtain ⟨r, h1, h2⟩ := hC _ _ _ h
             rcases (h1 : HoldsS P f _ _ r ∨ _) with h1 | ⟨_, x, rfl, _⟩
             · obtain ⟨r0, l, o, rfl, q1, q2, q3, q4⟩ := h1
               exact ⟨g3, r0, [(d, l)], HoldsI.toT (frame_call q1 q2 g2 q3 q4 d ob rfl g1), h2⟩
             · exact h2.elim
           · exact h.elim
         · exact h.elim
       | false =>
       rw [hb2] at h
       cases hb3 : Nat.beq b 3000000 with
       | true =>
         rw [hb3] at h
         simp only [ownK] at h
         split at h
         · rename_i g3 _
           obtain ⟨r, h1, h2⟩ := hC _ _ _ h
           rcases (h1 : HoldsS P f _ _ r ∨ _) with h1 | ⟨_, x, rfl, h1⟩
           · obtain ⟨r0, l, o, rfl, _⟩ := h1
             exact h2.elim
           · exact ⟨g3, _, _, HoldsI.toT (h1 ob), h2⟩
         · exact h.elim
       | false =>
       rw [hb3] at h
       simp only [growK, gd_and] at h
       have hg := hg.2 (fun e => by subst e; cases hb) (fun e => by subst e; cases hb2) (fun e => by subst e; cases hb3)
       split at h
       · rename_i m x hx
         exact ⟨hg.1, _, _, HoldsI.toT (grow_holdsI hg hx h.1 h.2.1 h.2.2.1 ob), h.2.2.2⟩
       · exact h.elim
    | none =>
      rw [hGf] at h
      exact evJ_sound hC ih hm L _ _ _ _ h
theorem evI_sound {G : Nat → Option (Nat × Nat)} {J : Nat → Bool} (hG : SoundG P G) (hC : SoundC P C) (hm : P.follows .mixedOrders = true) (L : Nat) (n : Nat) : SoundX P (evI P inl G J C L n) := by
  rw [evI_eq]; exact evI0_sound hG hC hm L n
/-- A function's body, evaluated, says what a call returns. -/
theorem holds_of_ev (hC : SoundC P C) (hX : SoundX P X) (hm : P.follows .mixedOrders = true) (L : Nat) {f : Nat} {fn : Func} (hf : P.funcs[f]? = some fn) {ec : EC} (hc : cFn P inl fn = some ec) (args : List PV) (r : PV)
    (hn : Nat.ble args.length fn.ntmps = true) (h : evFn P C X L fn.results.toList ec args (fun p => p = r)) : Holds P f args r := by
  have h := (evFn_head h).2
  unfold cFn at hc
  cases hb : fn.body with
  | none => rw [hb] at hc; cases hc
  | some c =>
    rw [hb] at hc
    injection hc with hc
    intro w N vs hl hr hN hgl
    refine calls_of_wp hf hb ?_
    have h0 : SH (fun (e : Empty) => (e.elim : PV × Value)) (Base.all w) N (fun _ => []) (fun _ => true) w N (fun _ => none) :=
      ⟨Bel.of w _ rfl, ⟨fun _ _ => rfl, hgl⟩, hN, (fun d b n h => by cases h), (fun d d' b n n' h => by cases h), fun _ _ => rfl, fun k => k.elim,
        (fun key s v ho => by cases key with | slot k => exact k.elim | cell d i => obtain ⟨b, n, p, h, _⟩ := ho; cases h),
        (fun key key' s s' v v' g ho => by cases key with | slot k => exact k.elim | cell d i => obtain ⟨b, n, p, h, _⟩ := ho; cases h),
        (fun key s v g d n ho => by cases key with | slot k => exact k.elim | cell d i => obtain ⟨b, n, p, h, _⟩ := ho; cases h)⟩
    refine evC_sound (cx := fun (e : Empty) => (e.elim : PV × Value)) (w0 := Base.all w) (N := N) (S := fun _ => False) hC hX hm (fun k => k.elim) _ L c _ _ _ ec hc _ _ w N (fun _ => none) _ (fun d hd => hd.elim)
      (sr_start (ob := []) 0 h0 (fun _ => rfl) (fun _ => rfl) args vs hl hr (Nat.le_of_ble_eq_true hn)) h _ ?_
    intro e st' a' w' M' β' hk _ hS
    have fin : evRes P st' fn.results.toList (finish st'.obj fun p => p = r) → a'.defers = [] ∧ ∃ v, (results fn a'.tmps).run P w' = .ok v w' ∧ ∃ u, Ending.returned v = .returned u ∧ Rel w' N (fun _ => none) (fun _ => False) r u ∧ Below w.heap.size w w' := by
      intro hk
      obtain ⟨ps, us, h1, h2, h3, h4, h5⟩ := evRes_sound hS _ _ hk
      have himm : ∀ x : Addr, imm M' x → imm N x := fun x hi n hn => by
        have hx := hN _ _ hn
        exact hi n (by rw [hS.sh.mN _ hx]; exact hn)
      have hmono : ∀ p v, Rel w' M' β' (Base.all w).old p v → Rel w' N β' (Base.all w).old p v := fun p v hp => hp.ext (fun x u hi hc => ⟨himm x hi, hc⟩) (fun _ _ => rfl) (fun _ _ h => h)
      have hNb : ∀ x : Addr, ¬ (Base.all w).old x.block → imm N x := fun x hx n hn => absurd (hN _ _ hn) hx
      have hbox : ∀ d b n, β' d = some (b, n) → ¬ (Base.all w).old b ∧ ObjOK w' N β' (Base.all w).old b n (st'.obj d) := fun d b n hd =>
        ⟨(hS.sh.box d b n hd).1, (hS.sh.box d b n hd).2.2.ext rfl hmono⟩
      have hfin : ∀ p v, Rel w' M' β' (Base.all w).old p v → Rel w' N (fun _ => none) (fun _ => False) (p.fin st'.obj) v := fun p v hp => fin_rel hNb hbox (hmono p v hp)
      refine ⟨hS.defs, _, results_run h5, _, rfl, ?_, hS.sh.bel.below⟩
      match ps, us, h1, h2, h4 with
      | [], [], h1, _, h4 =>
        have h1' : PV.tup [] = r := h1
        rw [← h1']
        exact .tup [] [] rfl (fun i p v hp => by simp at hp)
      | [p], [u], h1, _, h4 =>
        have h1' : p.fin st'.obj = r := h1
        rw [← h1']
        exact hfin _ _ (h4 0 p u rfl rfl).1
      | p :: q :: ps, u :: u' :: us, h1, h2, h4 =>
        have h1' : PV.tup ((p :: q :: ps).map (PV.fin st'.obj)) = r := h1
        rw [← h1']
        refine .tup _ _ (by simpa using h2.symm) (fun i x v hx hv => ?_)
        rw [List.getElem?_map] at hx
        cases hp : (p :: q :: ps)[i]? with
        | none => rw [hp] at hx; cases hx
        | some y =>
          rw [hp] at hx
          injection hx with hx
          subst hx
          exact hfin _ _ (h4 i y v hp hv).1
    cases e with
    | normal => exact fin hk
    | ret => exact fin hk
    | exit i => exact hk.elim
end
/-- A body, evaluated at one variable of the caller's, says what a call does there. -/
theorem holdsS_of_ev {P : Program} {C : Oracle} {inl : Nat → Bool} {X : Inl} (hC : SoundC P C) (hX : SoundX P X) (hm : P.follows .mixedOrders = true) (L : Nat) {f : Nat} {fn : Func} (hf : P.funcs[f]? = some fn) {ec : EC} (hc : cFn P inl fn = some ec) (cells args : List PV) (R : PV)
    (hn : Nat.ble (args.length + 1) fn.ntmps = true) (hcall : callable P f = true) (h : evFnS P C X L fn.results.toList ec cells args (fun p => p = R)) : HoldsS P f cells args R := by
  obtain ⟨r, o, hI, hk⟩ := inplace_sound hC hX hm L hf hc (args := .loc 0 0 :: args) hn h
  unfold kSt at hk
  split at hk
  · rename_i h1 h2
    exact ⟨r, _, o, hk.symm, hI, rfl, h1, h2⟩
  · exact hk.elim
theorem own_sound {P : Program} {C : Oracle} {inl : Nat → Bool} {X : Inl} (hC : SoundC P C) (ih : SoundX P X) (hm : P.follows .mixedOrders = true) (L : Nat) {f : Nat} {fn : Func} (hf : P.funcs[f]? = some fn) {ec : EC} (hc : cFn P inl fn = some ec) {args : List PV} (hn : Nat.ble args.length fn.ntmps = true)
    {k : PV → Prop} (h : evFnO P C X L fn.results.toList ec args k) : ∃ x, HoldsI P f args [] (.lst true x) [] ∧ k (.lst false x) := by
  unfold cFn at hc
  cases hb : fn.body with
  | none => rw [hb] at hc; cases hc
  | some c =>
    rw [hb] at hc
    injection hc with hc
    obtain ⟨e, st', h1, h2⟩ := evC_star hC ih L ec _ _ h
    have hfin : ∃ l, (match l with | [PV.lst true x] => k (.lst false x) | _ => False) ∧ evRes P (keepF (slotsR fn.results.toList) [] st') fn.results.toList (fun l' => l' = l) ∧ (e = .normal ∨ e = .ret) := by
      cases e with
      | exit i => exact h1.elim
      | normal => obtain ⟨l, q1, q2⟩ := evRes_pick _ _ h1; exact ⟨l, q1, q2 _ rfl, .inl rfl⟩
      | ret => obtain ⟨l, q1, q2⟩ := evRes_pick _ _ h1; exact ⟨l, q1, q2 _ rfl, .inr rfl⟩
    obtain ⟨l, h3, h4, h5⟩ := hfin
    obtain ⟨x, rfl⟩ : ∃ x, l = [.lst true x] := by
      split at h3
      · exact ⟨_, rfl⟩
      · exact h3.elim
    refine ⟨x, ?_, h3⟩
    intro κ H w0 w N M β O D vs hO hD hS hl hr
    refine calls_of_wp hf hb ?_
    have hS' : ∀ k, LocsIn (fun d => ∃ x, β d = some x) (H k).1 := fun k => (hS.reg k).locs
    have hno : ∀ d, ¬ ∃ x, β d = some x := fun d ⟨x, hx⟩ => by
      have := hS.dom d (by rw [hD]; rfl)
      rw [this] at hx; cases hx
    have hHas : Has (fun d => ∃ x, β d = some x) { fr := frArgs 0 args, ob := [], base := 0 } := fun d hd => absurd hd (hno d)
    refine evC_sound (cx := H) (w0 := w0) (N := N) (SoundC.star (P := P)) (SoundX.star (P := P)) hm hS' _ L c _ _ _ ec hc _ _ w M β (fun e' s' => e' = e ∧ s' = st') hHas (sr_start _ hS hO hD args vs hl hr (Nat.le_of_ble_eq_true hn)) (h2 _ ⟨rfl, rfl⟩) _ ?_
    rintro e' s' a' w' M' β' ⟨rfl, rfl⟩ hHs hSR0
    obtain ⟨β3, hSR⟩ : ∃ β3, SR H w0 N fn.ntmps (keepF (slotsR fn.results.toList) [] s') a' w' M' β3 :=
      ⟨_, (hSR0.keep hS' (slotsR fn.results.toList) [] (fun d hd => absurd hd (hno d))).equiv (keepF_eq (slotsR fn.results.toList) [] s').symm⟩
    obtain ⟨ps, us, q1, q2, q3, q4, q5⟩ := evRes_sound hSR _ _ h4
    subst q1
    have hrun := results_run q5
    have fin : a'.defers = [] ∧ ∃ v, (results fn a'.tmps).run P w' = .ok v w' ∧ ∃ v2 M2 β2, Ending.returned v = .returned v2 ∧ SH (ocons (PV.lst true x, v2) H) w0 N (look [] ([] ++ [])) (fun d => notIn d (([] ++ [] : List (Nat × List PV)).map Prod.fst)) w' M2 β2 := by
      refine ⟨hSR.defs, _, hrun, _, M', β3, rfl, ?_⟩
      match us, q2, q4 with
      | [u], _, q4 =>
        obtain ⟨r1, r2⟩ := q4 0 _ u rfl rfl
        exact leave hSR r1 r2
    rcases h5 with rfl | rfl
    · exact fin
    · exact fin
theorem holdsO_of_ev {P : Program} {C : Oracle} {inl : Nat → Bool} {X : Inl} (hC : SoundC P C) (ih : SoundX P X) (hm : P.follows .mixedOrders = true) (L : Nat) {f : Nat} {fn : Func} (hf : P.funcs[f]? = some fn) {ec : EC} (hc : cFn P inl fn = some ec) {args : List PV} (hn : Nat.ble args.length fn.ntmps = true)
    (ha : allP PV.fx1 args = true) {r : PV} (h : evFnO P C X L fn.results.toList ec args (fun p => p = r)) : HoldsO P f args r := by
  obtain ⟨x, h1, h2⟩ := own_sound hC ih hm L hf hc hn h
  exact ⟨x, h2.symm, fun ob => h1.frame rfl fun p hp _ _ _ _ _ hr _ _ => hr.fx1 (allP_mem ha p hp)⟩
end Go.Proofs.YtpdlcbmnmeihoaaGreatDoor.Ev
namespace Go.Proofs.YtpdlcbmnmeihoaaGreatDoor.Ev
open Go Go.RowKit Go.ChangeShapes Go.WideShapes Go.ChangeAt
def contig (P : Program) (tot : Nat) : List Field → Nat → Bool
  | [], o => Nat.beq o tot
  | f :: r, o => Nat.beq f.offset o && contig P tot r (o + P.cellsOf f.type)
/-- data of a type -/
def Shps (S : TypeId → List PV → Prop) : List TypeId → List PV → Prop
  | [], l => l = []
  | t :: r, l => ∃ a b, l = a ++ b ∧ S t a ∧ Shps S r b
def Shp (P : Program) : Nat → TypeId → List PV → Prop
  | 0, _, _ => False
  | n + 1, t, l => match P.underlying t with
    | some .bool => ∃ b, l = [.val (.bool b)]
    | some (.int k) => ∃ n, l = [.val (.int k n)] ∧ (Lit.int k n).wf = true
    | some .string => ∃ s, l = [.val (.string s)] ∧ s.size ≤ maxLen
    | some (.slice e) => ∃ x : LX, l = [.lst false x] ∧ x.e = e ∧ x.len ≤ maxLen ∧ ∀ i, i < x.len → Shp P n e (x.row i)
    | some (.struct fs) => Shps (Shp P n) (fs.toList.map (·.type)) l
    | some (.array k e) => Shps (Shp P n) (List.replicate k e) l
    | _ => False
/-- types that the rows are laid for -/
def okIn (t : Nat) : List Nat → Bool
  | [] => false
  | a :: r => match Nat.beq a t with
    | true => true
    | false => okIn t r
def okTy (P : Program) (L : List Nat) (t : TypeId) : Bool := match P.underlying t with
  | some .bool => true
  | some (.int _) => true
  | some .string => true
  | some (.slice e) => okIn e L && (LX.nil e).isSome
  | some (.struct fs) => contig P (P.cellsOf t) fs.toList 0 && fs.toList.all fun f => okIn f.type L
  | some (.array k e) => okIn e L && Nat.beq (P.cellsOf t) (k * P.cellsOf e)
  | _ => false
def okAll (P : Program) (L : List Nat) : Bool := L.all (okTy P L)
theorem okIn_mem {t : Nat} : ∀ {L : List Nat}, okIn t L = true → t ∈ L
  | [], h => by cases h
  | a :: r, h => by
    simp only [okIn] at h
    cases hb : Nat.beq a t with
    | true => have := nat_beq hb; subst this; simp
    | false => rw [hb] at h; exact List.mem_cons_of_mem _ (okIn_mem h)
/-- rows that read so are a row of data -/
def MkRows (P : Program) (L : List Nat) : Prop := ∀ (e n m : Nat) (f : Nat → List PV), e ∈ L → (LX.nil e).isSome = true → (∀ i, i < m → Shp P n e (f i)) → ∃ x : LX, x.e = e ∧ x.len = m ∧ x.sz = P.cellsOf e ∧ ∀ i, i < m → x.row i = f i
abbrev RelN (w : World) (p : PV) (v : Value) : Prop := Rel w (fun _ => none) (fun _ => none) (fun b => b < w.heap.size) p v
def Rd (w : World) (l : List PV) (cs : List Value) : Prop :=
  l.length = cs.length ∧ ∀ (i : Nat) (p : PV) (v : Value), l[i]? = some p → cs[i]? = some v → RelN w p v ∧ v.oneCell' = true
theorem Rd.nil (w : World) : Rd w [] [] := ⟨rfl, fun i p v h => by simp at h⟩
theorem Rd.one {w : World} {p : PV} {v : Value} (h : RelN w p v) (h1 : v.oneCell' = true) : Rd w [p] [v] := by
  refine ⟨rfl, fun i q u hq hu => ?_⟩
  cases i with
  | zero => simp at hq hu; subst hq; subst hu; exact ⟨h, h1⟩
  | succ i => simp at hq
theorem Rd.append {w : World} {l m : List PV} {cs ds : List Value} (h : Rd w l cs) (h' : Rd w m ds) : Rd w (l ++ m) (cs ++ ds) := by
  refine ⟨by simp [h.1, h'.1], fun i p v hp hv => ?_⟩
  by_cases hi : i < l.length
  · rw [List.getElem?_append_left hi] at hp
    rw [List.getElem?_append_left (h.1 ▸ hi)] at hv
    exact h.2 i p v hp hv
  · rw [List.getElem?_append_right (by omega)] at hp
    rw [List.getElem?_append_right (by have := h.1; omega), ← h.1] at hv
    exact h'.2 _ p v hp hv
def LeI (p q : PV) : Prop := ∀ (w : World) (M : Mut) (β : Loc) (B : Nat → Prop) (v : Value), Rel w M β B p v → Rel w M β B q v
theorem Holds.le {P : Program} {f : Nat} {args : List PV} {r r' : PV} (h : Holds P f args r) (hr : LeI r r') : Holds P f args r' :=
  fun w N vs h1 h2 h3 h4 => (h w N vs h1 h2 h3 h4).mono fun _ _ ⟨v, e, hv, hb⟩ => ⟨v, e, hr _ _ _ _ _ hv, hb⟩
theorem Holds.args {P : Program} {f : Nat} {args args' : List PV} {r : PV} (h : Holds P f args' r) (hl : args.length = args'.length) (ha : ∀ (i : Nat) (p q : PV), args[i]? = some p → args'[i]? = some q → LeI p q) : Holds P f args r := by
  intro w N vs h1 h2 h3 h4
  refine h w N vs (by omega) (fun i q v hq hv => ?_) h3 h4
  have hi : i < args.length := by have := (List.getElem?_eq_some_iff.mp hq).1; omega
  exact ha i _ q (List.getElem?_eq_getElem hi) hq _ _ _ _ _ (h2 i _ v (List.getElem?_eq_getElem hi) hv)
theorem LeI.nil {y : LX} {own : Bool} (h : y.len = 0) : LeI (.val (.slice none 0 0)) (.lst own y) := fun _ _ _ _ _ hv => hv.le (.nil own y h)
theorem LeI.view (p : PV) : LeI p p.view := fun _ _ _ _ _ hv => hv.view
theorem LeI.refl (p : PV) : LeI p p := fun _ _ _ _ _ hv => hv
section
variable {H : Type} {enc : TypeId × Value → H} {P : Program} {L : List Nat}
theorem post_below {f : Func} {s : ChangeSpec} {apart fresh handsOn again : Bool} {W W' : World} {args : Array Value} {v : Value} {ds gs : List (DataW H)} {before pa pv : List MemPlace}
    (hW : DataW.Whole enc P f.params.toList s.vars apart W args.toList ds gs before)
    (hres : ∀ (b : Nat) (sp : Nat → Bool) (hd : Bool), DataW.TrodAll enc P W' b sp hd f.resultTypes.toList (v.resultList f.resultTypes.size) (s.fn H (ds ++ gs)).results [])
    (hargs : ∀ sp : Nat → Bool, (∀ p ∈ before, sp p.block = true) → DataW.TrodAll enc P W' 0 sp true f.params.toList args.toList (s.fn H (ds ++ gs)).args pa)
    (hvars : ∀ sp : Nat → Bool, (∀ p ∈ before, sp p.block = true) → DataW.TrodVars enc P W' sp s.vars (s.fn H (ds ++ gs)).vars pv)
    (hps : before = pa ++ pv) (hb : Below W.heap.size W W')
    (hok : ∀ (j : Nat) (t : TypeId) (r : Value), f.resultTypes[j]? = some t → (v.resultList f.resultTypes.size)[j]? = some r → Value.okWide P W' .any 0 t r) :
    s.post enc P f apart fresh handsOn again W args v W' := by
  have hlt : ∀ p ∈ before, p.block < W.heap.size := fun p hp => hW.lt p hp
  have hold : ∀ p ∈ before, (fun b => decide (b < W.heap.size)) p.block = true := fun p hp => by simpa using hlt p hp
  refine ⟨ds, gs, before, [], pa, pv, hW, hres _ _ _, hargs _ hold, hvars _ hold, World.keptBut_mono (fun p hp => ⟨hp, ?_⟩) (hb.frame (· ∈ before)), fun _ => ?_⟩
  · rw [hps, List.mem_append] at hp
    exact Or.inr hp
  · obtain ⟨_, _, _, _, _, hz, hn⟩ := hW
    refine ⟨hok, _, _, ([] ++ pa) ++ pv, ⟨[] ++ pa, pv, trodAll_append (hargs _ (fun _ _ => rfl)) (hres _ _ _), hvars _ (fun _ _ => rfl), rfl, ?_, ?_⟩, ?_⟩
    · intro b off hp
      have hin : MemPlace.cell b off ∈ before := by rw [hps]; simpa using hp
      rw [hb.frozen (hlt _ hin)]
      exact hz b off hin
    · intro ha
      have := hn ha
      rw [hps] at this
      simpa using this
    · intro p hp _
      rw [hps]
      simpa using hp
/-- a parameter's type: is it all that the frame asks? -/
def parOK (P : Program) (L : List Nat) (t : TypeId) : Bool :=
  okIn t L && P.readableRec t && decide (t < P.types.size)
theorem noAgg {W : World} {r : Go.Reach} {base : Nat} {t : TypeId} {v : Value} (hk : okTy P L t = true) (hv : Value.okWide P W r base t v) :
    (∃ cs, ((∃ fs, P.underlying t = some (.struct fs)) ∨ ∃ k e, P.underlying t = some (.array k e)) ∧ v = .agg cs) ∨ ((∀ fs, P.underlying t ≠ some (.struct fs)) ∧ (∀ k e, P.underlying t ≠ some (.array k e)) ∧ v.cells.toList = [v] ∧ v.oneCell' = true) := by
  unfold okTy at hk
  cases hu : P.underlying t with
  | none => rw [hu] at hk; cases hk
  | some d =>
    cases d
    case bool => obtain ⟨b, rfl⟩ := okWide_bool hu hv; exact .inr ⟨by simp, by simp, rfl, rfl⟩
    case int k => obtain ⟨b, rfl⟩ := okWide_int hu hv; exact .inr ⟨by simp, by simp, rfl, rfl⟩
    case string => obtain ⟨b, rfl⟩ := okWide_string hu hv; exact .inr ⟨by simp, by simp, rfl, rfl⟩
    case slice e => obtain ⟨a, l, c, rfl⟩ := okWide_slice hu hv; exact .inr ⟨by simp, by simp, rfl, rfl⟩
    case struct fs =>
      simp only [Value.okWide, hu] at hv
      obtain ⟨cs, rfl, _⟩ := hv
      exact .inl ⟨cs, .inl ⟨_, rfl⟩, rfl⟩
    case array k e =>
      simp only [Value.okWide, hu] at hv
      obtain ⟨cs, rfl, _⟩ := hv
      exact .inl ⟨cs, .inr ⟨_, _, rfl⟩, rfl⟩
    all_goals (rw [hu] at hk; cases hk)
theorem argsStay {W W' : World} (hl : laidOutB P = true) (hb : Below W.heap.size W W') {sp : Nat → Bool} :
    ∀ (ts : List TypeId) (vs : List Value) (ds : List (DataW H)) (ps : List MemPlace), (∀ t ∈ ts, P.readableRec t = true ∧ t < P.types.size) →
      DataW.TrodAll enc P W 0 (fun _ => true) true ts vs ds ps → (∀ p ∈ ps, p.block < W.heap.size) → (∀ p ∈ ps, sp p.block = true) →
      DataW.TrodAll enc P W' 0 sp true ts vs ds ps
  | [], vs, ds, ps, _, h, _, _ => by
    obtain ⟨rfl, rfl, rfl⟩ := trodAll_nil h
    exact rfl
  | t :: ts, vs, ds, ps, hk, h, hlt, hsp => by
    obtain ⟨v, vs', d, ds', p, q, rfl, rfl, rfl, h1, h2⟩ := trodAll_cons h
    have ht := hk t (by simp)
    exact trodAll_cons_mk (WideElems.Trod_stays hl ht.1 ht.2 h1 (fun x hx => hb.same (hlt x (by simp [hx]))) (fun x hx => hsp x (by simp [hx])))
      (argsStay hl hb ts vs' ds' q (fun t ht => hk t (by simp [ht])) h2 (fun x hx => hlt x (by simp [hx])) (fun x hx => hsp x (by simp [hx])))
end
end Go.Proofs.YtpdlcbmnmeihoaaGreatDoor.Ev
