/-  Operations one behind the other. -/
import Derived.Test.YtflfeikkcpcdiaaEvI
namespace Go.Proofs.Ytflfeikkcpcdiaa.Ev
open Go Go.RowKit
set_option linter.unusedVariables false
set_option linter.unusedSimpArgs false
set_option linter.unnecessarySimpa false

def SoundC (P : Program) (C : Oracle) : Prop := ∀ f args k, C f args k → ∃ r, Holds P f args r ∧ k r

section
variable {P : Program} {C : Oracle} {ban : List Nat}

theorem fillN_pick (st : St) : ∀ (ps : List (Nat × Nat × Operand)) (cells : List PV) (k : List PV → Prop), fillN st cells ps k → ∃ l, k l ∧ ∀ k' : List PV → Prop, k' l → fillN st cells ps k' := by
  intro ps
  induction ps with
  | nil => intro cells k h; exact ⟨cells, h, fun k' h' => h'⟩
  | cons p ps ih =>
    obtain ⟨off, sz, x⟩ := p
    intro cells k h
    simp only [fillN] at h ⊢
    cases g1 : lenIs (st.opd x).cells sz <;> cases g2 : ones (st.opd x).cells <;> cases g3 : lenGe cells (off + sz) <;> simp only [g1, g2, g3] at h ⊢ <;> first | exact h.elim | exact ih _ _ h

theorem elems_pick (st : St) (sz : Nat) : ∀ (ps : List Operand) (k : List (List PV) → Prop), elems st sz ps k → ∃ l, k l ∧ ∀ k' : List (List PV) → Prop, k' l → elems st sz ps k' := by
  intro ps
  induction ps with
  | nil => intro k h; exact ⟨[], h, fun k' h' => h'⟩
  | cons x ps ih =>
    intro k h
    simp only [elems] at h ⊢
    cases g1 : lenIs (st.opd x).cells sz <;> cases g2 : ones (st.opd x).cells <;> simp only [g1, g2] at h ⊢ <;> first
      | exact h.elim
      | (obtain ⟨l, h1, h2⟩ := ih _ h; exact ⟨_, h1, fun k' hk => h2 (fun l => k' ((st.opd x).cells :: l)) hk⟩)

theorem pureRun_pick {α : Type} : ∀ (s : Sem α) (k : α → Prop), pureRun P s k → ∃ x, k x ∧ ∀ k' : α → Prop, k' x → pureRun P s k' := by
  intro s
  induction s with
  | pure a => intro k h; exact ⟨a, h, fun k' h' => h'⟩
  | program f ih => intro k h; exact ih P k h
  | _ => intro k h; exact h.elim

theorem step_star (hC : SoundC P C) (o : K) (d : Option Nat) (st : St) (k : Delta → Prop) (h : stepD P C ban o d st k) : ∃ δ, k δ ∧ ∀ k' : Delta → Prop, k' δ → stepD P (CStar P) ban o d st k' := by
  cases o with
  | move x => exact ⟨_, h, fun k' h' => h'⟩
  | take s => cases d with
    | none => exact h.elim
    | some d => exact ⟨_, h, fun k' h' => h'⟩
  | pick c x y =>
    simp only [stepD] at h ⊢
    cases hq : st.opd c with
    | val v =>
      rw [hq] at h
      cases v with
      | bool t => cases t <;> exact ⟨_, h, fun k' h' => h'⟩
      | _ => exact h.elim
    | _ => rw [hq] at h; exact h.elim
  | alloc z =>
    simp only [stepD] at h ⊢
    cases d with
    | none => exact h.elim
    | some s =>
      simp only at h ⊢
      cases g1 : notIn s (st.ob.map Prod.fst) <;> cases g2 : ones (z.map PV.val) <;> simp only [g1, g2] at h ⊢ <;> first | exact h.elim | exact ⟨_, h, fun k' h' => h'⟩
  | box x =>
    simp only [stepD] at h ⊢
    cases d with
    | none => exact h.elim
    | some s =>
      simp only at h ⊢
      cases g1 : notIn s (st.ob.map Prod.fst) <;> cases g2 : ones (st.opd x).cells <;> simp only [g1, g2] at h ⊢ <;> first | exact h.elim | exact ⟨_, h, fun k' h' => h'⟩
  | build z parts =>
    simp only [stepD] at h ⊢
    cases g1 : ones (z.map PV.val) with
    | false => rw [g1] at h; exact h.elim
    | true =>
      simp only [g1] at h ⊢
      obtain ⟨l, h1, h2⟩ := fillN_pick st _ _ _ h
      exact ⟨_, h1, fun k' hk => h2 (fun l => k' (dput d (.agg l))) hk⟩
  | bslice e sz parts =>
    simp only [stepD] at h ⊢
    obtain ⟨l, h1, h2⟩ := elems_pick st _ _ _ h
    exact ⟨_, h1, fun k' hk => h2 (fun l => k' (dput d (.sl true e sz l))) hk⟩
  | load g sz x =>
    simp only [stepD] at h ⊢
    cases hq : st.opd x with
    | loc b off =>
      rw [hq] at h
      simp only at h ⊢
      cases g1 : notIn b ban <;> cases g2 : lenGe ((st.obj b).drop off) sz <;> simp only [g1, g2] at h ⊢ <;> first | exact h.elim | exact ⟨_, h, fun k' h' => h'⟩
    | ref l =>
      rw [hq] at h
      simp only at h ⊢
      cases g2 : lenGe l sz <;> simp only [g2] at h ⊢ <;> first | exact h.elim | exact ⟨_, h, fun k' h' => h'⟩
    | _ => rw [hq] at h; exact h.elim
  | store sz x y =>
    simp only [stepD] at h ⊢
    cases hq : st.opd x with
    | loc b off =>
      rw [hq] at h
      simp only at h ⊢
      cases g1 : lenIs (st.opd y).cells sz <;> cases g2 : ones (st.opd y).cells <;> cases g3 : lenGe (st.obj b) (off + sz) <;> simp only [g1, g2, g3] at h ⊢ <;> first | exact h.elim | exact ⟨_, h, fun k' h' => h'⟩
    | _ => rw [hq] at h; exact h.elim
  | scal o =>
    simp only [stepD, scalK] at h ⊢
    cases g1 : allVal st o.op.operands.toList with
    | false => rw [g1] at h; exact h.elim
    | true =>
      simp only [g1] at h ⊢
      obtain ⟨n, h1, h2⟩ := pureRun_pick _ _ h
      cases n with
      | value v =>
        simp only at h1
        cases g2 : oneV v with
        | false => rw [g2] at h1; exact h1.elim
        | true =>
          simp only [g2] at h1
          exact ⟨_, h1, fun k' hk => h2 _ (by simp only [g2]; exact hk)⟩
      | _ => exact h1.elim
  | bin2 tag x y =>
    simp only [stepD] at h ⊢
    split at h
    · rename_i u v hx hy
      split at h
      · rename_i c r hb
        cases c with
        | true => exact ⟨_, h, fun k' h' => h'⟩
        | false => exact h.elim
      · exact h.elim
    · exact h.elim
  | eqA neg ts x y =>
    simp only [stepD] at h ⊢
    split at h
    · rename_i xs ys hx hy
      split at h
      · rename_i t ht
        cases neg <;> exact ⟨_, h, fun k' h' => h'⟩
      · exact h.elim
    · exact h.elim
  | field off x =>
    simp only [stepD] at h ⊢
    cases hq : st.opd x with
    | loc b o => rw [hq] at h; exact ⟨_, h, fun k' h' => h'⟩
    | ref l => rw [hq] at h; exact ⟨_, h, fun k' h' => h'⟩
    | _ => rw [hq] at h; exact h.elim
  | index sz x i =>
    simp only [stepD] at h ⊢
    cases hq : st.opd x with
    | sl own e sz' es =>
      cases hq' : st.opd i with
      | val v =>
        cases v with
        | int kk n =>
          rw [hq, hq'] at h
          simp only at h ⊢
          cases g1 : Nat.beq sz sz' with
          | false => rw [g1] at h; exact h.elim
          | true =>
            simp only [g1] at h ⊢
            obtain ⟨h1, c, h2, h3⟩ := h
            exact ⟨_, h3, fun k' h' => ⟨h1, c, h2, h'⟩⟩
        | _ => rw [hq, hq'] at h; exact h.elim
      | _ => rw [hq, hq'] at h; exact h.elim
    | arr e sz' m f =>
      cases hq' : st.opd i with
      | val v =>
        cases v with
        | int kk n =>
          rw [hq, hq'] at h
          simp only at h ⊢
          cases g1 : Nat.beq sz sz' with
          | false => rw [g1] at h; exact h.elim
          | true =>
            simp only [g1] at h ⊢
            obtain ⟨h1, h2, h3⟩ := h
            exact ⟨_, h3, fun k' h' => ⟨h1, h2, h'⟩⟩
        | _ => rw [hq, hq'] at h; exact h.elim
      | _ => rw [hq, hq'] at h; exact h.elim
    | _ => rw [hq] at h; exact h.elim
  | len x =>
    simp only [stepD] at h ⊢
    cases hq : st.opd x with
    | sl own e sz' es => rw [hq] at h; exact ⟨_, h, fun k' h' => h'⟩
    | arr e sz' m f => rw [hq] at h; exact ⟨_, h, fun k' h' => h'⟩
    | val v =>
      rw [hq] at h
      cases v with
      | slice A n c => exact ⟨_, h, fun k' h' => h'⟩
      | _ => exact h.elim
    | _ => rw [hq] at h; exact h.elim
  | app e sz by_ s x =>
    simp only [stepD] at h ⊢
    cases d with
    | none => exact h.elim
    | some d =>
      simp only at h ⊢
      split at h
      · rename_i e' sz' es own e2' sz'' ys hgs hgx
        cases c1 : Nat.beq e e' <;> cases c2 : Nat.beq sz sz' <;> cases c3 : Nat.beq sz sz'' <;> simp only [c1, c2, c3] at h ⊢ <;> first | exact h.elim | exact ⟨_, h.2.2, fun k' hk => ⟨h.1, h.2.1, hk⟩⟩
      · rename_i own e2' sz'' ys hgs hgx
        cases c3 : Nat.beq sz sz'' <;> simp only [c3] at h ⊢ <;> first | exact h.elim | exact ⟨_, h.2.2, fun k' hk => ⟨h.1, h.2.1, hk⟩⟩
      · exact h.elim
  | call f args =>
    simp only [stepD] at h ⊢
    cases g1 : locsOk st ban args with
    | false => rw [g1] at h; exact h.elim
    | true =>
      simp only [g1] at h ⊢
      obtain ⟨r, h1, h2⟩ := hC _ _ _ h
      exact ⟨_, h2, fun k' hk => ⟨r, h1, hk⟩⟩
  | extract x i =>
    simp only [stepD] at h ⊢
    cases hq : st.opd x with
    | tup l =>
      rw [hq] at h
      simp only at h ⊢
      cases g1 : lenGe l (i + 1) <;> simp only [g1] at h ⊢ <;> first | exact h.elim | exact ⟨_, h, fun k' h' => h'⟩
    | _ => rw [hq] at h; exact h.elim
  | nil x =>
    simp only [stepD] at h ⊢
    cases hq : st.opd x with
    | loc b o => rw [hq] at h; exact ⟨_, h, fun k' h' => h'⟩
    | ref l => rw [hq] at h; exact ⟨_, h, fun k' h' => h'⟩
    | _ => rw [hq] at h; exact h.elim

/-- what an operation reads is the same in both states -/
structure Agree (ban : List Nat) (o : K) (d : Option Nat) (st st' : St) : Prop where
  opd : ∀ x ∈ o.opds, st'.opd x = st.opd x
  obj : o.heapy = true → ∀ b, (o.isStore = true ∨ notIn b ban = true) → (∀ a, o.addr = some a → ∃ off, st.get a = .loc b off) → st'.obj b = st.obj b
  key : o.makes = true → ∀ s, d = some s → notIn s (st.ob.map Prod.fst) = true → notIn s (st'.ob.map Prod.fst) = true
  sel : ∀ o', o = .scal o' → ∀ cs b, o'.op ≠ .select cs b

theorem fillN_agree {st st' : St} : ∀ (ps : List (Nat × Nat × Operand)) (cells : List PV) (k : List PV → Prop), (∀ x ∈ ps.map (fun p => p.2.2), st'.opd x = st.opd x) → fillN st cells ps k → fillN st' cells ps k := by
  intro ps
  induction ps with
  | nil => intro cells k _ h; exact h
  | cons p ps ih =>
    obtain ⟨off, sz, x⟩ := p
    intro cells k hx h
    have h1 : st'.opd x = st.opd x := hx x (by simp)
    simp only [fillN] at h ⊢
    rw [h1]
    cases g1 : lenIs (st.opd x).cells sz <;> cases g2 : ones (st.opd x).cells <;> cases g3 : lenGe cells (off + sz) <;> simp only [g1, g2, g3] at h ⊢ <;> first
      | exact h.elim
      | exact ih _ _ (fun y hy => hx y (by simp only [List.map_cons]; exact List.mem_cons_of_mem _ hy)) h

theorem elems_agree {st st' : St} (sz : Nat) : ∀ (ps : List Operand) (k : List (List PV) → Prop), (∀ x ∈ ps, st'.opd x = st.opd x) → elems st sz ps k → elems st' sz ps k := by
  intro ps
  induction ps with
  | nil => intro k _ h; exact h
  | cons x ps ih =>
    intro k hx h
    have h1 : st'.opd x = st.opd x := hx x (by simp)
    simp only [elems] at h ⊢
    rw [h1]
    cases g1 : lenIs (st.opd x).cells sz <;> cases g2 : ones (st.opd x).cells <;> simp only [g1, g2] at h ⊢ <;> first
      | exact h.elim
      | exact ih _ (fun y hy => hx y (List.mem_cons_of_mem _ hy)) h

theorem allVal_agree {st st' : St} : ∀ (l : List Operand), (∀ x ∈ l, st'.opd x = st.opd x) → allVal st' l = allVal st l := by
  intro l
  induction l with
  | nil => intro _; rfl
  | cons x l ih =>
    intro h
    simp only [allVal]
    rw [h x (by simp), ih (fun y hy => h y (List.mem_cons_of_mem _ hy))]

theorem locsOk_agree {st st' : St} : ∀ (l : List Operand), (∀ x ∈ l, st'.opd x = st.opd x) → locsOk st' ban l = locsOk st ban l := by
  intro l
  induction l with
  | nil => intro _; rfl
  | cons x l ih =>
    intro h
    have h1 := ih (fun y hy => h y (List.mem_cons_of_mem _ hy))
    cases ban with
    | nil => rfl
    | cons c r =>
      simp only [locsOk]
      rw [h x (by simp)]
      cases hq : st.opd x <;> first | exact h1 | (simp only [h1])

theorem locsOk_mem {st : St} : ∀ (l : List Operand), locsOk st ban l = true → ∀ x ∈ l, ∀ b off, st.opd x = .loc b off → notIn b ban = true := by
  intro l
  induction l with
  | nil => intro _ x hx; cases hx
  | cons y l ih =>
    intro h x hx b off hb
    cases hban : ban with
    | nil => rfl
    | cons c r =>
      rw [hban] at h
      simp only [locsOk] at h
      rcases List.mem_cons.1 hx with e | e
      · subst e
        rw [hb] at h
        simp only at h
        cases g : notIn b (c :: r) with
        | true => rfl
        | false => rw [g] at h; cases h
      · have hl : locsOk st (c :: r) l = true := by
          cases hy : st.opd y with
          | loc b' off' =>
            rw [hy] at h
            simp only at h
            cases g : notIn b' (c :: r) with
            | true => rw [g] at h; exact h
            | false => rw [g] at h; cases h
          | _ => rw [hy] at h; exact h
        rw [← hban] at hl ⊢
        exact ih hl x e b off hb

theorem step_agree {o : K} {d : Option Nat} {st st' : St} (hA : Agree ban o d st st') {k : Delta → Prop} (h : stepD P (CStar P) ban o d st k) : stepD P (CStar P) ban o d st' k := by
  cases o with
  | move x =>
    simp only [stepD] at h ⊢
    rw [hA.opd x (by simp [K.opds])]; exact h
  | take s =>
    simp only [stepD] at h ⊢
    have : st'.get s = st.get s := hA.opd (.tmp s) (by simp [K.opds])
    rw [this]; exact h
  | pick c x y =>
    simp only [stepD] at h ⊢
    rw [hA.opd c (by simp [K.opds]), hA.opd x (by simp [K.opds]), hA.opd y (by simp [K.opds])]; exact h
  | alloc z =>
    simp only [stepD] at h ⊢
    cases d with
    | none => exact h
    | some s =>
      simp only at h ⊢
      cases g1 : notIn s (st.ob.map Prod.fst) with
      | false => rw [g1] at h; exact h.elim
      | true => rw [g1] at h; rw [hA.key rfl s rfl g1]; exact h
  | box x =>
    simp only [stepD] at h ⊢
    rw [hA.opd x (by simp [K.opds])]
    cases d with
    | none => exact h
    | some s =>
      simp only at h ⊢
      cases g1 : notIn s (st.ob.map Prod.fst) with
      | false => rw [g1] at h; exact h.elim
      | true => rw [g1] at h; rw [hA.key rfl s rfl g1]; exact h
  | build z parts =>
    simp only [stepD] at h ⊢
    cases g1 : ones (z.map PV.val) <;> simp only [g1] at h ⊢
    exact fillN_agree _ _ _ (fun x hx => hA.opd x hx) h
  | bslice e sz parts =>
    simp only [stepD] at h ⊢
    exact elems_agree _ _ _ (fun x hx => hA.opd x hx) h
  | load g sz x =>
    simp only [stepD] at h ⊢
    rw [hA.opd x (by simp [K.opds])]
    cases hq : st.opd x with
    | loc b off =>
      rw [hq] at h
      simp only at h ⊢
      cases g1 : notIn b ban with
      | false => rw [g1] at h; exact h.elim
      | true =>
        rw [g1] at h
        rw [hA.obj rfl b (.inr g1) (fun a ha => by
          cases x with
          | tmp t => simp only [K.addr, Option.some.injEq] at ha; subst ha; exact ⟨off, hq⟩
          | _ => cases ha)]
        exact h
    | _ => rw [hq] at h; exact h
  | store sz x y =>
    simp only [stepD] at h ⊢
    rw [hA.opd x (by simp [K.opds]), hA.opd y (by simp [K.opds])]
    cases hq : st.opd x with
    | loc b off =>
      rw [hq] at h
      simp only at h ⊢
      rw [hA.obj rfl b (.inl rfl) (fun a ha => by
        cases x with
        | tmp t => simp only [K.addr, Option.some.injEq] at ha; subst ha; exact ⟨off, hq⟩
        | _ => cases ha)]
      exact h
    | _ => rw [hq] at h; exact h
  | scal o =>
    simp only [stepD, scalK] at h ⊢
    rw [allVal_agree o.op.operands.toList (fun x hx => hA.opd x hx)]
    have : execOp st'.valOf o = execOp st.valOf o := execOp_congr o (hA.sel o rfl) (fun x hx => by
      have := hA.opd x (by simpa [K.opds] using hx)
      simp only [St.valOf, this])
    rw [this]; exact h
  | bin2 tag x y =>
    simp only [stepD] at h ⊢
    rw [hA.opd x (by simp [K.opds]), hA.opd y (by simp [K.opds])]; exact h
  | eqA neg ts x y =>
    simp only [stepD] at h ⊢
    rw [hA.opd x (by simp [K.opds]), hA.opd y (by simp [K.opds])]; exact h
  | field off x =>
    simp only [stepD] at h ⊢
    rw [hA.opd x (by simp [K.opds])]; exact h
  | index sz x i =>
    simp only [stepD] at h ⊢
    rw [hA.opd x (by simp [K.opds]), hA.opd i (by simp [K.opds])]; exact h
  | len x =>
    simp only [stepD] at h ⊢
    rw [hA.opd x (by simp [K.opds])]; exact h
  | app e sz by_ s x =>
    simp only [stepD] at h ⊢
    have : st'.get s = st.get s := hA.opd (.tmp s) (by simp [K.opds])
    rw [hA.opd x (by simp [K.opds]), this]; exact h
  | call f args =>
    simp only [stepD] at h ⊢
    rw [locsOk_agree args (fun x hx => hA.opd x hx)]
    cases g1 : locsOk st ban args with
    | false => rw [g1] at h; exact h.elim
    | true =>
      rw [g1] at h
      have : args.map (fun x => snap st' (st'.opd x)) = args.map (fun x => snap st (st.opd x)) := by
        apply List.map_congr_left
        intro x hx
        rw [hA.opd x hx]
        cases hq : st.opd x with
        | loc b off => simp only [snap]; rw [hA.obj rfl b (.inr (locsOk_mem _ g1 x hx b off hq)) (fun a ha => by cases ha)]
        | _ => rfl
      rw [this]; exact h
  | extract x i =>
    simp only [stepD] at h ⊢
    rw [hA.opd x (by simp [K.opds])]; exact h
  | nil x =>
    simp only [stepD] at h ⊢
    rw [hA.opd x (by simp [K.opds])]; exact h

end
end Go.Proofs.Ytflfeikkcpcdiaa.Ev
