/-  What an operation reads and writes. -/
import Derived.Test.YtonfmpiikdmndaaGreatFj
namespace Go.Proofs.YtonfmpiikdmndaaGreat.Ev
open Go Go.RowKit
set_option linter.unusedVariables false
set_option linter.unusedSimpArgs false
set_option linter.unnecessarySimpa false
def aOf : Operand → Option Nat
  | .tmp a => some a
  | _ => none
/-- does it point into this variable? -/
def At (p : PV) (b : Nat) : Prop := (∃ off, p = .loc b off) ∨ ∃ sz i off, p = .el b sz i off
section
variable {P : Program} {C : Oracle} {X : Inl} {ban : List Nat}
theorem HoldsI.congr {f : Nat} {args : List PV} {ob ob' : List (Nat × List PV)} {r : PV} {o' : List (Nat × List PV)} (h : HoldsI P f args ob r o') (h1 : ∀ d, look [] ob' d = look [] ob d) (h2 : ∀ d, notIn d (ob'.map Prod.fst) = notIn d (ob.map Prod.fst)) :
    HoldsI P f args ob' r o' := by
  intro κ H w0 w N M β O D vs hO hD hS hl hr
  refine Calls.mono (h H w0 w N M β O D vs (fun d => by rw [hO, h1]) (fun d => by rw [hD, h2]) hS hl hr) ?_
  rintro e w' ⟨v, M', β', he, hS'⟩
  refine ⟨v, M', β', he, ?_⟩
  have e1 : look [] (o' ++ ob') = look [] (o' ++ ob) := funext fun d => by rw [look_app, look_app, h1]
  have e2 : (fun d => notIn d ((o' ++ ob').map Prod.fst)) = fun d => notIn d ((o' ++ ob).map Prod.fst) := funext fun d => by rw [List.map_append, List.map_append, notIn_app, notIn_app, h2]
  rw [e1, e2]; exact hS'
theorem HoldsI.norm {f : Nat} {args : List PV} {ob : List (Nat × List PV)} {r : PV} {o' : List (Nat × List PV)} (h : HoldsI P f args ob r o') : HoldsI P f args ob r (normO o') := by
  intro κ H w0 w N M β O D vs hO hD hS hl hr
  refine Calls.mono (h H w0 w N M β O D vs hO hD hS hl hr) ?_
  rintro e w' ⟨v, M', β', he, hS'⟩
  refine ⟨v, M', β', he, ?_⟩
  have e1 : look [] (normO o' ++ ob) = look [] (o' ++ ob) := funext fun d => by rw [look_app, look_app, normO_look]; simp only [normO_mem]
  have e2 : (fun d => notIn d ((normO o' ++ ob).map Prod.fst)) = fun d => notIn d ((o' ++ ob).map Prod.fst) := funext fun d => by rw [List.map_append, List.map_append, notIn_app, notIn_app, normO_key]
  rw [e1, e2]; exact hS'
/-- what an operation reads is the same in both states -/
structure Agree (ban : List Nat) (o : K) (d : Option Nat) (st st' : St) : Prop where
  opd : ∀ x ∈ o.opds, st'.opd x = st.opd x
  obj : o.heapy = true → o.isLoad = false → ∀ b, (o.isStore = true ∨ notIn b ban = true) → (∀ a, o.addr = some a → At (st.get a) b) → st'.obj b = st.obj b
  vob : o.isLoad = true → ∀ b, notIn b ban = true → (∀ a, o.addr = some a → At (st.get a) b) → st'.vobj b = st.vobj b
  key : o.makes = true → ∀ s, d = some s → notIn (st.base + s) (st.ob.map Prod.fst) = true → notIn (st.base + s) (st'.ob.map Prod.fst) = true
  sel : ∀ o', o = .scal o' → ∀ cs b, o'.op ≠ .select cs b
  base : st'.base = st.base
  wild : o.wild = true → (∀ b, st'.obj b = st.obj b) ∧ ∀ b, notIn b (st'.ob.map Prod.fst) = notIn b (st.ob.map Prod.fst)
theorem fillN_agree {st st' : St} : ∀ (ps : List (Nat × Nat × Operand)) (cells : List PV) (k : List PV → Prop), (∀ x ∈ ps.map (fun p => p.2.2), st'.opd x = st.opd x) → fillN st cells ps k → fillN st' cells ps k := by
  intro ps
  induction ps with
  | nil => intro cells k _ h; exact h
  | cons p ps ih =>
    obtain ⟨off, sz, x⟩ := p
    intro cells k hx h
    have h1 : st'.opd x = st.opd x := hx x (by simp)
    simp only [fillN] at h ⊢
    rw [h1]
    cases g1 : lenIs (st.opd x).cells sz <;> cases g2 : ones (st.opd x).cells <;> cases g3 : lenGe cells (off + sz) <;> simp only [g1, g2, g3] at h ⊢ <;> first
      | exact h.elim
      | exact ih _ _ (fun y hy => hx y (by simp only [List.map_cons]; exact List.mem_cons_of_mem _ hy)) h
theorem elems_agree {st st' : St} (sz : Nat) : ∀ (ps : List Operand) (k : List (List PV) → Prop), (∀ x ∈ ps, st'.opd x = st.opd x) → elems st sz ps k → elems st' sz ps k := by
  intro ps
  induction ps with
  | nil => intro k _ h; exact h
  | cons x ps ih =>
    intro k hx h
    have h1 : st'.opd x = st.opd x := hx x (by simp)
    simp only [elems] at h ⊢
    rw [h1]
    cases g1 : lenIs (st.opd x).cells sz <;> cases g2 : ones (st.opd x).cells <;> simp only [g1, g2] at h ⊢ <;> first
      | exact h.elim
      | exact ih _ (fun y hy => hx y (List.mem_cons_of_mem _ hy)) h
theorem allVal_agree {st st' : St} : ∀ (l : List Operand), (∀ x ∈ l, st'.opd x = st.opd x) → allVal st' l = allVal st l := by
  intro l
  induction l with
  | nil => intro _; rfl
  | cons x l ih =>
    intro h
    simp only [allVal]
    rw [h x (by simp), ih (fun y hy => h y (List.mem_cons_of_mem _ hy))]
theorem locsOk_agree {st st' : St} : ∀ (l : List Operand), (∀ x ∈ l, st'.opd x = st.opd x) → locsOk st' ban l = locsOk st ban l := by
  intro l
  induction l with
  | nil => intro _; rfl
  | cons x l ih =>
    intro h
    have h1 := ih (fun y hy => h y (List.mem_cons_of_mem _ hy))
    cases ban with
    | nil => rfl
    | cons c r =>
      simp only [locsOk]
      rw [h x (by simp)]
      cases hq : st.opd x <;> first | exact h1 | (simp only [h1])
theorem locsOk_mem {st : St} : ∀ (l : List Operand), locsOk st ban l = true → ∀ x ∈ l, ∀ b off, st.opd x = .loc b off → notIn b ban = true := by
  intro l
  induction l with
  | nil => intro _ x hx; cases hx
  | cons y l ih =>
    intro h x hx b off hb
    cases hban : ban with
    | nil => rfl
    | cons c r =>
      rw [hban] at h
      simp only [locsOk] at h
      rcases List.mem_cons.1 hx with e | e
      · subst e
        rw [hb] at h
        simp only at h
        cases g : notIn b (c :: r) with
        | true => rfl
        | false => rw [g] at h; cases h
      · have hl : locsOk st (c :: r) l = true := by
          cases hy : st.opd y with
          | loc b' off' =>
            rw [hy] at h
            simp only at h
            cases g : notIn b' (c :: r) with
            | true => rw [g] at h; exact h
            | false => rw [g] at h; cases h
          | _ => rw [hy] at h; exact h
        rw [← hban] at hl ⊢
        exact ih hl x e b off hb
theorem bnd_agree {st st' : St} {d : Int} {x : Option Operand} (h : ∀ y ∈ optL x, st'.opd y = st.opd y) : st'.bnd d x = st.bnd d x := by
  cases x with
  | none => rfl
  | some y => simp only [St.bnd]; rw [h y (by simp [optL])]
theorem addr_loc {st : St} {x : Operand} {b off : Nat} (hq : st.opd x = .loc b off) {o : K} (ho : o.addr = aOf x) : ∀ a, o.addr = some a → At (st.get a) b := by
  intro a ha
  cases x with
  | tmp t => rw [ho] at ha; injection ha with ha; subst ha; exact .inl ⟨off, hq⟩
  | _ => rw [ho] at ha; cases ha
theorem addr_el {st : St} {x : Operand} {b sz i off : Nat} (hq : st.opd x = .el b sz i off) {o : K} (ho : o.addr = aOf x) : ∀ a, o.addr = some a → At (st.get a) b := by
  intro a ha
  cases x with
  | tmp t => rw [ho] at ha; injection ha with ha; subst ha; exact .inr ⟨sz, i, off, hq⟩
  | _ => rw [ho] at ha; cases ha
theorem view_pure0 (p : PV) : p.view.pure0 = p.pure0 := by cases p <;> rfl
theorem plain_view : ∀ l : List PV, plain (l.map PV.view) = plain l
  | [] => rfl
  | p :: l => by
    have := plain_view l
    cases p <;> first | exact this | rfl
theorem snap_view {O O' : Nat → List PV} {b off : Nat} (h : (O' b).map PV.view = (O b).map PV.view) : snap O' (.loc b off) = snap O (.loc b off) := by
  have e : ∀ l : List PV, ((l.map PV.view).map PV.pure0) = l.map PV.pure0 := fun l => by
    rw [List.map_map]; exact List.map_congr_left fun p _ => view_pure0 p
  have d : ((O' b).drop off).map PV.view = ((O b).drop off).map PV.view := by rw [List.map_drop, List.map_drop, h]
  have h1 : plain ((O' b).drop off) = plain ((O b).drop off) := by rw [← plain_view, d, plain_view]
  have h2 : ((O' b).drop off).map PV.pure0 = ((O b).drop off).map PV.pure0 := by rw [← e, d, e]
  simp only [snap, h1, h2]
theorem step_agree {o : K} {d : Option Nat} {st st' : St} (hA : Agree ban o d st st') {k : Delta → Prop} (h : stepD P (CStar P) (XStar P) ban o d st k) : stepD P (CStar P) (XStar P) ban o d st' k := by
  have ad : ∀ (x : Operand) (o : K), (o = .loadT x ∨ (∃ g sz, o = .load g sz x) ∨ (∃ sz y, o = .store sz x y) ∨ ∃ s, o = .storeT x s) → o.addr = aOf x := by
    intro x o ho
    rcases ho with rfl | ⟨g, sz, rfl⟩ | ⟨sz, y, rfl⟩ | ⟨s, rfl⟩ <;> cases x <;> rfl
  cases o with
  | move x => simp only [stepD, gd_and] at h ⊢; rw [hA.opd x (by simp [K.opds])]; exact h
  | nilsl e => exact h
  | take s =>
    simp only [stepD, gd_and] at h ⊢
    have : st'.get s = st.get s := hA.opd (.tmp s) (by simp [K.opds])
    rw [this]; exact h
  | pick c x y =>
    simp only [stepD, gd_and] at h ⊢
    rw [hA.opd c (by simp [K.opds]), hA.opd x (by simp [K.opds]), hA.opd y (by simp [K.opds])]; exact h
  | alloc z =>
    simp only [stepD, gd_and] at h ⊢
    cases d with
    | none => exact h
    | some s =>
      simp only at h ⊢
      rw [hA.base]
      cases g1 : notIn (st.base + s) (st.ob.map Prod.fst) with
      | false => rw [g1] at h; exact h.elim
      | true => rw [g1] at h; rw [hA.key rfl s rfl g1]; exact h
  | box x =>
    simp only [stepD, gd_and] at h ⊢
    rw [hA.opd x (by simp [K.opds])]
    cases d with
    | none => exact h
    | some s =>
      simp only at h ⊢
      rw [hA.base]
      cases g1 : notIn (st.base + s) (st.ob.map Prod.fst) with
      | false => rw [g1] at h; exact h.elim
      | true => rw [g1] at h; rw [hA.key rfl s rfl g1]; exact h
  | build z parts => simp only [stepD, gd_and] at h ⊢; exact fillN_agree _ _ _ (fun x hx => hA.opd x hx) h
  | bslice e sz parts => simp only [stepD, gd_and] at h ⊢; exact elems_agree _ _ _ (fun x hx => hA.opd x hx) h
  | load g sz x =>
    simp only [stepD, gd_and] at h ⊢
    rw [hA.opd x (by simp [K.opds])]
    cases hq : st.opd x with
    | loc b off =>
      rw [hq] at h
      simp only at h ⊢
      cases g1 : notIn b ban with
      | false => rw [g1] at h; exact h.elim
      | true => rw [g1] at h; rw [hA.vob rfl b g1 (addr_loc hq (ad x _ (.inr (.inl ⟨_, _, rfl⟩))))]; exact h
    | el b sz' i off =>
      rw [hq] at h
      simp only at h ⊢
      cases g1 : notIn b ban with
      | false => rw [g1] at h; exact h.elim
      | true => rw [g1] at h; rw [hA.vob rfl b g1 (addr_el hq (ad x _ (.inr (.inl ⟨_, _, rfl⟩))))]; exact h
    | _ => rw [hq] at h; exact h
  | loadT x =>
    simp only [stepD, gd_and] at h ⊢
    rw [hA.opd x (by simp [K.opds])]
    cases hq : st.opd x with
    | loc b off =>
      rw [hq] at h
      cases d with
      | none => exact h
      | some d =>
        dsimp only at h ⊢
        rw [hA.obj rfl rfl b (.inl rfl) (addr_loc hq (ad x _ (.inl rfl)))]; exact h
    | _ => rw [hq] at h; exact h
  | store sz x y =>
    simp only [stepD, gd_and] at h ⊢
    rw [hA.opd x (by simp [K.opds]), hA.opd y (by simp [K.opds])]
    cases hq : st.opd x with
    | loc b off =>
      rw [hq] at h
      dsimp only at h ⊢
      rw [hA.obj rfl rfl b (.inl rfl) (addr_loc hq (ad x _ (.inr (.inr (.inl ⟨_, _, rfl⟩)))))]; exact h
    | el b sz' i off =>
      rw [hq] at h
      simp only at h ⊢
      rw [hA.obj rfl rfl b (.inl rfl) (addr_el hq (ad x _ (.inr (.inr (.inl ⟨_, _, rfl⟩)))))]; exact h
    | _ => rw [hq] at h; exact h
  | storeT x s =>
    simp only [stepD, gd_and] at h ⊢
    have hs : st'.get s = st.get s := hA.opd (.tmp s) (by simp [K.opds])
    rw [hA.opd x (by simp [K.opds]), hs]
    cases hq : st.opd x with
    | loc b off =>
      rw [hq] at h
      dsimp only at h ⊢
      rw [hA.obj rfl rfl b (.inl rfl) (addr_loc hq (ad x _ (.inr (.inr (.inr ⟨_, rfl⟩)))))]; exact h
    | el b sz' i off =>
      rw [hq] at h
      simp only at h ⊢
      rw [hA.obj rfl rfl b (.inl rfl) (addr_el hq (ad x _ (.inr (.inr (.inr ⟨_, rfl⟩)))))]; exact h
    | _ => rw [hq] at h; exact h
  | scal o =>
    simp only [stepD, scalK] at h ⊢
    rw [allVal_agree o.op.operands.toList (fun x hx => hA.opd x hx)]
    have : execOp st'.valOf o = execOp st.valOf o := execOp_congr o (hA.sel o rfl) (fun x hx => by
      have := hA.opd x (by simpa [K.opds] using hx)
      simp only [St.valOf, this])
    rw [this]; exact h
  | bin2 tag x y => simp only [stepD, gd_and, nilCmp] at h ⊢; rw [hA.opd x (by simp [K.opds]), hA.opd y (by simp [K.opds])]; exact h
  | eqA neg ts x y => simp only [stepD, gd_and] at h ⊢; rw [hA.opd x (by simp [K.opds]), hA.opd y (by simp [K.opds])]; exact h
  | field off x => simp only [stepD, gd_and] at h ⊢; rw [hA.opd x (by simp [K.opds])]; exact h
  | index sz x i => simp only [stepD, gd_and] at h ⊢; rw [hA.opd x (by simp [K.opds]), hA.opd i (by simp [K.opds])]; exact h
  | len x => simp only [stepD, gd_and] at h ⊢; rw [hA.opd x (by simp [K.opds])]; exact h
  | cap x => simp only [stepD, gd_and] at h ⊢; rw [hA.opd x (by simp [K.opds])]; exact h
  | app e sz by_ s x =>
    simp only [stepD, gd_and] at h ⊢
    have : st'.get s = st.get s := hA.opd (.tmp s) (by simp [K.opds])
    rw [hA.opd x (by simp [K.opds]), this]; exact h
  | clone cm e sz by_ s x =>
    simp only [stepD, gd_and] at h ⊢
    have hs' : st'.get s = st.get s := hA.opd (.tmp s) (by simp [K.opds])
    rw [hA.opd x (by simp [K.opds]), hs', hA.base]
    cases d with
    | none => exact h
    | some d =>
      cases hn : LX.nil e with
      | none => rw [hn] at h; exact h
      | some n =>
        rw [hn] at h
        dsimp only at h ⊢
        cases g1 : notIn (st.base + d) (st.ob.map Prod.fst) with
        | true => rw [g1] at h; rw [hA.key rfl d rfl g1]; exact h
        | false => rw [g1] at h; exact h.elim
  | call f args =>
    simp only [stepD, gd_and] at h ⊢
    rw [locsOk_agree args (fun x hx => hA.opd x hx)]
    cases g1 : locsOk st ban args with
    | false => rw [g1] at h; exact h.elim
    | true =>
      rw [g1] at h
      have : args.map (fun x => snap st'.obj (st'.opd x)) = args.map (fun x => snap st.obj (st.opd x)) := by
        apply List.map_congr_left
        intro x hx
        rw [hA.opd x hx]
        cases hq : st.opd x with
        | loc b off => exact snap_view (hA.vob rfl b (locsOk_mem _ g1 x hx b off hq) (fun a ha => by cases ha))
        | _ => rfl
      rw [this]; exact h
  | icall f args =>
    simp only [stepD, gd_and] at h ⊢
    obtain ⟨w1, w2⟩ := hA.wild rfl
    obtain ⟨hc, r, o', hI, hk⟩ := h
    have : args.map (fun x => (st'.opd x).view) = args.map (fun x => (st.opd x).view) := List.map_congr_left fun x hx => by rw [hA.opd x hx]
    rw [this]
    exact ⟨hc, r, o', hI.congr w1 w2, hk⟩
  | callv x args =>
    simp only [stepD, gd_and] at h ⊢
    obtain ⟨w1, w2⟩ := hA.wild rfl
    have : args.map (fun x => (st'.opd x).view) = args.map (fun x => (st.opd x).view) := List.map_congr_left fun y hy => by rw [hA.opd y (by simp [K.opds, hy])]
    rw [this, hA.opd x (by simp [K.opds])]
    split at h
    · obtain ⟨hc, r, o', hI, hk⟩ := h
      exact ⟨hc, r, o', hI.congr w1 w2, hk⟩
    · exact h.elim
  | mkfn f n caps =>
    simp only [stepD, gd_and] at h ⊢
    have : caps.map (fun x => (st'.opd x).view) = caps.map (fun x => (st.opd x).view) := List.map_congr_left fun x hx => by rw [hA.opd x hx]
    rw [this]; exact h
  | extract x i => simp only [stepD, gd_and] at h ⊢; rw [hA.opd x (by simp [K.opds])]; exact h
  | nil x => simp only [stepD, gd_and] at h ⊢; rw [hA.opd x (by simp [K.opds])]; exact h
  | mksl e sz by_ z n =>
    simp only [stepD, gd_and] at h ⊢
    rw [hA.opd n (by simp [K.opds]), hA.base]
    cases d with
    | none => exact h
    | some s =>
      cases g1 : notIn (st.base + s) (st.ob.map Prod.fst) with
      | true =>
        have g2 := hA.key rfl s rfl g1
        split at h
        · rename_i s' m hs hv
          injection hs with hs
          subst hs
          rw [g2]
          rw [g1] at h
          exact h
        · exact h.elim
      | false =>
        split at h
        · rename_i s' m hs hv
          injection hs with hs
          subst hs
          rw [g1] at h
          split at h
          · split at h
            · rename_i e _; cases e
            · exact h.elim
          · split at h
            · rename_i e _; cases e
            · exact h.elim
        · exact h.elim
  | mkcap e sz by_ n => simp only [stepD, gd_and] at h ⊢; rw [hA.opd n (by simp [K.opds])]; exact h
  | slc sz x lo hi mx =>
    simp only [stepD, gd_and] at h ⊢
    have e1 : ∀ d, st'.bnd d lo = st.bnd d lo := fun d => bnd_agree fun y hy => hA.opd y (by simp [K.opds, hy])
    have e2 : ∀ d, st'.bnd d hi = st.bnd d hi := fun d => bnd_agree fun y hy => hA.opd y (by simp [K.opds, hy])
    have e3 : ∀ d, st'.bnd d mx = st.bnd d mx := fun d => bnd_agree fun y hy => hA.opd y (by simp [K.opds, hy])
    rw [hA.opd x (by simp [K.opds])]
    simp only [e1, e2, e3]; exact h
  | sstr x lo hi =>
    simp only [stepD, gd_and] at h ⊢
    have e1 : ∀ d, st'.bnd d lo = st.bnd d lo := fun d => bnd_agree fun y hy => hA.opd y (by simp [K.opds, hy])
    have e2 : ∀ d, st'.bnd d hi = st.bnd d hi := fun d => bnd_agree fun y hy => hA.opd y (by simp [K.opds, hy])
    rw [hA.opd x (by simp [K.opds])]
    simp only [e1, e2]; exact h
  | mkmap gk gv ks vs =>
    simp only [stepD, gd_and] at h ⊢
    cases d with
    | none => exact h
    | some s =>
      simp only at h ⊢
      rw [hA.base]
      cases g1 : notIn (st.base + s) (st.ob.map Prod.fst) with
      | false => rw [g1] at h; exact h.elim
      | true => rw [g1] at h; rw [hA.key rfl s rfl g1]; exact h
  | lookup gq ts ok g z m q =>
    simp only [stepD, gd_and] at h ⊢
    rw [hA.opd m (by simp [K.opds]), hA.opd q (by simp [K.opds])]
    cases hq : st.opd m with
    | mp b =>
      rw [hq] at h
      simp only at h ⊢
      cases g1 : notIn b ban with
      | false => rw [g1] at h; exact h.elim
      | true => rw [g1] at h; rw [hA.obj rfl rfl b (.inr g1) (fun a ha => by cases ha)]; exact h
    | _ => rw [hq] at h; exact h
  | mapup gq ts m q v =>
    simp only [stepD, gd_and] at h ⊢
    rw [hA.opd m (by simp [K.opds]), hA.opd q (by simp [K.opds]), hA.opd v (by simp [K.opds])]
    cases hq : st.opd m with
    | mp b =>
      rw [hq] at h
      dsimp only at h ⊢
      rw [hA.obj rfl rfl b (.inl rfl) (fun a ha => by cases ha)]; exact h
    | _ => rw [hq] at h; exact h
  | del m q => exact h
  | aidx off sz g x => simp only [stepD, gd_and] at h ⊢; rw [hA.opd x (by simp [K.opds])]; exact h
  | stop => exact h
/-- what an operation touches -/
def Foot (o : K) (d : Option Nat) (st : St) (b : Nat) : Prop := (o.isStore = true ∧ ∀ a, o.addr = some a → At (st.get a) b) ∨ (o.makes = true ∧ ∃ s, d = some s ∧ b = st.base + s)
theorem step_foot {o : K} {d : Option Nat} {st : St} {δ : Delta} (h : stepD P (CStar P) (XStar P) ban o d st (fun δ' => δ' = δ)) :
    (∀ s ∈ δ.s.map Prod.fst, s ∈ EOp.writes ⟨d, none, o⟩) ∧ (∀ b ∈ δ.o.map Prod.fst, Foot o d st b) := by
  have put : ∀ (p : PV), dput d p = δ → (∀ s ∈ δ.s.map Prod.fst, s ∈ EOp.writes ⟨d, none, o⟩) ∧ (∀ b ∈ δ.o.map Prod.fst, Foot o d st b) := by
    intro p e
    subst e
    cases d with
    | none => exact ⟨fun s hs => by simp [dput] at hs, fun b hb => by simp [dput] at hb⟩
    | some x => exact ⟨fun s hs => by simp [dput] at hs; simp [EOp.writes, hs], fun b hb => by simp [dput] at hb⟩
  have ad : ∀ (x : Operand) (o : K), (o = .loadT x ∨ (∃ g sz, o = .load g sz x) ∨ (∃ sz y, o = .store sz x y) ∨ ∃ s, o = .storeT x s) → o.addr = aOf x := by
    intro x o ho
    rcases ho with rfl | ⟨g, sz, rfl⟩ | ⟨sz, y, rfl⟩ | ⟨s, rfl⟩ <;> cases x <;> rfl
  cases o with
  | move x => exact put _ h
  | nilsl e =>
    simp only [stepD, gd_and] at h
    split at h
    · subst h; exact ⟨fun y hy => by simpa [EOp.writes] using hy, fun b hb => by simp at hb⟩
    · exact h.elim
  | take s =>
    cases d with
    | none => exact h.elim
    | some x => subst h; exact ⟨fun y hy => by simpa [EOp.writes] using hy, fun b hb => by simp at hb⟩
  | pick c x y =>
    simp only [stepD, gd_and] at h
    split at h
    · rename_i t _
      cases t <;> exact put _ h
    · exact h.elim
  | alloc z =>
    simp only [stepD, gd_and] at h
    cases d with
    | none => exact h.elim
    | some s =>
      simp only at h
      split at h
      · subst h
        exact ⟨fun y hy => by simpa [EOp.writes] using hy, fun b hb => by simp at hb; subst hb; exact .inr ⟨rfl, s, rfl, rfl⟩⟩
      · exact h.elim
  | box x =>
    simp only [stepD, gd_and] at h
    cases d with
    | none => exact h.elim
    | some s =>
      simp only at h
      split at h
      · subst h
        exact ⟨fun y hy => by simpa [EOp.writes] using hy, fun b hb => by simp at hb; subst hb; exact .inr ⟨rfl, s, rfl, rfl⟩⟩
      · exact h.elim
  | build z parts =>
    simp only [stepD, gd_and] at h
    obtain ⟨l, h1, _⟩ := fillN_pick st _ _ _ h
    exact put _ h1
  | bslice e sz parts =>
    simp only [stepD, gd_and] at h
    obtain ⟨l, h1, _⟩ := elems_pick st _ _ _ h
    split at h1
    · split at h1
      · exact put _ h1
      · exact h1.elim
    · exact put _ h1
  | load g sz x =>
    simp only [stepD, gd_and] at h
    split at h
    · split at h
      · exact put _ h
      · exact h.elim
    · split at h
      · exact put _ h
      · exact h.elim
    · split at h
      · split at h
        · exact put _ h
        · exact h.elim
      · exact h.elim
    · exact h.elim
  | loadT x =>
    simp only [stepD, gd_and] at h
    split at h
    · rename_i b off d' hq
      split at h
      · subst h
        exact ⟨fun y hy => by simpa [EOp.writes] using hy, fun b' hb => by simp at hb; subst hb; exact .inl ⟨rfl, addr_loc hq (ad x _ (.inl rfl))⟩⟩
      · exact h.elim
    · exact h.elim
  | store sz x y =>
    simp only [stepD, gd_and] at h
    split at h
    · rename_i b off hq
      split at h
      · subst h
        exact ⟨fun y hy => by simp at hy, fun b' hb => by simp at hb; subst hb; exact .inl ⟨rfl, addr_loc hq (ad x _ (.inr (.inr (.inl ⟨_, _, rfl⟩))))⟩⟩
      · exact h.elim
    · rename_i b sz' i off hq
      split at h
      · split at h
        · subst h
          exact ⟨fun y hy => by simp at hy, fun b' hb => by simp at hb; subst hb; exact .inl ⟨rfl, addr_el hq (ad x _ (.inr (.inr (.inl ⟨_, _, rfl⟩))))⟩⟩
        · exact h.elim
      · exact h.elim
    · exact h.elim
  | storeT x s =>
    simp only [stepD, gd_and] at h
    split at h
    · rename_i b off hq
      split at h
      · subst h
        exact ⟨fun y hy => by simp at hy; simp [EOp.writes, hy], fun b' hb => by simp at hb; subst hb; exact .inl ⟨rfl, addr_loc hq (ad x _ (.inr (.inr (.inr ⟨_, rfl⟩))))⟩⟩
      · exact h.elim
    · rename_i b sz' i off hq
      split at h
      · split at h
        · subst h
          exact ⟨fun y hy => by simp at hy; simp [EOp.writes, hy], fun b' hb => by simp at hb; subst hb; exact .inl ⟨rfl, addr_el hq (ad x _ (.inr (.inr (.inr ⟨_, rfl⟩))))⟩⟩
        · exact h.elim
      · exact h.elim
    · exact h.elim
  | scal o =>
    simp only [stepD, scalK] at h
    cases g1 : allVal st o.op.operands.toList with
    | false => rw [g1] at h; exact h.elim
    | true =>
      rw [g1] at h
      obtain ⟨n, h1, _⟩ := pureRun_pick _ _ h
      cases n with
      | value v =>
        simp only at h1
        cases g2 : oneV v with
        | false => rw [g2] at h1; exact h1.elim
        | true => rw [g2] at h1; exact put _ h1
      | _ => exact h1.elim
  | bin2 tag x y =>
    simp only [stepD, gd_and] at h
    split at h
    · split at h
      · rename_i c r _
        cases c with
        | true => exact put _ h
        | false => exact h.elim
      · exact h.elim
    · unfold nilCmp at h
      split at h
      · split at h
        · simp only [gd_and] at h
          exact put _ h.2
        · simp only [gd_and] at h
          exact put _ h.2
        · exact h.elim
      · exact h.elim
    · exact h.elim
  | eqA neg ts x y =>
    simp only [stepD, gd_and] at h
    split at h
    · split at h
      · cases neg <;> exact put _ h
      · exact h.elim
    · exact h.elim
  | field off x =>
    simp only [stepD, gd_and] at h
    split at h <;> first | exact h.elim | exact put _ h
  | index sz x i =>
    simp only [stepD, gd_and] at h
    split at h
    · split at h <;> first | exact h.elim | exact put _ h.2.2
    · split at h
      · split at h
        · exact put _ h.2.2
        · exact h.elim
      · exact h.elim
    · exact h.elim
  | len x =>
    simp only [stepD, gd_and] at h
    split at h
    · exact put _ h
    · exact put _ h
    · split at h
      · exact put _ h
      · exact h.elim
  | cap x =>
    simp only [stepD, gd_and] at h
    split at h
    · exact put _ h
    · exact h.elim
  | app e sz by_ s x =>
    simp only [stepD, gd_and] at h
    cases d with
    | none => exact h.elim
    | some d =>
      simp only at h
      split at h
      · split at h
        · have h' := h.2.2
          subst h'
          exact ⟨fun y hy => by simpa [EOp.writes] using hy, fun b hb => by simp at hb⟩
        · exact h.elim
      · split at h
        · subst h
          exact ⟨fun y hy => by simpa [EOp.writes] using hy, fun b hb => by simp at hb⟩
        · exact h.elim
      · split at h
        · have h' := h.2.2
          subst h'
          exact ⟨fun y hy => by simp at hy; simp [EOp.writes, hy], fun b hb => by simp at hb⟩
        · exact h.elim
      · exact h.elim
  | clone cm e sz by_ s x =>
    simp only [stepD, gd_and] at h
    split at h
    · rename_i d n _
      split at h
      · split at h
        · rename_i own q _
          split at h
          · cases hb : Nat.beq q.len 0 with
            | true =>
              rw [hb] at h
              have h' : _ = δ := h
              subst h'
              exact ⟨fun y hy => by simpa [EOp.writes] using hy, fun b hb => by simp at hb⟩
            | false =>
              rw [hb] at h
              have h' := h.2.2
              subst h'
              exact ⟨fun y hy => by simpa [EOp.writes] using hy, fun b hb => by simp at hb; subst hb; exact .inr ⟨rfl, d, rfl, rfl⟩⟩
          · exact h.elim
        · exact h.elim
      · exact h.elim
    · exact h.elim
  | call f args =>
    simp only [stepD, gd_and] at h
    split at h
    · obtain ⟨r, _, h2⟩ := h; exact put _ h2
    · exact h.elim
  | icall f args =>
    simp only [stepD, gd_and] at h
    obtain ⟨_, r, o', _, h2⟩ := h
    refine ⟨fun s hs => ?_, fun b _ => .inl ⟨rfl, fun a ha => by cases ha⟩⟩
    have : δ.s = (dput d r).s := by rw [← h2]
    rw [this] at hs
    cases d with
    | none => simp [dput] at hs
    | some x => simp [dput] at hs; simp [EOp.writes, hs]
  | callv x args =>
    simp only [stepD, gd_and] at h
    split at h
    · obtain ⟨_, r, o', _, h2⟩ := h
      refine ⟨fun s hs => ?_, fun b _ => .inl ⟨rfl, fun a ha => by cases ha⟩⟩
      have : δ.s = (dput d r).s := by rw [← h2]
      rw [this] at hs
      cases d with
      | none => simp [dput] at hs
      | some x => simp [dput] at hs; simp [EOp.writes, hs]
    · exact h.elim
  | mkfn f n caps => exact put _ h
  | extract x i =>
    simp only [stepD, gd_and] at h
    split at h
    · split at h
      · exact put _ h
      · exact h.elim
    · exact h.elim
  | nil x =>
    simp only [stepD, gd_and] at h
    split at h <;> first | exact h.elim | exact put _ h
  | mksl e sz by_ z n =>
    simp only [stepD, gd_and] at h
    split at h
    · rename_i s m hv
      split at h
      · split at h
        · subst h
          exact ⟨fun y hy => by simpa [EOp.writes] using hy, fun b hb => by simp at hb; subst hb; exact .inr ⟨rfl, s, rfl, rfl⟩⟩
        · exact h.elim
      · split at h
        · split at h
          · have h' := h.2.2.2
            subst h'
            exact ⟨fun y hy => by simpa [EOp.writes] using hy, fun b hb => by simp at hb; subst hb; exact .inr ⟨rfl, s, rfl, rfl⟩⟩
          · exact h.elim
        · exact h.elim
    · exact h.elim
  | mkcap e sz by_ n =>
    simp only [stepD, gd_and] at h
    split at h
    · split at h
      · have h' := h.2.2.2
        subst h'
        exact ⟨fun y hy => by simpa [EOp.writes] using hy, fun b hb => by simp at hb⟩
      · exact h.elim
    · exact h.elim
  | slc sz x lo hi mx =>
    simp only [stepD, gd_and] at h
    split at h
    · split at h
      · split at h
        · split at h
          · exact put _ h.2.2.2.2
          · exact h.elim
        · exact h.elim
      · exact h.elim
    · exact h.elim
  | sstr x lo hi =>
    simp only [stepD, gd_and] at h
    split at h
    · split at h
      · split at h
        · exact put _ h.2.2.2
        · exact h.elim
      · exact h.elim
    · exact h.elim
  | mkmap gk gv ks vs =>
    simp only [stepD, gd_and] at h
    cases d with
    | none => exact h.elim
    | some s =>
      simp only at h
      split at h
      · subst h
        exact ⟨fun y hy => by simpa [EOp.writes] using hy, fun b hb => by simp at hb; subst hb; exact .inr ⟨rfl, s, rfl, rfl⟩⟩
      · exact h.elim
  | lookup gq ts ok g z m q =>
    simp only [stepD, gd_and] at h
    split at h
    · split at h
      · split at h
        · rename_i r _ _ _
          cases r <;> exact put _ h
        · exact h.elim
      · exact h.elim
    · exact h.elim
  | mapup gq ts m q v =>
    have fin : ∀ (b : Nat) (l : List PV), (⟨[], [(b, l)]⟩ : Delta) = δ → (∀ s ∈ δ.s.map Prod.fst, s ∈ EOp.writes ⟨d, none, .mapup gq ts m q v⟩) ∧ (∀ b ∈ δ.o.map Prod.fst, Foot (.mapup gq ts m q v) d st b) := by
      intro b l e
      subst e
      exact ⟨fun y hy => by simp at hy, fun b' hb => .inl ⟨rfl, fun a ha => by cases ha⟩⟩
    simp only [stepD, gd_and] at h
    split at h
    · split at h
      · split at h
        · rename_i r c _ _ _
          cases r with
          | none =>
            simp only [fk] at h
            split at h
            · exact fin _ _ h
            · exact h.elim
          | some i =>
            simp only [fk] at h
            split at h
            · exact fin _ _ h
            · exact h.elim
        · exact h.elim
      · exact h.elim
    · exact h.elim
  | del m q => exact h.elim
  | aidx off sz g x =>
    simp only [stepD, gd_and] at h
    split at h
    · split at h
      · exact put _ h
      · exact h.elim
    · exact h.elim
  | stop => exact h.elim
end
end Go.Proofs.YtonfmpiikdmndaaGreat.Ev
