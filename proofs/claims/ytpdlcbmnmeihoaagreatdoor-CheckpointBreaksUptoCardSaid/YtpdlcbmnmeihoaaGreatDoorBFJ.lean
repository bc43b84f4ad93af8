/-  Operations one behind the other. -/
import Derived.Test.YtpdlcbmnmeihoaaGreatDoorBFI
set_option linter.unusedVariables false
set_option linter.unusedSimpArgs false
set_option linter.unnecessarySimpa false
namespace Go.Proofs.YtpdlcbmnmeihoaaGreatDoor.Ev
open Go Go.RowKit
def SoundC (P : Program) (C : Oracle) : Prop := ∀ f args k, C f args k → ∃ r, HoldsC P f args r ∧ k r
def SoundX (P : Program) (X : Inl) : Prop := ∀ f args ob k, X f args ob k → XStar P f args ob k
section
variable {P : Program} {C : Oracle} {X : Inl} {ban : List Nat}
theorem fillN_pick (st : St) : ∀ (ps : List (Nat × Nat × Operand)) (cells : List PV) (k : List PV → Prop), fillN st cells ps k → ∃ l, k l ∧ ∀ k' : List PV → Prop, k' l → fillN st cells ps k' := by
  intro ps
  induction ps with
  | nil => intro cells k h; exact ⟨cells, h, fun k' h' => h'⟩
  | cons p ps ih =>
    obtain ⟨off, sz, x⟩ := p
    intro cells k h
    simp only [fillN] at h ⊢
    cases g1 : lenIs (st.opd x).cells sz <;> cases g2 : ones (st.opd x).cells <;> cases g3 : lenGe cells (off + sz) <;> simp only [g1, g2, g3] at h ⊢ <;> first | exact h.elim | exact ih _ _ h
theorem elems_pick (st : St) (sz : Nat) : ∀ (ps : List Operand) (k : List (List PV) → Prop), elems st sz ps k → ∃ l, k l ∧ ∀ k' : List (List PV) → Prop, k' l → elems st sz ps k' := by
  intro ps
  induction ps with
  | nil => intro k h; exact ⟨[], h, fun k' h' => h'⟩
  | cons x ps ih =>
    intro k h
    simp only [elems] at h ⊢
    cases g1 : lenIs (st.opd x).cells sz <;> cases g2 : ones (st.opd x).cells <;> simp only [g1, g2] at h ⊢ <;> first
      | exact h.elim
      | (obtain ⟨l, h1, h2⟩ := ih _ h; exact ⟨_, h1, fun k' hk => h2 (fun l => k' ((st.opd x).cells.map PV.view :: l)) hk⟩)
theorem pureRun_pick {α : Type} : ∀ (s : Sem α) (k : α → Prop), pureRun P s k → ∃ x, k x ∧ ∀ k' : α → Prop, k' x → pureRun P s k' := by
  intro s
  induction s with
  | pure a => intro k h; exact ⟨a, h, fun k' h' => h'⟩
  | program f ih => intro k h; exact ih P k h
  | _ => intro k h; exact h.elim
theorem step_star (hC : SoundC P C) (hX : SoundX P X) (o : K) (d : Option Nat) (st : St) (k : Delta → Prop) (h : stepD P C X ban o d st k) : ∃ δ, k δ ∧ ∀ k' : Delta → Prop, k' δ → stepD P (CStar P) (XStar P) ban o d st k' := by
  have one : ∀ (δ : Delta), k δ → ∃ δ, k δ ∧ ∀ k' : Delta → Prop, k' δ → k' δ := fun δ h => ⟨δ, h, fun k' h' => h'⟩
  cases o with
  | move x => exact ⟨_, h, fun k' h' => h'⟩
  | nilsl e =>
    simp only [stepD, gd_and] at h ⊢
    split at h
    · exact ⟨_, h, fun k' h' => h'⟩
    · exact h.elim
  | take s => cases d with
    | none => exact h.elim
    | some d => exact ⟨_, h, fun k' h' => h'⟩
  | pick c x y =>
    simp only [stepD, gd_and] at h ⊢
    split at h
    · rename_i t hq
      cases t <;> exact ⟨_, h, fun k' h' => h'⟩
    · exact h.elim
  | alloc z =>
    simp only [stepD, gd_and] at h ⊢
    cases d with
    | none => exact h.elim
    | some s =>
      simp only at h ⊢
      split at h
      · rename_i g1; exact ⟨_, h, fun k' h' => h'⟩
      · exact h.elim
  | box x =>
    simp only [stepD, gd_and] at h ⊢
    cases d with
    | none => exact h.elim
    | some s =>
      simp only at h ⊢
      split at h
      · rename_i g1 g2; exact ⟨_, h, fun k' h' => h'⟩
      · exact h.elim
  | build z parts =>
    simp only [stepD, gd_and] at h ⊢
    obtain ⟨l, h1, h2⟩ := fillN_pick st _ _ _ h
    exact ⟨_, h1, fun k' hk => h2 (fun l => k' (dput d (.agg l))) hk⟩
  | bslice e sz parts =>
    simp only [stepD, gd_and] at h ⊢
    obtain ⟨l, h1, h2⟩ := elems_pick st _ _ _ h
    have : ∃ δ, k δ ∧ ∀ k' : Delta → Prop, k' δ → (match LX.lit e l with
        | some x => match Nat.beq x.sz sz with
          | true => k' (dput d (.lst true x))
          | false => False
        | none => k' (dput d (.sl true e sz l))) := by
      cases hl : LX.lit e l with
      | none => rw [hl] at h1; exact ⟨_, h1, fun k' h' => h'⟩
      | some x =>
        rw [hl] at h1
        simp only at h1 ⊢
        cases hb : Nat.beq x.sz sz with
        | false => rw [hb] at h1; exact h1.elim
        | true => rw [hb] at h1; exact ⟨_, h1, fun k' h' => h'⟩
    obtain ⟨δ, h3, h4⟩ := this
    exact ⟨δ, h3, fun k' hk => h2 _ (h4 k' hk)⟩
  | load g sz x =>
    simp only [stepD, gd_and] at h ⊢
    split at h
    · rename_i b off hq
      split at h
      · exact ⟨_, h, fun k' h' => h'⟩
      · exact h.elim
    · split at h
      · exact ⟨_, h, fun k' h' => h'⟩
      · exact h.elim
    · rename_i b sz' i off hq
      split at h
      · rename_i y g1 g2
        split at h
        · exact ⟨_, h, fun k' h' => h'⟩
        · exact h.elim
      · exact h.elim
    · exact h.elim
  | loadT x =>
    simp only [stepD, gd_and] at h ⊢
    split at h
    · split at h
      · exact ⟨_, h, fun k' h' => h'⟩
      · exact h.elim
    · exact h.elim
  | store sz x y =>
    simp only [stepD, gd_and] at h ⊢
    split at h
    · split at h
      · exact ⟨_, h, fun k' h' => h'⟩
      · exact h.elim
    · split at h
      · split at h
        · exact ⟨_, h, fun k' h' => h'⟩
        · exact h.elim
      · exact h.elim
    · exact h.elim
  | storeT x s =>
    simp only [stepD, gd_and] at h ⊢
    split at h
    · split at h
      · exact ⟨_, h, fun k' h' => h'⟩
      · exact h.elim
    · split at h
      · split at h
        · exact ⟨_, h, fun k' h' => h'⟩
        · exact h.elim
      · exact h.elim
    · exact h.elim
  | scal o =>
    simp only [stepD, scalK] at h ⊢
    cases g1 : allVal st o.op.operands.toList with
    | false => rw [g1] at h; exact h.elim
    | true =>
      simp only [g1] at h ⊢
      obtain ⟨n, h1, h2⟩ := pureRun_pick _ _ h
      cases n with
      | value v =>
        simp only at h1
        cases g2 : oneV v with
        | false => rw [g2] at h1; exact h1.elim
        | true =>
          simp only [g2] at h1
          exact ⟨_, h1, fun k' hk => h2 _ (by simp only [g2]; exact hk)⟩
      | _ => exact h1.elim
  | bin2 tag x y =>
    simp only [stepD, gd_and] at h ⊢
    split at h
    · split at h
      · rename_i c r hb
        cases c with
        | true => exact ⟨_, h, fun k' h' => h'⟩
        | false => exact h.elim
      · exact h.elim
    · unfold nilCmp at h ⊢
      split at h
      · split at h
        · simp only [gd_and] at h ⊢
          exact ⟨_, h.2, fun k' h' => ⟨h.1, h'⟩⟩
        · simp only [gd_and] at h ⊢
          exact ⟨_, h.2, fun k' h' => ⟨h.1, h'⟩⟩
        · exact h.elim
      · exact h.elim
    · exact h.elim
  | eqA neg ts x y =>
    simp only [stepD, gd_and] at h ⊢
    split at h
    · split at h
      · cases neg <;> exact ⟨_, h, fun k' h' => h'⟩
      · exact h.elim
    · exact h.elim
  | field off x =>
    simp only [stepD, gd_and] at h ⊢
    split at h <;> first | exact h.elim | exact ⟨_, h, fun k' h' => h'⟩
  | index sz x i =>
    simp only [stepD, gd_and] at h ⊢
    split at h
    · split at h <;> first | exact h.elim | exact ⟨_, h.2.2, fun k' h' => ⟨h.1, h.2.1, h'⟩⟩
    · split at h
      · split at h
        · exact ⟨_, h.2.2, fun k' h' => ⟨h.1, h.2.1, h'⟩⟩
        · exact h.elim
      · exact h.elim
    · exact h.elim
  | len x =>
    simp only [stepD, gd_and] at h ⊢
    split at h
    · exact ⟨_, h, fun k' h' => h'⟩
    · exact ⟨_, h, fun k' h' => h'⟩
    · split at h
      · exact ⟨_, h, fun k' h' => h'⟩
      · exact h.elim
  | cap x =>
    simp only [stepD, gd_and] at h ⊢
    split at h
    · exact ⟨_, h, fun k' h' => h'⟩
    · exact h.elim
  | app e sz by_ s x =>
    simp only [stepD, gd_and] at h ⊢
    cases d with
    | none => exact h.elim
    | some d =>
      simp only at h ⊢
      split at h
      · split at h
        · exact ⟨_, h.2.2, fun k' hk => ⟨h.1, h.2.1, hk⟩⟩
        · exact h.elim
      · split at h
        · exact ⟨_, h, fun k' h' => h'⟩
        · exact h.elim
      · split at h
        · exact ⟨_, h.2.2, fun k' hk => ⟨h.1, h.2.1, hk⟩⟩
        · exact h.elim
      · exact h.elim
  | clone cm e sz by_ s x =>
    simp only [stepD, gd_and] at h ⊢
    split at h
    · split at h
      · split at h
        · rename_i own q _
          split at h
          · cases hb : Nat.beq q.len 0 with
            | true => rw [hb] at h; exact ⟨_, h, fun k' h' => h'⟩
            | false => rw [hb] at h; exact ⟨_, h.2.2, fun k' hk => ⟨h.1, h.2.1, hk⟩⟩
          · exact h.elim
        · exact h.elim
      · exact h.elim
    · exact h.elim
  | call f args =>
    simp only [stepD, gd_and] at h ⊢
    cases g1 : locsOk st ban args with
    | false => rw [g1] at h; exact h.elim
    | true =>
      simp only [g1] at h ⊢
      obtain ⟨r, h1, h2⟩ := hC _ _ _ h
      exact ⟨_, h2, fun k' hk => ⟨r, h1, hk⟩⟩
  | icall f args =>
    simp only [stepD, gd_and] at h ⊢
    obtain ⟨hc, r, o', h1, h2⟩ := hX _ _ _ _ h
    exact ⟨_, h2, fun k' hk => ⟨hc, r, o', h1, hk⟩⟩
  | callv x args =>
    simp only [stepD, gd_and] at h ⊢
    split at h
    · obtain ⟨hc, r, o', h1, h2⟩ := hX _ _ _ _ h
      exact ⟨_, h2, fun k' hk => ⟨hc, r, o', h1, hk⟩⟩
    · exact h.elim
  | mkfn f n caps => exact ⟨_, h, fun k' h' => h'⟩
  | extract x i =>
    simp only [stepD, gd_and] at h ⊢
    split at h
    · split at h
      · exact ⟨_, h, fun k' h' => h'⟩
      · exact h.elim
    · exact h.elim
  | nil x =>
    simp only [stepD, gd_and] at h ⊢
    split at h <;> first | exact h.elim | exact ⟨_, h, fun k' h' => h'⟩
  | mksl e sz by_ z n =>
    simp only [stepD, gd_and] at h ⊢
    split at h
    · split at h
      · split at h
        · exact ⟨_, h, fun k' h' => h'⟩
        · exact h.elim
      · split at h
        · split at h
          · exact ⟨_, h.2.2.2, fun k' hk => ⟨h.1, h.2.1, h.2.2.1, hk⟩⟩
          · exact h.elim
        · exact h.elim
    · exact h.elim
  | mkcap e sz by_ n =>
    simp only [stepD, gd_and] at h ⊢
    split at h
    · split at h
      · exact ⟨_, h.2.2.2, fun k' hk => ⟨h.1, h.2.1, h.2.2.1, hk⟩⟩
      · exact h.elim
    · exact h.elim
  | slc sz x lo hi mx =>
    simp only [stepD, gd_and, gdIf_and] at h ⊢
    split at h
    · split at h
      · split at h
        · split at h
          · exact ⟨_, h.2.2.2.2.2, fun k' hk => ⟨h.1, h.2.1, h.2.2.1, h.2.2.2.1, h.2.2.2.2.1, hk⟩⟩
          · exact h.elim
        · exact h.elim
      · exact h.elim
    · exact h.elim
  | sstr x lo hi =>
    simp only [stepD, gd_and] at h ⊢
    split at h
    · split at h
      · split at h
        · exact ⟨_, h.2.2.2, fun k' hk => ⟨h.1, h.2.1, h.2.2.1, hk⟩⟩
        · exact h.elim
      · exact h.elim
    · exact h.elim
  | mkmap gk gv ks vs =>
    simp only [stepD, gd_and] at h ⊢
    cases d with
    | none => exact h.elim
    | some s =>
      simp only at h ⊢
      split at h
      · exact ⟨_, h, fun k' h' => h'⟩
      · exact h.elim
  | lookup gq ts ok g z m q =>
    simp only [stepD, gd_and] at h ⊢
    split at h
    · split at h
      · split at h
        · rename_i r _ _ _
          cases r <;> exact ⟨_, h, fun k' h' => h'⟩
        · exact h.elim
      · exact h.elim
    · exact h.elim
  | mapup gq ts m q v =>
    simp only [stepD, gd_and] at h ⊢
    split at h
    · split at h
      · split at h
        · rename_i r c _ _ _
          cases r with
          | none =>
            simp only [fk] at h ⊢
            split at h
            · exact ⟨_, h, fun k' h' => h'⟩
            · exact h.elim
          | some i =>
            simp only [fk] at h ⊢
            split at h
            · exact ⟨_, h, fun k' h' => h'⟩
            · exact h.elim
        · exact h.elim
      · exact h.elim
    · exact h.elim
  | del gq ts m q =>
    simp only [stepD, gd_and] at h ⊢
    split at h
    · split at h
      · split at h
        · rename_i r _ _
          cases r with
          | none => exact ⟨_, h, fun k' h' => h'⟩
          | some i =>
            simp only [fk] at h ⊢
            split at h
            · exact ⟨_, h, fun k' h' => h'⟩
            · exact h.elim
        · exact h.elim
      · exact h.elim
    · exact h.elim
  | ocall f args =>
    simp only [stepD, gd_and] at h ⊢
    cases g1 : flatAll st args with
    | false => rw [g1] at h; exact h.elim
    | true =>
      simp only [g1] at h ⊢
      obtain ⟨hc, r, o', h1, h2⟩ := hX _ _ _ _ h
      unfold ownR at h2
      split at h2
      · rename_i hf
        exact ⟨_, h2, fun k' hk => ⟨hc, r, [], h1, by show ownR r [] _; unfold ownR; rw [hf]; exact hk⟩⟩
      · exact h2.elim
  | bstr x =>
    simp only [stepD, gd_and] at h ⊢
    split at h
    · split at h
      · exact ⟨_, h, fun k' h' => h'⟩
      · exact h.elim
    · exact ⟨_, h, fun k' h' => h'⟩
    · exact h.elim
  | icallT f args s =>
    simp only [stepD, gd_and] at h ⊢
    cases g1 : onceO s args with
    | false => rw [g1] at h; exact h.elim
    | true =>
      simp only [g1] at h ⊢
      obtain ⟨hc, r, o', h1, h2⟩ := hX _ _ _ _ h
      exact ⟨_, h2, fun k' hk => ⟨hc, r, o', h1, hk⟩⟩
  | ext sub x y c =>
    simp only [stepD, gd_and] at h ⊢
    split at h
    · exact ⟨_, h.2, fun k' hk => ⟨h.1, hk⟩⟩
    · exact h.elim
  | aidx off sz g x =>
    simp only [stepD, gd_and] at h ⊢
    split at h
    · split at h
      · exact ⟨_, h, fun k' h' => h'⟩
      · exact h.elim
    · exact h.elim
  | stop => exact h.elim
end
end Go.Proofs.YtpdlcbmnmeihoaaGreatDoor.Ev
namespace Go.Proofs.YtpdlcbmnmeihoaaGreatDoor.Ev
open Go Go.RowKit
def aOf : Operand → Option Nat
  | .tmp a => some a
  | _ => none
/-- does it point into this variable? -/
def At (p : PV) (b : Nat) : Prop := (∃ off, p = .loc b off) ∨ ∃ sz i off, p = .el b sz i off
section
variable {P : Program} {C : Oracle} {X : Inl} {ban : List Nat}
theorem flatAll_agree {st st' : St} : ∀ (args : List Operand), (∀ x ∈ args, st'.opd x = st.opd x) → flatAll st' args = flatAll st args
  | [], _ => rfl
  | x :: r, h => by
    simp only [flatAll, h x (by simp)]
    rw [flatAll_agree r fun y hy => h y (by simp [hy])]
theorem HoldsI.congr {f : Nat} {args : List PV} {ob ob' : List (Nat × List PV)} {r : PV} {o' : List (Nat × List PV)} (h : HoldsI P f args ob r o') (h1 : ∀ d, look [] ob' d = look [] ob d) (h2 : ∀ d, notIn d (ob'.map Prod.fst) = notIn d (ob.map Prod.fst)) :
    HoldsI P f args ob' r o' := by
  intro κ H w0 w N M β O D vs hO hD hS hl hr
  refine Calls.mono (h H w0 w N M β O D vs (fun d => by rw [hO, h1]) (fun d => by rw [hD, h2]) hS hl hr) ?_
  rintro e w' ⟨v, M', β', he, hS'⟩
  refine ⟨v, M', β', he, ?_⟩
  have e1 : look [] (o' ++ ob') = look [] (o' ++ ob) := funext fun d => by rw [look_app, look_app, h1]
  have e2 : (fun d => notIn d ((o' ++ ob').map Prod.fst)) = fun d => notIn d ((o' ++ ob).map Prod.fst) := funext fun d => by rw [List.map_append, List.map_append, notIn_app, notIn_app, h2]
  rw [e1, e2]; exact hS'
theorem HoldsI.norm {f : Nat} {args : List PV} {ob : List (Nat × List PV)} {r : PV} {o' : List (Nat × List PV)} (h : HoldsI P f args ob r o') : HoldsI P f args ob r (normO o') := by
  intro κ H w0 w N M β O D vs hO hD hS hl hr
  refine Calls.mono (h H w0 w N M β O D vs hO hD hS hl hr) ?_
  rintro e w' ⟨v, M', β', he, hS'⟩
  refine ⟨v, M', β', he, ?_⟩
  have e1 : look [] (normO o' ++ ob) = look [] (o' ++ ob) := funext fun d => by rw [look_app, look_app, normO_look]; simp only [normO_mem]
  have e2 : (fun d => notIn d ((normO o' ++ ob).map Prod.fst)) = fun d => notIn d ((o' ++ ob).map Prod.fst) := funext fun d => by rw [List.map_append, List.map_append, notIn_app, notIn_app, normO_key]
  rw [e1, e2]; exact hS'
theorem HoldsT.congr {f : Nat} {args : List PV} {ob ob' : List (Nat × List PV)} {r : PV} {o' : List (Nat × List PV)} (h : HoldsT P f args ob r o') (h1 : ∀ d, look [] ob' d = look [] ob d) (h2 : ∀ d, notIn d (ob'.map Prod.fst) = notIn d (ob.map Prod.fst)) :
    HoldsT P f args ob' r o' := by
  intro κ H w0 w N M β O D vs hO hD hS hl
  refine Calls.mono (h H w0 w N M β O D vs (fun d => by rw [hO, h1]) (fun d => by rw [hD, h2]) hS hl) ?_
  rintro e w' ⟨v, M', β', he, hS'⟩
  refine ⟨v, M', β', he, ?_⟩
  have e1 : look [] (o' ++ ob') = look [] (o' ++ ob) := funext fun d => by rw [look_app, look_app, h1]
  have e2 : (fun d => notIn d ((o' ++ ob').map Prod.fst)) = fun d => notIn d ((o' ++ ob).map Prod.fst) := funext fun d => by rw [List.map_append, List.map_append, notIn_app, notIn_app, h2]
  rw [e1, e2]; exact hS'
theorem HoldsT.norm {f : Nat} {args : List PV} {ob : List (Nat × List PV)} {r : PV} {o' : List (Nat × List PV)} (h : HoldsT P f args ob r o') : HoldsT P f args ob r (normO o') := by
  intro κ H w0 w N M β O D vs hO hD hS hl
  refine Calls.mono (h H w0 w N M β O D vs hO hD hS hl) ?_
  rintro e w' ⟨v, M', β', he, hS'⟩
  refine ⟨v, M', β', he, ?_⟩
  have e1 : look [] (normO o' ++ ob) = look [] (o' ++ ob) := funext fun d => by rw [look_app, look_app, normO_look]; simp only [normO_mem]
  have e2 : (fun d => notIn d ((normO o' ++ ob).map Prod.fst)) = fun d => notIn d ((o' ++ ob).map Prod.fst) := funext fun d => by rw [List.map_append, List.map_append, notIn_app, notIn_app, normO_key]
  rw [e1, e2]; exact hS'
/-- what an operation reads is the same in both states -/
structure Agree (ban : List Nat) (o : K) (d : Option Nat) (st st' : St) : Prop where
  opd : ∀ x ∈ o.opds, st'.opd x = st.opd x
  obj : o.heapy = true → o.isLoad = false → ∀ b, (o.isStore = true ∨ notIn b ban = true) → (∀ a, o.addr = some a → At (st.get a) b) → st'.obj b = st.obj b
  vob : o.isLoad = true → ∀ b, notIn b ban = true → (∀ a, o.addr = some a → At (st.get a) b) → st'.vobj b = st.vobj b
  key : o.makes = true → ∀ s, d = some s → notIn (st.base + s) (st.ob.map Prod.fst) = true → notIn (st.base + s) (st'.ob.map Prod.fst) = true
  sel : ∀ o', o = .scal o' → ∀ cs b, o'.op ≠ .select cs b
  base : st'.base = st.base
  wild : o.wild = true → (∀ b, st'.obj b = st.obj b) ∧ ∀ b, notIn b (st'.ob.map Prod.fst) = notIn b (st.ob.map Prod.fst)
theorem fillN_agree {st st' : St} : ∀ (ps : List (Nat × Nat × Operand)) (cells : List PV) (k : List PV → Prop), (∀ x ∈ ps.map (fun p => p.2.2), st'.opd x = st.opd x) → fillN st cells ps k → fillN st' cells ps k := by
  intro ps
  induction ps with
  | nil => intro cells k _ h; exact h
  | cons p ps ih =>
    obtain ⟨off, sz, x⟩ := p
    intro cells k hx h
    have h1 : st'.opd x = st.opd x := hx x (by simp)
    simp only [fillN] at h ⊢
    rw [h1]
    cases g1 : lenIs (st.opd x).cells sz <;> cases g2 : ones (st.opd x).cells <;> cases g3 : lenGe cells (off + sz) <;> simp only [g1, g2, g3] at h ⊢ <;> first
      | exact h.elim
      | exact ih _ _ (fun y hy => hx y (by simp only [List.map_cons]; exact List.mem_cons_of_mem _ hy)) h
theorem elems_agree {st st' : St} (sz : Nat) : ∀ (ps : List Operand) (k : List (List PV) → Prop), (∀ x ∈ ps, st'.opd x = st.opd x) → elems st sz ps k → elems st' sz ps k := by
  intro ps
  induction ps with
  | nil => intro k _ h; exact h
  | cons x ps ih =>
    intro k hx h
    have h1 : st'.opd x = st.opd x := hx x (by simp)
    simp only [elems] at h ⊢
    rw [h1]
    cases g1 : lenIs (st.opd x).cells sz <;> cases g2 : ones (st.opd x).cells <;> simp only [g1, g2] at h ⊢ <;> first
      | exact h.elim
      | exact ih _ (fun y hy => hx y (List.mem_cons_of_mem _ hy)) h
theorem allVal_agree {st st' : St} : ∀ (l : List Operand), (∀ x ∈ l, st'.opd x = st.opd x) → allVal st' l = allVal st l := by
  intro l
  induction l with
  | nil => intro _; rfl
  | cons x l ih =>
    intro h
    simp only [allVal]
    rw [h x (by simp), ih (fun y hy => h y (List.mem_cons_of_mem _ hy))]
theorem locsOk_agree {st st' : St} : ∀ (l : List Operand), (∀ x ∈ l, st'.opd x = st.opd x) → locsOk st' ban l = locsOk st ban l := by
  intro l
  induction l with
  | nil => intro _; rfl
  | cons x l ih =>
    intro h
    have h1 := ih (fun y hy => h y (List.mem_cons_of_mem _ hy))
    cases ban with
    | nil => rfl
    | cons c r =>
      simp only [locsOk]
      rw [h x (by simp)]
      cases hq : st.opd x <;> first | exact h1 | (simp only [h1])
theorem locsOk_mem {st : St} : ∀ (l : List Operand), locsOk st ban l = true → ∀ x ∈ l, ∀ b off, st.opd x = .loc b off → notIn b ban = true := by
  intro l
  induction l with
  | nil => intro _ x hx; cases hx
  | cons y l ih =>
    intro h x hx b off hb
    cases hban : ban with
    | nil => rfl
    | cons c r =>
      rw [hban] at h
      simp only [locsOk] at h
      rcases List.mem_cons.1 hx with e | e
      · subst e
        rw [hb] at h
        simp only at h
        cases g : notIn b (c :: r) with
        | true => rfl
        | false => rw [g] at h; cases h
      · have hl : locsOk st (c :: r) l = true := by
          cases hy : st.opd y with
          | loc b' off' =>
            rw [hy] at h
            simp only at h
            cases g : notIn b' (c :: r) with
            | true => rw [g] at h; exact h
            | false => rw [g] at h; cases h
          | _ => rw [hy] at h; exact h
        rw [← hban] at hl ⊢
        exact ih hl x e b off hb
theorem bnd_agree {st st' : St} {d : Int} {x : Option Operand} (h : ∀ y ∈ optL x, st'.opd y = st.opd y) : st'.bnd d x = st.bnd d x := by
  cases x with
  | none => rfl
  | some y => simp only [St.bnd]; rw [h y (by simp [optL])]
theorem addr_loc {st : St} {x : Operand} {b off : Nat} (hq : st.opd x = .loc b off) {o : K} (ho : o.addr = aOf x) : ∀ a, o.addr = some a → At (st.get a) b := by
  intro a ha
  cases x with
  | tmp t => rw [ho] at ha; injection ha with ha; subst ha; exact .inl ⟨off, hq⟩
  | _ => rw [ho] at ha; cases ha
theorem addr_el {st : St} {x : Operand} {b sz i off : Nat} (hq : st.opd x = .el b sz i off) {o : K} (ho : o.addr = aOf x) : ∀ a, o.addr = some a → At (st.get a) b := by
  intro a ha
  cases x with
  | tmp t => rw [ho] at ha; injection ha with ha; subst ha; exact .inr ⟨sz, i, off, hq⟩
  | _ => rw [ho] at ha; cases ha
theorem view_pure0 (p : PV) : p.view.pure0 = p.pure0 := by cases p <;> rfl
theorem plain_view : ∀ l : List PV, plain (l.map PV.view) = plain l
  | [] => rfl
  | p :: l => by
    have := plain_view l
    cases p <;> first | exact this | rfl
theorem snap_view {O O' : Nat → List PV} {b off : Nat} (h : (O' b).map PV.view = (O b).map PV.view) : snap O' (.loc b off) = snap O (.loc b off) := by
  have e : ∀ l : List PV, ((l.map PV.view).map PV.pure0) = l.map PV.pure0 := fun l => by
    rw [List.map_map]; exact List.map_congr_left fun p _ => view_pure0 p
  have d : ((O' b).drop off).map PV.view = ((O b).drop off).map PV.view := by rw [List.map_drop, List.map_drop, h]
  have h1 : plain ((O' b).drop off) = plain ((O b).drop off) := by rw [← plain_view, d, plain_view]
  have h2 : ((O' b).drop off).map PV.pure0 = ((O b).drop off).map PV.pure0 := by rw [← e, d, e]
  simp only [snap, h1, h2]
theorem step_agree {o : K} {d : Option Nat} {st st' : St} (hA : Agree ban o d st st') {k : Delta → Prop} (h : stepD P (CStar P) (XStar P) ban o d st k) : stepD P (CStar P) (XStar P) ban o d st' k := by
  have ad : ∀ (x : Operand) (o : K), (o = .loadT x ∨ (∃ g sz, o = .load g sz x) ∨ (∃ sz y, o = .store sz x y) ∨ ∃ s, o = .storeT x s) → o.addr = aOf x := by
    intro x o ho
    rcases ho with rfl | ⟨g, sz, rfl⟩ | ⟨sz, y, rfl⟩ | ⟨s, rfl⟩ <;> cases x <;> rfl
  cases o with
  | move x => simp only [stepD, gd_and] at h ⊢; rw [hA.opd x (by simp [K.opds])]; exact h
  | nilsl e => exact h
  | take s =>
    simp only [stepD, gd_and] at h ⊢
    have : st'.get s = st.get s := hA.opd (.tmp s) (by simp [K.opds])
    rw [this]; exact h
  | pick c x y =>
    simp only [stepD, gd_and] at h ⊢
    rw [hA.opd c (by simp [K.opds]), hA.opd x (by simp [K.opds]), hA.opd y (by simp [K.opds])]; exact h
  | alloc z =>
    simp only [stepD, gd_and] at h ⊢
    cases d with
    | none => exact h
    | some s =>
      simp only at h ⊢
      rw [hA.base]
      cases g1 : notIn (st.base + s) (st.ob.map Prod.fst) with
      | false => rw [g1] at h; exact h.elim
      | true => rw [g1] at h; rw [hA.key rfl s rfl g1]; exact h
  | box x =>
    simp only [stepD, gd_and] at h ⊢
    rw [hA.opd x (by simp [K.opds])]
    cases d with
    | none => exact h
    | some s =>
      simp only at h ⊢
      rw [hA.base]
      cases g1 : notIn (st.base + s) (st.ob.map Prod.fst) with
      | false => rw [g1] at h; exact h.elim
      | true => rw [g1] at h; rw [hA.key rfl s rfl g1]; exact h
  | build z parts => simp only [stepD, gd_and] at h ⊢; exact fillN_agree _ _ _ (fun x hx => hA.opd x hx) h
  | bslice e sz parts => simp only [stepD, gd_and] at h ⊢; exact elems_agree _ _ _ (fun x hx => hA.opd x hx) h
  | load g sz x =>
    simp only [stepD, gd_and] at h ⊢
    rw [hA.opd x (by simp [K.opds])]
    cases hq : st.opd x with
    | loc b off =>
      rw [hq] at h
      simp only at h ⊢
      cases g1 : notIn b ban with
      | false => rw [g1] at h; exact h.elim
      | true => rw [g1] at h; rw [hA.vob rfl b g1 (addr_loc hq (ad x _ (.inr (.inl ⟨_, _, rfl⟩))))]; exact h
    | el b sz' i off =>
      rw [hq] at h
      simp only at h ⊢
      cases g1 : notIn b ban with
      | false => rw [g1] at h; exact h.elim
      | true => rw [g1] at h; rw [hA.vob rfl b g1 (addr_el hq (ad x _ (.inr (.inl ⟨_, _, rfl⟩))))]; exact h
    | _ => rw [hq] at h; exact h
  | loadT x =>
    simp only [stepD, gd_and] at h ⊢
    rw [hA.opd x (by simp [K.opds])]
    cases hq : st.opd x with
    | loc b off =>
      rw [hq] at h
      cases d with
      | none => exact h
      | some d =>
        dsimp only at h ⊢
        rw [hA.obj rfl rfl b (.inl rfl) (addr_loc hq (ad x _ (.inl rfl)))]; exact h
    | _ => rw [hq] at h; exact h
  | store sz x y =>
    simp only [stepD, gd_and] at h ⊢
    rw [hA.opd x (by simp [K.opds]), hA.opd y (by simp [K.opds])]
    cases hq : st.opd x with
    | loc b off =>
      rw [hq] at h
      dsimp only at h ⊢
      rw [hA.obj rfl rfl b (.inl rfl) (addr_loc hq (ad x _ (.inr (.inr (.inl ⟨_, _, rfl⟩)))))]; exact h
    | el b sz' i off =>
      rw [hq] at h
      simp only at h ⊢
      rw [hA.obj rfl rfl b (.inl rfl) (addr_el hq (ad x _ (.inr (.inr (.inl ⟨_, _, rfl⟩)))))]; exact h
    | _ => rw [hq] at h; exact h
  | storeT x s =>
    simp only [stepD, gd_and] at h ⊢
    have hs : st'.get s = st.get s := hA.opd (.tmp s) (by simp [K.opds])
    rw [hA.opd x (by simp [K.opds]), hs]
    cases hq : st.opd x with
    | loc b off =>
      rw [hq] at h
      dsimp only at h ⊢
      rw [hA.obj rfl rfl b (.inl rfl) (addr_loc hq (ad x _ (.inr (.inr (.inr ⟨_, rfl⟩)))))]; exact h
    | el b sz' i off =>
      rw [hq] at h
      simp only at h ⊢
      rw [hA.obj rfl rfl b (.inl rfl) (addr_el hq (ad x _ (.inr (.inr (.inr ⟨_, rfl⟩)))))]; exact h
    | _ => rw [hq] at h; exact h
  | scal o =>
    simp only [stepD, scalK] at h ⊢
    rw [allVal_agree o.op.operands.toList (fun x hx => hA.opd x hx)]
    have : execOp st'.valOf o = execOp st.valOf o := execOp_congr o (hA.sel o rfl) (fun x hx => by
      have := hA.opd x (by simpa [K.opds] using hx)
      simp only [St.valOf, this])
    rw [this]; exact h
  | bin2 tag x y => simp only [stepD, gd_and, nilCmp] at h ⊢; rw [hA.opd x (by simp [K.opds]), hA.opd y (by simp [K.opds])]; exact h
  | eqA neg ts x y => simp only [stepD, gd_and] at h ⊢; rw [hA.opd x (by simp [K.opds]), hA.opd y (by simp [K.opds])]; exact h
  | field off x => simp only [stepD, gd_and] at h ⊢; rw [hA.opd x (by simp [K.opds])]; exact h
  | index sz x i => simp only [stepD, gd_and] at h ⊢; rw [hA.opd x (by simp [K.opds]), hA.opd i (by simp [K.opds])]; exact h
  | len x => simp only [stepD, gd_and] at h ⊢; rw [hA.opd x (by simp [K.opds])]; exact h
  | cap x => simp only [stepD, gd_and] at h ⊢; rw [hA.opd x (by simp [K.opds])]; exact h
  | app e sz by_ s x =>
    simp only [stepD, gd_and] at h ⊢
    have : st'.get s = st.get s := hA.opd (.tmp s) (by simp [K.opds])
    rw [hA.opd x (by simp [K.opds]), this]; exact h
  | clone cm e sz by_ s x =>
    simp only [stepD, gd_and] at h ⊢
    have hs' : st'.get s = st.get s := hA.opd (.tmp s) (by simp [K.opds])
    rw [hA.opd x (by simp [K.opds]), hs', hA.base]
    cases d with
    | none => exact h
    | some d =>
      cases hn : LX.nil e with
      | none => rw [hn] at h; exact h
      | some n =>
        rw [hn] at h
        dsimp only at h ⊢
        cases g1 : notIn (st.base + d) (st.ob.map Prod.fst) with
        | true => rw [g1] at h; rw [hA.key rfl d rfl g1]; exact h
        | false => rw [g1] at h; exact h.elim
  | call f args =>
    simp only [stepD, gd_and] at h ⊢
    rw [locsOk_agree args (fun x hx => hA.opd x hx)]
    cases g1 : locsOk st ban args with
    | false => rw [g1] at h; exact h.elim
    | true =>
      rw [g1] at h
      have : args.map (fun x => snap st'.obj (st'.opd x)) = args.map (fun x => snap st.obj (st.opd x)) := by
        apply List.map_congr_left
        intro x hx
        rw [hA.opd x hx]
        cases hq : st.opd x with
        | loc b off => exact snap_view (hA.vob rfl b (locsOk_mem _ g1 x hx b off hq) (fun a ha => by cases ha))
        | _ => rfl
      rw [this]; exact h
  | icall f args =>
    simp only [stepD, gd_and] at h ⊢
    obtain ⟨w1, w2⟩ := hA.wild rfl
    obtain ⟨hc, r, o', hI, hk⟩ := h
    have : args.map (fun x => (st'.opd x).view) = args.map (fun x => (st.opd x).view) := List.map_congr_left fun x hx => by rw [hA.opd x hx]
    rw [this]
    exact ⟨hc, r, o', hI.congr w1 w2, hk⟩
  | callv x args =>
    simp only [stepD, gd_and] at h ⊢
    obtain ⟨w1, w2⟩ := hA.wild rfl
    have : args.map (fun x => (st'.opd x).view) = args.map (fun x => (st.opd x).view) := List.map_congr_left fun y hy => by rw [hA.opd y (by simp [K.opds, hy])]
    rw [this, hA.opd x (by simp [K.opds])]
    split at h
    · obtain ⟨hc, r, o', hI, hk⟩ := h
      exact ⟨hc, r, o', hI.congr w1 w2, hk⟩
    · exact h.elim
  | mkfn f n caps =>
    simp only [stepD, gd_and] at h ⊢
    have : caps.map (fun x => (st'.opd x).view) = caps.map (fun x => (st.opd x).view) := List.map_congr_left fun x hx => by rw [hA.opd x hx]
    rw [this]; exact h
  | extract x i => simp only [stepD, gd_and] at h ⊢; rw [hA.opd x (by simp [K.opds])]; exact h
  | nil x => simp only [stepD, gd_and] at h ⊢; rw [hA.opd x (by simp [K.opds])]; exact h
  | mksl e sz by_ z n =>
    simp only [stepD, gd_and] at h ⊢
    rw [hA.opd n (by simp [K.opds]), hA.base]
    cases d with
    | none => exact h
    | some s =>
      cases g1 : notIn (st.base + s) (st.ob.map Prod.fst) with
      | true =>
        have g2 := hA.key rfl s rfl g1
        split at h
        · rename_i s' m hs hv
          injection hs with hs
          subst hs
          rw [g2]
          rw [g1] at h
          exact h
        · exact h.elim
      | false =>
        split at h
        · rename_i s' m hs hv
          injection hs with hs
          subst hs
          rw [g1] at h
          split at h
          · split at h
            · rename_i e _; cases e
            · exact h.elim
          · split at h
            · rename_i e _; cases e
            · exact h.elim
        · exact h.elim
  | mkcap e sz by_ n => simp only [stepD, gd_and] at h ⊢; rw [hA.opd n (by simp [K.opds])]; exact h
  | slc sz x lo hi mx =>
    simp only [stepD, gd_and, gdIf_and] at h ⊢
    have e1 : ∀ d, st'.bnd d lo = st.bnd d lo := fun d => bnd_agree fun y hy => hA.opd y (by simp [K.opds, hy])
    have e2 : ∀ d, st'.bnd d hi = st.bnd d hi := fun d => bnd_agree fun y hy => hA.opd y (by simp [K.opds, hy])
    have e3 : ∀ d, st'.bnd d mx = st.bnd d mx := fun d => bnd_agree fun y hy => hA.opd y (by simp [K.opds, hy])
    rw [hA.opd x (by simp [K.opds])]
    simp only [e1, e2, e3]; exact h
  | sstr x lo hi =>
    simp only [stepD, gd_and] at h ⊢
    have e1 : ∀ d, st'.bnd d lo = st.bnd d lo := fun d => bnd_agree fun y hy => hA.opd y (by simp [K.opds, hy])
    have e2 : ∀ d, st'.bnd d hi = st.bnd d hi := fun d => bnd_agree fun y hy => hA.opd y (by simp [K.opds, hy])
    rw [hA.opd x (by simp [K.opds])]
    simp only [e1, e2]; exact h
  | mkmap gk gv ks vs =>
    simp only [stepD, gd_and] at h ⊢
    cases d with
    | none => exact h
    | some s =>
      simp only at h ⊢
      rw [hA.base]
      cases g1 : notIn (st.base + s) (st.ob.map Prod.fst) with
      | false => rw [g1] at h; exact h.elim
      | true => rw [g1] at h; rw [hA.key rfl s rfl g1]; exact h
  | lookup gq ts ok g z m q =>
    simp only [stepD, gd_and] at h ⊢
    rw [hA.opd m (by simp [K.opds]), hA.opd q (by simp [K.opds])]
    cases hq : st.opd m with
    | mp b =>
      rw [hq] at h
      simp only at h ⊢
      cases g1 : notIn b ban with
      | false => rw [g1] at h; exact h.elim
      | true => rw [g1] at h; rw [hA.obj rfl rfl b (.inr g1) (fun a ha => by cases ha)]; exact h
    | _ => rw [hq] at h; exact h
  | mapup gq ts m q v =>
    simp only [stepD, gd_and] at h ⊢
    rw [hA.opd m (by simp [K.opds]), hA.opd q (by simp [K.opds]), hA.opd v (by simp [K.opds])]
    cases hq : st.opd m with
    | mp b =>
      rw [hq] at h
      dsimp only at h ⊢
      rw [hA.obj rfl rfl b (.inl rfl) (fun a ha => by cases ha)]; exact h
    | _ => rw [hq] at h; exact h
  | del gq ts m q =>
    simp only [stepD, gd_and] at h ⊢
    rw [hA.opd m (by simp [K.opds]), hA.opd q (by simp [K.opds])]
    cases hq : st.opd m with
    | mp b =>
      rw [hq] at h
      dsimp only at h ⊢
      rw [hA.obj rfl rfl b (.inl rfl) (fun a ha => by cases ha)]; exact h
    | _ => rw [hq] at h; exact h
  | ocall f args =>
    simp only [stepD, gd_and] at h ⊢
    have e0 : flatAll st' args = flatAll st args := flatAll_agree args (fun x hx => hA.opd x hx)
    have : args.map (fun x => (st'.opd x).view) = args.map (fun x => (st.opd x).view) := List.map_congr_left fun x hx => by rw [hA.opd x hx]
    rw [e0, this]
    exact h
  | bstr x => simp only [stepD, gd_and] at h ⊢; rw [hA.opd x (by simp [K.opds])]; exact h
  | icallT f args s =>
    simp only [stepD, gd_and] at h ⊢
    cases g1 : onceO s args with
    | false => rw [g1] at h; exact h.elim
    | true =>
      rw [g1] at h
      simp only at h ⊢
      obtain ⟨w1, w2⟩ := hA.wild rfl
      obtain ⟨hc, r, o', hI, hk⟩ := h
      have e0 : st'.get s = st.get s := hA.opd (.tmp s) (by simp [K.opds])
      have : args.map (fun x => st'.argT s x) = args.map (fun x => st.argT s x) := List.map_congr_left fun x hx => by
        have h2 := hA.opd x (by simp [K.opds, hx])
        cases x with
        | tmp t =>
          have h2 : st'.get t = st.get t := h2
          simp only [St.argT, h2]
        | _ => simp only [St.argT]; rw [h2]
      rw [this, e0]
      exact ⟨hc, r, o', hI.congr w1 w2, hk⟩
  | ext sub x y c => simp only [stepD, gd_and] at h ⊢; rw [hA.opd x (by simp [K.opds]), hA.opd y (by simp [K.opds]), hA.opd c (by simp [K.opds])]; exact h
  | aidx off sz g x => simp only [stepD, gd_and] at h ⊢; rw [hA.opd x (by simp [K.opds])]; exact h
  | stop => exact h
/-- what an operation touches -/
def Foot (o : K) (d : Option Nat) (st : St) (b : Nat) : Prop := (o.isStore = true ∧ ∀ a, o.addr = some a → At (st.get a) b) ∨ (o.makes = true ∧ ∃ s, d = some s ∧ b = st.base + s)
theorem step_foot {o : K} {d : Option Nat} {st : St} {δ : Delta} (h : stepD P (CStar P) (XStar P) ban o d st (fun δ' => δ' = δ)) :
    (∀ s ∈ δ.s.map Prod.fst, s ∈ EOp.writes ⟨d, none, o⟩) ∧ (∀ b ∈ δ.o.map Prod.fst, Foot o d st b) := by
  have put : ∀ (p : PV), dput d p = δ → (∀ s ∈ δ.s.map Prod.fst, s ∈ EOp.writes ⟨d, none, o⟩) ∧ (∀ b ∈ δ.o.map Prod.fst, Foot o d st b) := by
    intro p e
    subst e
    cases d with
    | none => exact ⟨fun s hs => by simp [dput] at hs, fun b hb => by simp [dput] at hb⟩
    | some x => exact ⟨fun s hs => by simp [dput] at hs; simp [EOp.writes, hs], fun b hb => by simp [dput] at hb⟩
  have ad : ∀ (x : Operand) (o : K), (o = .loadT x ∨ (∃ g sz, o = .load g sz x) ∨ (∃ sz y, o = .store sz x y) ∨ ∃ s, o = .storeT x s) → o.addr = aOf x := by
    intro x o ho
    rcases ho with rfl | ⟨g, sz, rfl⟩ | ⟨sz, y, rfl⟩ | ⟨s, rfl⟩ <;> cases x <;> rfl
  cases o with
  | move x => exact put _ h
  | nilsl e =>
    simp only [stepD, gd_and] at h
    split at h
    · subst h; exact ⟨fun y hy => by simpa [EOp.writes] using hy, fun b hb => by simp at hb⟩
    · exact h.elim
  | take s =>
    cases d with
    | none => exact h.elim
    | some x => subst h; exact ⟨fun y hy => by simpa [EOp.writes] using hy, fun b hb => by simp at hb⟩
  | pick c x y =>
    simp only [stepD, gd_and] at h
    split at h
    · rename_i t _
      cases t <;> exact put _ h
    · exact h.elim
  | alloc z =>
    simp only [stepD, gd_and] at h
    cases d with
    | none => exact h.elim
    | some s =>
      simp only at h
      split at h
      · subst h
        exact ⟨fun y hy => by simpa [EOp.writes] using hy, fun b hb => by simp at hb; subst hb; exact .inr ⟨rfl, s, rfl, rfl⟩⟩
      · exact h.elim
  | box x =>
    simp only [stepD, gd_and] at h
    cases d with
    | none => exact h.elim
    | some s =>
      simp only at h
      split at h
      · subst h
        exact ⟨fun y hy => by simpa [EOp.writes] using hy, fun b hb => by simp at hb; subst hb; exact .inr ⟨rfl, s, rfl, rfl⟩⟩
      · exact h.elim
  | build z parts =>
    simp only [stepD, gd_and] at h
    obtain ⟨l, h1, _⟩ := fillN_pick st _ _ _ h
    exact put _ h1
  | bslice e sz parts =>
    simp only [stepD, gd_and] at h
    obtain ⟨l, h1, _⟩ := elems_pick st _ _ _ h
    split at h1
    · split at h1
      · exact put _ h1
      · exact h1.elim
    · exact put _ h1
  | load g sz x =>
    simp only [stepD, gd_and] at h
    split at h
    · split at h
      · exact put _ h
      · exact h.elim
    · split at h
      · exact put _ h
      · exact h.elim
    · split at h
      · split at h
        · exact put _ h
        · exact h.elim
      · exact h.elim
    · exact h.elim
  | loadT x =>
    simp only [stepD, gd_and] at h
    split at h
    · rename_i b off d' hq
      split at h
      · subst h
        exact ⟨fun y hy => by simpa [EOp.writes] using hy, fun b' hb => by simp at hb; subst hb; exact .inl ⟨rfl, addr_loc hq (ad x _ (.inl rfl))⟩⟩
      · exact h.elim
    · exact h.elim
  | store sz x y =>
    simp only [stepD, gd_and] at h
    split at h
    · rename_i b off hq
      split at h
      · subst h
        exact ⟨fun y hy => by simp at hy, fun b' hb => by simp at hb; subst hb; exact .inl ⟨rfl, addr_loc hq (ad x _ (.inr (.inr (.inl ⟨_, _, rfl⟩))))⟩⟩
      · exact h.elim
    · rename_i b sz' i off hq
      split at h
      · split at h
        · subst h
          exact ⟨fun y hy => by simp at hy, fun b' hb => by simp at hb; subst hb; exact .inl ⟨rfl, addr_el hq (ad x _ (.inr (.inr (.inl ⟨_, _, rfl⟩))))⟩⟩
        · exact h.elim
      · exact h.elim
    · exact h.elim
  | storeT x s =>
    simp only [stepD, gd_and] at h
    split at h
    · rename_i b off hq
      split at h
      · subst h
        exact ⟨fun y hy => by simp at hy; simp [EOp.writes, hy], fun b' hb => by simp at hb; subst hb; exact .inl ⟨rfl, addr_loc hq (ad x _ (.inr (.inr (.inr ⟨_, rfl⟩))))⟩⟩
      · exact h.elim
    · rename_i b sz' i off hq
      split at h
      · split at h
        · subst h
          exact ⟨fun y hy => by simp at hy; simp [EOp.writes, hy], fun b' hb => by simp at hb; subst hb; exact .inl ⟨rfl, addr_el hq (ad x _ (.inr (.inr (.inr ⟨_, rfl⟩))))⟩⟩
        · exact h.elim
      · exact h.elim
    · exact h.elim
  | scal o =>
    simp only [stepD, scalK] at h
    cases g1 : allVal st o.op.operands.toList with
    | false => rw [g1] at h; exact h.elim
    | true =>
      rw [g1] at h
      obtain ⟨n, h1, _⟩ := pureRun_pick _ _ h
      cases n with
      | value v =>
        simp only at h1
        cases g2 : oneV v with
        | false => rw [g2] at h1; exact h1.elim
        | true => rw [g2] at h1; exact put _ h1
      | _ => exact h1.elim
  | bin2 tag x y =>
    simp only [stepD, gd_and] at h
    split at h
    · split at h
      · rename_i c r _
        cases c with
        | true => exact put _ h
        | false => exact h.elim
      · exact h.elim
    · unfold nilCmp at h
      split at h
      · split at h
        · simp only [gd_and] at h
          exact put _ h.2
        · simp only [gd_and] at h
          exact put _ h.2
        · exact h.elim
      · exact h.elim
    · exact h.elim
  | eqA neg ts x y =>
    simp only [stepD, gd_and] at h
    split at h
    · split at h
      · cases neg <;> exact put _ h
      · exact h.elim
    · exact h.elim
  | field off x =>
    simp only [stepD, gd_and] at h
    split at h <;> first | exact h.elim | exact put _ h
  | index sz x i =>
    simp only [stepD, gd_and] at h
    split at h
    · split at h <;> first | exact h.elim | exact put _ h.2.2
    · split at h
      · split at h
        · exact put _ h.2.2
        · exact h.elim
      · exact h.elim
    · exact h.elim
  | len x =>
    simp only [stepD, gd_and] at h
    split at h
    · exact put _ h
    · exact put _ h
    · split at h
      · exact put _ h
      · exact h.elim
  | cap x =>
    simp only [stepD, gd_and] at h
    split at h
    · exact put _ h
    · exact h.elim
  | app e sz by_ s x =>
    simp only [stepD, gd_and] at h
    cases d with
    | none => exact h.elim
    | some d =>
      simp only at h
      split at h
      · split at h
        · have h' := h.2.2
          subst h'
          exact ⟨fun y hy => by simpa [EOp.writes] using hy, fun b hb => by simp at hb⟩
        · exact h.elim
      · split at h
        · subst h
          exact ⟨fun y hy => by simpa [EOp.writes] using hy, fun b hb => by simp at hb⟩
        · exact h.elim
      · split at h
        · have h' := h.2.2
          subst h'
          exact ⟨fun y hy => by simp at hy; simp [EOp.writes, hy], fun b hb => by simp at hb⟩
        · exact h.elim
      · exact h.elim
  | clone cm e sz by_ s x =>
    simp only [stepD, gd_and] at h
    split at h
    · rename_i d n _
      split at h
      · split at h
        · rename_i own q _
          split at h
          · cases hb : Nat.beq q.len 0 with
            | true =>
              rw [hb] at h
              have h' : _ = δ := h
              subst h'
              exact ⟨fun y hy => by simpa [EOp.writes] using hy, fun b hb => by simp at hb⟩
            | false =>
              rw [hb] at h
              have h' := h.2.2
              subst h'
              exact ⟨fun y hy => by simpa [EOp.writes] using hy, fun b hb => by simp at hb; subst hb; exact .inr ⟨rfl, d, rfl, rfl⟩⟩
          · exact h.elim
        · exact h.elim
      · exact h.elim
    · exact h.elim
  | call f args =>
    simp only [stepD, gd_and] at h
    split at h
    · obtain ⟨r, _, h2⟩ := h; exact put _ h2
    · exact h.elim
  | icall f args =>
    simp only [stepD, gd_and] at h
    obtain ⟨_, r, o', _, h2⟩ := h
    refine ⟨fun s hs => ?_, fun b _ => .inl ⟨rfl, fun a ha => by cases ha⟩⟩
    have : δ.s = (dput d r).s := by rw [← h2]
    rw [this] at hs
    cases d with
    | none => simp [dput] at hs
    | some x => simp [dput] at hs; simp [EOp.writes, hs]
  | callv x args =>
    simp only [stepD, gd_and] at h
    split at h
    · obtain ⟨_, r, o', _, h2⟩ := h
      refine ⟨fun s hs => ?_, fun b _ => .inl ⟨rfl, fun a ha => by cases ha⟩⟩
      have : δ.s = (dput d r).s := by rw [← h2]
      rw [this] at hs
      cases d with
      | none => simp [dput] at hs
      | some x => simp [dput] at hs; simp [EOp.writes, hs]
    · exact h.elim
  | mkfn f n caps => exact put _ h
  | extract x i =>
    simp only [stepD, gd_and] at h
    split at h
    · split at h
      · exact put _ h
      · exact h.elim
    · exact h.elim
  | nil x =>
    simp only [stepD, gd_and] at h
    split at h <;> first | exact h.elim | exact put _ h
  | mksl e sz by_ z n =>
    simp only [stepD, gd_and] at h
    split at h
    · rename_i s m hv
      split at h
      · split at h
        · subst h
          exact ⟨fun y hy => by simpa [EOp.writes] using hy, fun b hb => by simp at hb; subst hb; exact .inr ⟨rfl, s, rfl, rfl⟩⟩
        · exact h.elim
      · split at h
        · split at h
          · have h' := h.2.2.2
            subst h'
            exact ⟨fun y hy => by simpa [EOp.writes] using hy, fun b hb => by simp at hb; subst hb; exact .inr ⟨rfl, s, rfl, rfl⟩⟩
          · exact h.elim
        · exact h.elim
    · exact h.elim
  | mkcap e sz by_ n =>
    simp only [stepD, gd_and] at h
    split at h
    · split at h
      · have h' := h.2.2.2
        subst h'
        exact ⟨fun y hy => by simpa [EOp.writes] using hy, fun b hb => by simp at hb⟩
      · exact h.elim
    · exact h.elim
  | slc sz x lo hi mx =>
    simp only [stepD, gd_and, gdIf_and] at h
    split at h
    · split at h
      · split at h
        · split at h
          · exact put _ h.2.2.2.2.2
          · exact h.elim
        · exact h.elim
      · exact h.elim
    · exact h.elim
  | sstr x lo hi =>
    simp only [stepD, gd_and] at h
    split at h
    · split at h
      · split at h
        · exact put _ h.2.2.2
        · exact h.elim
      · exact h.elim
    · exact h.elim
  | mkmap gk gv ks vs =>
    simp only [stepD, gd_and] at h
    cases d with
    | none => exact h.elim
    | some s =>
      simp only at h
      split at h
      · subst h
        exact ⟨fun y hy => by simpa [EOp.writes] using hy, fun b hb => by simp at hb; subst hb; exact .inr ⟨rfl, s, rfl, rfl⟩⟩
      · exact h.elim
  | lookup gq ts ok g z m q =>
    simp only [stepD, gd_and] at h
    split at h
    · split at h
      · split at h
        · rename_i r _ _ _
          cases r <;> exact put _ h
        · exact h.elim
      · exact h.elim
    · exact h.elim
  | mapup gq ts m q v =>
    have fin : ∀ (b : Nat) (l : List PV), (⟨[], [(b, l)]⟩ : Delta) = δ → (∀ s ∈ δ.s.map Prod.fst, s ∈ EOp.writes ⟨d, none, .mapup gq ts m q v⟩) ∧ (∀ b ∈ δ.o.map Prod.fst, Foot (.mapup gq ts m q v) d st b) := by
      intro b l e
      subst e
      exact ⟨fun y hy => by simp at hy, fun b' hb => .inl ⟨rfl, fun a ha => by cases ha⟩⟩
    simp only [stepD, gd_and] at h
    split at h
    · split at h
      · split at h
        · rename_i r c _ _ _
          cases r with
          | none =>
            simp only [fk] at h
            split at h
            · exact fin _ _ h
            · exact h.elim
          | some i =>
            simp only [fk] at h
            split at h
            · exact fin _ _ h
            · exact h.elim
        · exact h.elim
      · exact h.elim
    · exact h.elim
  | del gq ts m q =>
    simp only [stepD, gd_and] at h
    split at h
    · split at h
      · split at h
        · rename_i r _ _
          cases r with
          | none =>
            simp only [fk] at h
            subst h
            exact ⟨fun y hy => by simp at hy, fun b' hb => by simp at hb⟩
          | some i =>
            simp only [fk] at h
            split at h
            · subst h
              exact ⟨fun y hy => by simp at hy, fun b' hb => .inl ⟨rfl, fun a ha => by cases ha⟩⟩
            · exact h.elim
        · exact h.elim
      · exact h.elim
    · exact h.elim
  | ocall f args =>
    simp only [stepD, gd_and] at h
    split at h
    · obtain ⟨hc, r, o', h1, h2⟩ := h
      unfold ownR at h2
      split at h2
      · exact put _ h2
      · exact h2.elim
    · exact h.elim
  | bstr x =>
    simp only [stepD, gd_and] at h
    split at h
    · split at h
      · exact put _ h
      · exact h.elim
    · exact put _ h
    · exact h.elim
  | icallT f args s0 =>
    simp only [stepD, gd_and] at h
    split at h
    · obtain ⟨_, r, o', _, h2⟩ := h
      refine ⟨fun s hs => ?_, fun b _ => .inl ⟨rfl, fun a ha => by cases ha⟩⟩
      have : δ.s = (dput d r).s ++ [(s0, (st.get s0).view)] := by rw [← h2]
      rw [this] at hs
      cases d with
      | none => simp [dput] at hs; simp [EOp.writes, hs]
      | some x => simp [dput] at hs; simp [EOp.writes]; exact hs
    · exact h.elim
  | ext sub x y c =>
    simp only [stepD, gd_and] at h
    split at h
    · exact put _ h.2
    · exact h.elim
  | aidx off sz g x =>
    simp only [stepD, gd_and] at h
    split at h
    · split at h
      · exact put _ h
      · exact h.elim
    · exact h.elim
  | stop => exact h.elim
end
end Go.Proofs.YtpdlcbmnmeihoaaGreatDoor.Ev
namespace Go.Proofs.YtpdlcbmnmeihoaaGreatDoor.Ev
open Go Go.RowKit
structure StEq (s t : St) : Prop where
  base : s.base = t.base
  get : ∀ x, s.get x = t.get x
  obj : ∀ d, s.obj d = t.obj d
  key : ∀ d, notIn d (s.ob.map Prod.fst) = notIn d (t.ob.map Prod.fst)
theorem StEq.refl (s : St) : StEq s s := ⟨rfl, fun _ => rfl, fun _ => rfl, fun _ => rfl⟩
theorem StEq.symm {s t : St} (h : StEq s t) : StEq t s := ⟨h.base.symm, fun x => (h.get x).symm, fun d => (h.obj d).symm, fun d => (h.key d).symm⟩
theorem StEq.trans {s t u : St} (h : StEq s t) (h' : StEq t u) : StEq s u := ⟨h.base.trans h'.base, fun x => (h.get x).trans (h'.get x), fun d => (h.obj d).trans (h'.obj d), fun d => (h.key d).trans (h'.key d)⟩
theorem app_get (st : St) (δ : Delta) (s : Nat) : (st.app δ).get s = if s ∈ δ.s.map Prod.fst then look .any δ.s s else st.get s := look_app _ _ _ _
theorem app_obj (st : St) (δ : Delta) (s : Nat) : (st.app δ).obj s = if s ∈ δ.o.map Prod.fst then look [] δ.o s else st.obj s := (mrg_look _ _ _).trans (look_app _ _ _ _)
theorem app_key (st : St) (δ : Delta) (s : Nat) : notIn s ((st.app δ).ob.map Prod.fst) = (notIn s (δ.o.map Prod.fst) && notIn s (st.ob.map Prod.fst)) := by
  rw [← notIn_app, ← List.map_append]; exact mrg_key _ _ _
theorem StEq.app {s t : St} (h : StEq s t) (δ : Delta) : StEq (s.app δ) (t.app δ) :=
  ⟨h.base, fun x => by rw [app_get, app_get, h.get], fun x => by rw [app_obj, app_obj, h.obj], fun x => by rw [app_key, app_key, h.key]⟩
section
variable {ι : Type} {cx : ι → PV × Value} {P : Program} {C : Oracle} {X : Inl} {ban : List Nat} {w0 : Base} {w : World} {N M : Mut} {β : Loc} {nt : Nat} {st : St} {a : Act}
theorem SR.equiv {st' : St} (h : SR cx w0 N nt st a w M β) (he : StEq st st') : SR cx w0 N nt st' a w M β := by
  have e1 : st'.obj = st.obj := funext fun d => (he.obj d).symm
  have e2 : (fun d => notIn d (st'.ob.map Prod.fst)) = fun d => notIn d (st.ob.map Prod.fst) := funext fun d => (he.key d).symm
  have e3 : hold cx st' a = hold cx st a := funext fun k => by
    cases k with
    | inl s => simp only [hold]; rw [he.get]
    | inr i => rfl
  refine ⟨h.defs, h.nt, ?_⟩
  rw [e1, e2, e3]; exact h.sh
theorem StEq.opd {s t : St} (h : StEq s t) (x : Operand) : t.opd x = s.opd x := by
  cases x with
  | tmp n => exact (h.get n).symm
  | _ => rfl
theorem StEq.agree {s t : St} (h : StEq s t) (o : K) (d : Option Nat) (hsel : ∀ o', o = .scal o' → ∀ cs b, o'.op ≠ .select cs b) : Agree ban o d s t :=
  ⟨fun x _ => h.opd x, fun _ _ b _ _ => (h.obj b).symm, fun _ b _ _ => by unfold St.vobj; rw [h.obj b], fun _ s _ hs => by rw [← h.key]; exact hs, hsel, h.base.symm, fun _ => ⟨fun b => (h.obj b).symm, fun b => (h.key b).symm⟩⟩
/-- one operation, its guard looked at -/
def OStep (P : Program) (ban : List Nat) (eo : EOp) (st : St) (δ : Delta) : Prop := match eo.g with
  | none => stepD P (CStar P) (XStar P) ban eo.k eo.dst st (fun δ' => δ' = δ)
  | some (s, want) => (∃ t, st.get s = .val (.bool t) ∧ (t = want → stepD P (CStar P) (XStar P) ban eo.k eo.dst st (fun δ' => δ' = δ)) ∧ (t ≠ want → δ = dput eo.dst (.tup []))) ∨ (st.get s = .tup [] ∧ δ = dput eo.dst (.tup []))
inductive Run (P : Program) (ban : List Nat) : List EOp → St → List Delta → St → Prop
  | nil (st : St) : Run P ban [] st [] st
  | cons (eo : EOp) (l : List EOp) (st st' : St) (δ : Delta) (δs : List Delta) (h : OStep P ban eo st δ) (hr : Run P ban l (st.app δ) δs st') : Run P ban (eo :: l) st (δ :: δs) st'
theorem put_eq {st : St} {s : Nat} {p : PV} (h : st.get s = p) : StEq (st.put s p) st :=
  ⟨rfl, fun x => by
    have : (st.put s p).get x = if s = x then p else st.get x := look_one _ _ _ _ _
    rw [this]
    by_cases e : s = x
    · subst e; rw [if_pos rfl, h]
    · rw [if_neg e], fun _ => rfl, fun _ => rfl⟩
theorem evOps_run (hC : SoundC P C) (hX : SoundX P X) : ∀ (l : List EOp) (st st0 : St) (k : St → Prop), (∀ eo ∈ l, ∀ o', eo.k = .scal o' → ∀ cs b, o'.op ≠ .select cs b) → StEq st st0 → evOps P C X ban l st k →
    ∃ δs st1 st', Run P ban l st0 δs st1 ∧ StEq st' st1 ∧ k st' := by
  intro l
  induction l with
  | nil => intro st st0 k _ he h; exact ⟨[], st0, st, .nil _, he, h⟩
  | cons eo l ih =>
    intro st st0 k hsel he h
    have hsel1 := hsel eo (by simp)
    have hsel2 : ∀ eo ∈ l, ∀ o', eo.k = .scal o' → ∀ cs b, o'.op ≠ .select cs b := fun e hm => hsel e (List.mem_cons_of_mem _ hm)
    have run1 : ∀ (su : St), StEq su st0 → stepD P C X ban eo.k eo.dst su (fun δ => evOps P C X ban l (su.app δ) k) →
        ∃ δ, stepD P (CStar P) (XStar P) ban eo.k eo.dst st0 (fun δ' => δ' = δ) ∧ ∃ δs st1 st', Run P ban l (st0.app δ) δs st1 ∧ StEq st' st1 ∧ k st' := by
      intro su hu hs
      obtain ⟨δ, h1, h2⟩ := step_star hC hX _ _ _ _ hs
      exact ⟨δ, step_agree (hu.agree _ _ hsel1) (h2 (fun δ' => δ' = δ) rfl), ih _ _ _ hsel2 (hu.app δ) h1⟩
    simp only [evOps] at h
    cases hg : eo.g with
    | none =>
      rw [hg] at h
      obtain ⟨δ, h1, δs, st1, st', h2, h3, h4⟩ := run1 st he h
      exact ⟨δ :: δs, st1, st', .cons eo l st0 st1 δ δs (by unfold OStep; rw [hg]; exact h1) h2, h3, h4⟩
    | some sw =>
      obtain ⟨s, want⟩ := sw
      rw [hg] at h
      simp only at h
      cases hq : st.get s with
      | val v =>
        rw [hq] at h
        cases v with
        | bool t =>
          have hq0 : st0.get s = .val (.bool t) := by rw [← he.get, hq]
          have hu : StEq (st.put s (.val (.bool t))) st0 := (put_eq hq).trans he
          have skip : evOps P C X ban l ((st.put s (.val (.bool t))).app (dput eo.dst (.tup []))) k → t ≠ want →
              ∃ δs st1 st', Run P ban (eo :: l) st0 δs st1 ∧ StEq st' st1 ∧ k st' := by
            intro hs hne
            obtain ⟨δs, st1, st', h2, h3, h4⟩ := ih _ (st0.app (dput eo.dst (.tup []))) _ hsel2 (hu.app _) hs
            exact ⟨_ :: δs, st1, st', .cons eo l st0 st1 _ δs (by unfold OStep; rw [hg]; exact .inl ⟨t, hq0, fun e => absurd e hne, fun _ => rfl⟩) h2, h3, h4⟩
          have take : stepD P C X ban eo.k eo.dst (st.put s (.val (.bool t))) (fun δ => evOps P C X ban l ((st.put s (.val (.bool t))).app δ) k) → t = want →
              ∃ δs st1 st', Run P ban (eo :: l) st0 δs st1 ∧ StEq st' st1 ∧ k st' := by
            intro hs heq
            obtain ⟨δ, h1, δs, st1, st', h2, h3, h4⟩ := run1 _ hu hs
            exact ⟨δ :: δs, st1, st', .cons eo l st0 st1 δ δs (by unfold OStep; rw [hg]; exact .inl ⟨t, hq0, fun _ => h1, fun e => absurd heq e⟩) h2, h3, h4⟩
          cases t <;> cases want <;> simp only [br] at h <;> first | exact take h rfl | exact skip h (by decide)
        | _ => exact h.elim
      | tup l0 =>
        rw [hq] at h
        cases l0 with
        | nil =>
          have hq0 : st0.get s = .tup [] := by rw [← he.get, hq]
          obtain ⟨δs, st1, st', h2, h3, h4⟩ := ih _ (st0.app (dput eo.dst (.tup []))) _ hsel2 (he.app _) h
          exact ⟨_ :: δs, st1, st', .cons eo l st0 st1 _ δs (by unfold OStep; rw [hg]; exact .inr ⟨hq0, rfl⟩) h2, h3, h4⟩
        | cons _ _ => exact h.elim
      | _ => rw [hq] at h; exact h.elim
/-- the state when just those of a mask have been carried out -/
def stM : List Delta → (Nat → Bool) → St → St
  | [], _, st => st
  | δ :: r, m, st => stM r (fun i => m (i + 1)) (if m 0 then st.app δ else st)
theorem stM_congr : ∀ (δs : List Delta) (m m' : Nat → Bool) (st : St), (∀ i, i < δs.length → m i = m' i) → stM δs m st = stM δs m' st := by
  intro δs
  induction δs with
  | nil => intro m m' st _; rfl
  | cons δ r ih =>
    intro m m' st h
    simp only [stM]
    rw [h 0 (by simp)]
    exact ih _ _ _ (fun i hi => h (i + 1) (by simp; omega))
theorem stM_none : ∀ (δs : List Delta) (m : Nat → Bool) (st : St), (∀ i, i < δs.length → m i = false) → stM δs m st = st := by
  intro δs
  induction δs with
  | nil => intro m st _; rfl
  | cons δ r ih =>
    intro m st h
    simp only [stM]
    rw [h 0 (by simp)]
    exact ih _ _ (fun i hi => h (i + 1) (by simp; omega))
theorem Run.length {l : List EOp} {st st' : St} {δs : List Delta} (h : Run P ban l st δs st') : δs.length = l.length := by
  induction h with
  | nil => rfl
  | cons eo l st st' δ δs _ _ ih => simp [ih]
theorem Run.at {l : List EOp} {st st' : St} {δs : List Delta} (h : Run P ban l st δs st') : ∀ (i : Nat) (eo : EOp) (δ : Delta), l[i]? = some eo → δs[i]? = some δ → OStep P ban eo (stM δs (fun j => decide (j < i)) st) δ := by
  induction h with
  | nil => intro i eo δ h; simp at h
  | cons eo l st st' δ δs h1 _ ih =>
    intro i e d he hd
    cases i with
    | zero =>
      simp at he hd
      subst he; subst hd
      have : stM (δ :: δs) (fun j => decide (j < 0)) st = st := stM_none _ _ _ (fun i _ => by simp)
      rw [this]; exact h1
    | succ i =>
      have := ih i e d (by simpa using he) (by simpa using hd)
      simp only [stM]
      simpa using this
theorem Run.last {l : List EOp} {st st' : St} {δs : List Delta} (h : Run P ban l st δs st') : st' = stM δs (fun _ => true) st := by
  induction h with
  | nil => rfl
  | cons eo l st st' δ δs _ _ ih => simp only [stM]; exact ih
theorem stM_get : ∀ (δs : List Delta) (m m' : Nat → Bool) (st st' : St) (s : Nat), st.get s = st'.get s → (∀ (i : Nat) (δ : Delta), δs[i]? = some δ → s ∈ δ.s.map Prod.fst → m i = m' i) →
    (stM δs m st).get s = (stM δs m' st').get s := by
  intro δs
  induction δs with
  | nil => intro m m' st st' s h _; exact h
  | cons δ r ih =>
    intro m m' st st' s h hm
    simp only [stM]
    refine ih _ _ _ _ s ?_ (fun i δ' hi hs => hm (i + 1) δ' (by simpa using hi) hs)
    by_cases hs : s ∈ δ.s.map Prod.fst
    · rw [hm 0 δ rfl hs]
      cases m' 0
      · exact h
      · simp only [if_true]; rw [app_get, app_get, if_pos hs, if_pos hs]
    · have e1 : ∀ (b : Bool) (st : St), (if b then st.app δ else st).get s = st.get s := fun b st => by
        cases b
        · rfl
        · simp only [if_true]; rw [app_get, if_neg hs]
      rw [e1, e1]; exact h
theorem stM_obj : ∀ (δs : List Delta) (m m' : Nat → Bool) (st st' : St) (s : Nat), st.obj s = st'.obj s → (∀ (i : Nat) (δ : Delta), δs[i]? = some δ → s ∈ δ.o.map Prod.fst → m i = m' i) →
    (stM δs m st).obj s = (stM δs m' st').obj s := by
  intro δs
  induction δs with
  | nil => intro m m' st st' s h _; exact h
  | cons δ r ih =>
    intro m m' st st' s h hm
    simp only [stM]
    refine ih _ _ _ _ s ?_ (fun i δ' hi hs => hm (i + 1) δ' (by simpa using hi) hs)
    by_cases hs : s ∈ δ.o.map Prod.fst
    · rw [hm 0 δ rfl hs]
      cases m' 0
      · exact h
      · simp only [if_true]; rw [app_obj, app_obj, if_pos hs, if_pos hs]
    · have e1 : ∀ (b : Bool) (st : St), (if b then st.app δ else st).obj s = st.obj s := fun b st => by
        cases b
        · rfl
        · simp only [if_true]; rw [app_obj, if_neg hs]
      rw [e1, e1]; exact h
theorem stM_key : ∀ (δs : List Delta) (m m' : Nat → Bool) (st st' : St) (s : Nat), notIn s (st.ob.map Prod.fst) = notIn s (st'.ob.map Prod.fst) → (∀ (i : Nat) (δ : Delta), δs[i]? = some δ → s ∈ δ.o.map Prod.fst → m i = m' i) →
    notIn s ((stM δs m st).ob.map Prod.fst) = notIn s ((stM δs m' st').ob.map Prod.fst) := by
  intro δs
  induction δs with
  | nil => intro m m' st st' s h _; exact h
  | cons δ r ih =>
    intro m m' st st' s h hm
    simp only [stM]
    refine ih _ _ _ _ s ?_ (fun i δ' hi hs => hm (i + 1) δ' (by simpa using hi) hs)
    by_cases hs : s ∈ δ.o.map Prod.fst
    · rw [hm 0 δ rfl hs]
      cases m' 0
      · exact h
      · simp only [if_true]; rw [app_key, app_key, h]
    · have e0 : notIn s (δ.o.map Prod.fst) = true := (notIn_iff _ _).2 hs
      have e1 : ∀ (b : Bool) (st : St), notIn s ((if b then st.app δ else st).ob.map Prod.fst) = notIn s (st.ob.map Prod.fst) := fun b st => by
        cases b
        · rfl
        · simp only [if_true]; rw [app_key, e0, Bool.true_and]
      rw [e1, e1]; exact h
theorem stM_get1 : ∀ (δs : List Delta) (m : Nat → Bool) (st : St) (k : Nat) (δ : Delta) (a : Nat), δs[k]? = some δ → m k = true → a ∈ δ.s.map Prod.fst →
    (∀ (j : Nat) (δ' : Delta), j ≠ k → δs[j]? = some δ' → a ∉ δ'.s.map Prod.fst) → (stM δs m st).get a = look .any δ.s a := by
  intro δs
  induction δs with
  | nil => intro m st k δ a h; simp at h
  | cons δ0 r ih =>
    intro m st k δ a h hm ha hn
    simp only [stM]
    cases k with
    | zero =>
      simp at h
      subst h
      rw [hm]
      simp only [if_true]
      rw [stM_get r _ (fun _ => false) (st.app δ0) (st.app δ0) a rfl (fun i δ' hi hs => absurd hs (hn (i + 1) δ' (by omega) (by simpa using hi))), stM_none _ _ _ (fun _ _ => rfl), app_get, if_pos ha]
    | succ k => exact ih _ _ k δ a (by simpa using h) hm ha (fun j δ' hj hδ => hn (j + 1) δ' (by omega) (by simpa using hδ))
/-- which change of a variable is the last one -/
theorem stM_last : ∀ (δs : List Delta) (m : Nat → Bool) (st : St) (b : Nat),
    ((∀ (k : Nat) (δ : Delta), m k = true → δs[k]? = some δ → b ∉ δ.o.map Prod.fst) ∧ (stM δs m st).obj b = st.obj b) ∨
    ∃ k δ, m k = true ∧ δs[k]? = some δ ∧ b ∈ δ.o.map Prod.fst ∧ (∀ (j : Nat) (δ' : Delta), k < j → m j = true → δs[j]? = some δ' → b ∉ δ'.o.map Prod.fst) ∧ (stM δs m st).obj b = look [] δ.o b := by
  intro δs
  induction δs with
  | nil => intro m st b; exact .inl ⟨fun k δ _ h => by simp at h, rfl⟩
  | cons δ0 r ih =>
    intro m st b
    simp only [stM]
    rcases ih (fun i => m (i + 1)) (if m 0 then st.app δ0 else st) b with ⟨h1, h2⟩ | ⟨k, δ, h1, h2, h3, h4, h5⟩
    · by_cases hb : m 0 = true ∧ b ∈ δ0.o.map Prod.fst
      · refine .inr ⟨0, δ0, hb.1, rfl, hb.2, fun j δ' hj hm hδ => ?_, ?_⟩
        · cases j with
          | zero => omega
          | succ j => exact h1 j δ' hm (by simpa using hδ)
        · rw [h2, hb.1]
          simp only [if_true]
          rw [app_obj, if_pos hb.2]
      · refine .inl ⟨fun k δ hm hδ => ?_, ?_⟩
        · cases k with
          | zero => simp at hδ; subst hδ; exact fun h => hb ⟨hm, h⟩
          | succ k => exact h1 k δ hm (by simpa using hδ)
        · rw [h2]
          cases hm : m 0 with
          | false => rfl
          | true =>
            simp only [if_true]
            rw [app_obj, if_neg (fun h => hb ⟨hm, h⟩)]
    · refine .inr ⟨k + 1, δ, h1, by simpa using h2, h3, fun j δ' hj hm hδ => ?_, h5⟩
      cases j with
      | zero => omega
      | succ j => exact h4 j δ' (by omega) hm (by simpa using hδ)
/-- what takes only ownership does not change what is read -/
theorem stM_quiet {δs : List Delta} {st : St} {b : Nat} (T : Nat → Bool) (hT : ∀ (k : Nat) (δ : Delta), T k = true → δs[k]? = some δ → b ∈ δ.o.map Prod.fst → (look [] δ.o b).map PV.view = (stM δs (fun j => decide (j < k)) st).vobj b) :
    ∀ (n : Nat) (m : Nat → Bool), (∀ k, m k = true → (δs[k]?).isSome = true → k < n) →
      (∀ (k j : Nat) (δ δ' : Delta), T k = true → m k = true → δs[k]? = some δ → b ∈ δ.o.map Prod.fst → T j = false → δs[j]? = some δ' → b ∈ δ'.o.map Prod.fst → j < k → m j = true) →
      (stM δs m st).vobj b = (stM δs (fun j => m j && !T j) st).vobj b := by
  intro n
  induction n using Nat.strongRecOn with
  | ind n ih =>
    intro m hn hc
    rcases stM_last δs m st b with ⟨h1, h2⟩ | ⟨k, δ, h1, h2, h3, h4, h5⟩
    · unfold St.vobj
      rw [stM_obj δs (fun j => m j && !T j) (fun _ => false) st st b rfl (fun i δ hi hb => ?_), stM_none _ _ _ (fun _ _ => rfl), h2]
      cases hm : m i with
      | false => rfl
      | true => exact absurd hb (h1 i δ hm hi)
    · cases hk : T k with
      | false =>
        rcases stM_last δs (fun j => m j && !T j) st b with ⟨g1, g2⟩ | ⟨k', δ', g1, g2, g3, g4, g5⟩
        · exact absurd h3 (g1 k δ (by simp [h1, hk]) h2)
        · have e : k' = k := by
            rcases Nat.lt_trichotomy k k' with h | h | h
            · simp only [Bool.and_eq_true] at g1
              exact absurd g3 (h4 k' δ' h g1.1 g2)
            · exact h.symm
            · exact absurd h3 (g4 k δ h (by simp [h1, hk]) h2)
          subst e
          rw [h2] at g2
          injection g2 with g2
          subst g2
          unfold St.vobj
          rw [h5, g5]
      | true =>
        have hkn := hn k h1 (by rw [h2]; rfl)
        have hsub : ∀ (j : Nat) (δ' : Delta), T j = false → δs[j]? = some δ' → b ∈ δ'.o.map Prod.fst → (decide (j < k)) = m j := by
          intro j δ' hj hδ hb
          by_cases hlt : j < k
          · rw [hc k j δ δ' hk h1 h2 h3 hj hδ hb hlt]; simp [hlt]
          · cases hm : m j with
            | false => simp [hlt]
            | true =>
              have hne : j ≠ k := by rintro rfl; rw [hk] at hj; cases hj
              exact absurd hb (h4 j δ' (by omega) hm hδ)
        have e1 := ih k hkn (fun j => decide (j < k)) (fun j hj _ => by simpa using hj) (fun k' j _ _ _ hk' _ _ _ _ _ hj => by
          have := of_decide_eq_true hk'
          exact decide_eq_true (by omega))
        have e2 : (stM δs m st).vobj b = (stM δs (fun j => decide (j < k)) st).vobj b := by
          rw [← hT k δ hk h2 h3]
          unfold St.vobj
          rw [h5]
        rw [e2, e1]
        unfold St.vobj
        rw [stM_obj δs _ (fun j => m j && !T j) st st b rfl (fun i δ' hi hb => ?_)]
        cases hti : T i with
        | true => simp
        | false => simp only [Bool.not_false, Bool.and_true]; exact hsub i δ' hti hi hb
theorem setN_view (l : List PV) : ∀ (off : Nat), (setN l off [(getN l off).view]).map PV.view = l.map PV.view := by
  have vv : ∀ p : PV, p.view.view = p.view := fun p => by cases p <;> rfl
  induction l with
  | nil => intro off; rfl
  | cons p l ih =>
    intro off
    cases off with
    | zero =>
      have : setN (p :: l) 0 [(getN (p :: l) 0).view] = p.view :: l := by cases l <;> rfl
      rw [this]; simp [vv]
    | succ n =>
      have : setN (p :: l) (n + 1) [(getN (p :: l) (n + 1)).view] = p :: setN l n [(getN l n).view] := rfl
      rw [this]; simp [ih n]
theorem ostep_take {eo : EOp} {st : St} {δ : Delta} (h : OStep P ban eo st δ) (hk : eo.k.isTake = true) : ∀ b ∈ δ.o.map Prod.fst, (look [] δ.o b).map PV.view = st.vobj b := by
  obtain ⟨d, g, k⟩ := eo
  cases k with
  | loadT x =>
    have main : stepD P (CStar P) (XStar P) ban (.loadT x) d st (fun δ' => δ' = δ) → ∀ b ∈ δ.o.map Prod.fst, (look [] δ.o b).map PV.view = st.vobj b := by
      intro h b hb
      simp only [stepD, gd_and] at h
      split at h
      · rename_i b' off d' hq
        split at h
        · subst h
          simp at hb
          subst hb
          simp only [look, Nat.beq_refl]
          exact setN_view _ _
        · exact h.elim
      · exact h.elim
    have skip : δ = dput d (.tup []) → ∀ b ∈ δ.o.map Prod.fst, (look [] δ.o b).map PV.view = st.vobj b := by
      intro e b hb
      subst e
      cases d <;> simp [dput] at hb
    unfold OStep at h
    cases g with
    | none => exact main h
    | some sw =>
      obtain ⟨s, want⟩ := sw
      rcases h with ⟨t, _, h1, h2⟩ | ⟨_, h2⟩
      · by_cases e : t = want
        · exact main (h1 e)
        · exact skip (h2 e)
      · exact skip h2
  | _ => cases hk
theorem ostep_mk {eo : EOp} {st : St} {δ : Delta} {a : Nat} (h : OStep P ban eo st δ) (hk : eo.mkAt a = true) : a ∈ δ.s.map Prod.fst ∧ look .any δ.s a = .loc (st.base + a) 0 := by
  obtain ⟨d, g, k⟩ := eo
  unfold EOp.mkAt at hk
  cases k with
  | alloc z =>
    cases g with
    | some _ => cases hk
    | none =>
      cases d with
      | none => cases hk
      | some d =>
        have e := nat_beq hk
        subst e
        simp only [OStep, stepD, gd_and] at h
        split at h
        · subst h; exact ⟨by simp, by simp [look]⟩
        · exact h.elim
  | box x =>
    cases g with
    | some _ => cases hk
    | none =>
      cases d with
      | none => cases hk
      | some d =>
        have e := nat_beq hk
        subst e
        simp only [OStep, stepD, gd_and] at h
        split at h
        · subst h; exact ⟨by simp, by simp [look]⟩
        · exact h.elim
  | _ => cases hk
/-- two changes that touch nothing in common -/
def Disj (x y : Delta) : Prop := (∀ s, s ∈ x.s.map Prod.fst → s ∉ y.s.map Prod.fst) ∧ (∀ s, s ∈ x.o.map Prod.fst → s ∉ y.o.map Prod.fst)
theorem app_comm (st : St) (x y : Delta) (h : Disj x y) : StEq ((st.app x).app y) ((st.app y).app x) := by
  refine ⟨rfl, fun s => ?_, fun s => ?_, fun s => ?_⟩
  · rw [app_get, app_get, app_get, app_get]
    by_cases h1 : s ∈ x.s.map Prod.fst
    · rw [if_neg (h.1 s h1), if_pos h1, if_pos h1]
    · rw [if_neg h1, if_neg h1]
  · rw [app_obj, app_obj, app_obj, app_obj]
    by_cases h1 : s ∈ x.o.map Prod.fst
    · rw [if_neg (h.2 s h1), if_pos h1, if_pos h1]
    · rw [if_neg h1, if_neg h1]
  · rw [app_key, app_key, app_key, app_key]
    cases notIn s (y.o.map Prod.fst) <;> cases notIn s (x.o.map Prod.fst) <;> simp
theorem stM_eq : ∀ (δs : List Delta) (m : Nat → Bool) (st st' : St), StEq st st' → StEq (stM δs m st) (stM δs m st') := by
  intro δs
  induction δs with
  | nil => intro m st st' h; exact h
  | cons δ r ih =>
    intro m st st' h
    simp only [stM]
    refine ih _ _ _ ?_
    cases m 0
    · exact h
    · exact h.app δ
theorem stM_app : ∀ (δs : List Delta) (m : Nat → Bool) (st : St) (δ : Delta), (∀ (i : Nat) (δ' : Delta), m i = true → δs[i]? = some δ' → Disj δ δ') → StEq (stM δs m (st.app δ)) ((stM δs m st).app δ) := by
  intro δs
  induction δs with
  | nil => intro m st δ _; exact .refl _
  | cons δ' r ih =>
    intro m st δ h
    simp only [stM]
    have hr : ∀ (i : Nat) (d : Delta), m (i + 1) = true → r[i]? = some d → Disj δ d := fun i d hi hd => h (i + 1) d hi (by simpa using hd)
    cases hm : m 0 with
    | false => exact ih _ _ _ hr
    | true =>
      simp only [if_true]
      exact (stM_eq r _ _ _ (app_comm st δ δ' (h 0 δ' hm rfl))).trans (ih _ _ _ hr)
theorem stM_push : ∀ (δs : List Delta) (m : Nat → Bool) (i : Nat) (st : St) (δ : Delta), δs[i]? = some δ → m i = false → (∀ (j : Nat) (δ' : Delta), i < j → m j = true → δs[j]? = some δ' → Disj δ δ') →
    StEq (stM δs (fun j => if j = i then true else m j) st) ((stM δs m st).app δ) := by
  intro δs
  induction δs with
  | nil => intro m i st δ h; simp at h
  | cons δ0 r ih =>
    intro m i st δ h hm hd
    cases i with
    | zero =>
      simp at h
      subst h
      simp only [stM, hm, if_true]
      have : (fun j => if j + 1 = 0 then true else m (j + 1)) = fun j => m (j + 1) := funext fun j => by simp
      rw [this]
      exact stM_app r _ st δ0 (fun i δ' hi hδ => hd (i + 1) δ' (by omega) hi (by simpa using hδ))
    | succ i =>
      simp only [stM]
      have e0 : (if 0 = i + 1 then true else m 0) = m 0 := by simp
      have e1 : (fun j => if j + 1 = i + 1 then true else m (j + 1)) = fun j => if j = i then true else m (j + 1) := funext fun j => by simp
      simp only [e0, e1]
      exact ih _ i _ δ (by simpa using h) hm (fun j δ' hj hmj hδ => hd (j + 1) δ' (by omega) hmj (by simpa using hδ))
theorem ostep_foot {eo : EOp} {st : St} {δ : Delta} (h : OStep P ban eo st δ) : (∀ s ∈ δ.s.map Prod.fst, s ∈ eo.writes) ∧ (∀ b ∈ δ.o.map Prod.fst, Foot eo.k eo.dst st b) := by
  obtain ⟨d, g, k⟩ := eo
  unfold OStep at h
  cases g with
  | none => exact step_foot h
  | some sw =>
    obtain ⟨s, want⟩ := sw
    have skip : δ = dput d (.tup []) → (∀ s' ∈ δ.s.map Prod.fst, s' ∈ (EOp.mk d (some (s, want)) k).writes) ∧ (∀ b ∈ δ.o.map Prod.fst, Foot k d st b) := by
      intro e
      subst e
      cases d with
      | none => exact ⟨fun s hs => by simp [dput] at hs, fun b hb => by simp [dput] at hb⟩
      | some x => exact ⟨fun s hs => by simp [dput] at hs; simp [EOp.writes, hs], fun b hb => by simp [dput] at hb⟩
    rcases h with ⟨t, _, h1, h2⟩ | ⟨_, h2⟩
    · by_cases e : t = want
      · exact step_foot (h1 e)
      · exact skip (h2 e)
    · exact skip h2
end
end Go.Proofs.YtpdlcbmnmeihoaaGreatDoor.Ev
namespace Go.Proofs.YtpdlcbmnmeihoaaGreatDoor.Ev
open Go Go.RowKit
section
variable {ι : Type} {cx : ι → PV × Value} {P : Program} {C : Oracle} {X : Inl} {inl : Nat → Bool} {once : Nat} {ban : List Nat} {w0 : Base} {w : World} {N M : Mut} {β : Loc} {nt : Nat} {st : St} {a : Act}
theorem cOps_spec {os : Array Oper} : ∀ (l : List Oper) (es : List EOp), cOps P inl once os l = some es → es.length = l.length ∧
    ∀ (i : Nat) (o : Oper), l[i]? = some o → ∃ eo, es[i]? = some eo ∧ cOp P inl once o = eo.k ∧ eo.dst = o.dst ∧ cGuard os o.guard = some eo.g := by
  intro l
  induction l with
  | nil => intro es h; simp [cOps] at h; subst h; exact ⟨rfl, fun i o h => by simp at h⟩
  | cons o l ih =>
    intro es h
    simp only [cOps] at h
    cases h2 : cGuard os o.guard with
    | none => rw [h2] at h; cases h
    | some g =>
      cases h3 : cOps P inl once os l with
      | none => rw [h2, h3] at h; cases h
      | some es' =>
        rw [h2, h3] at h
        injection h with h
        subst h
        obtain ⟨e1, e2⟩ := ih es' h3
        refine ⟨by simp [e1], fun i o' hi => ?_⟩
        cases i with
        | zero => simp at hi; subst hi; exact ⟨_, rfl, rfl, rfl, h2⟩
        | succ i => exact e2 i o' (by simpa using hi)
theorem cOp_sel {o : Oper} {k : K} (h : cOp P inl once o = k) : ∀ o', k = .scal o' → ∀ cs b, o'.op ≠ .select cs b := by
  intro o' hk cs b hb
  subst hk
  have nk : ∀ x ty k, nilK P x ty k = .scal o' → k = .scal o' := by
    intro x ty k h
    unfold nilK at h
    split at h
    · cases h
    · exact h
  have key : o' = o := by
    obtain ⟨dst, op, type, pos, after, guard⟩ := o
    unfold cOp at h
    split at h
    · have := nk _ _ _ h
      unfold moveK at this
      split at this
      · split at this <;> cases this
      · cases this
    · have := nk _ _ _ h
      unfold takeK at this
      split at this <;> cases this
    all_goals try (unfold loadK at h)
    all_goals try (unfold storeK at h)
    all_goals (repeat' (split at h))
    all_goals first | (injection h with h; exact h.symm) | (cases h; done) | skip
  subst key
  unfold cOp at h
  rw [hb] at h
  cases h
theorem dstsOK_spec : ∀ (l : List EOp), dstsOK nt l = true → ∀ eo ∈ l, ∀ x, eo.dst = some x → x < nt := by
  intro l
  induction l with
  | nil => intro _ eo h; cases h
  | cons e l ih =>
    intro h eo hm x hx
    simp only [dstsOK] at h
    have h2 : dstsOK nt l = true ∧ (∀ x, e.dst = some x → x < nt) := by
      cases hd : e.dst with
      | none => rw [hd] at h; exact ⟨h, fun x hx => by cases hx⟩
      | some d =>
        rw [hd] at h
        simp only at h
        cases hb : Nat.blt d nt with
        | false => rw [hb] at h; cases h
        | true =>
          rw [hb] at h
          exact ⟨h, fun x hx => by injection hx with hx; subst hx; exact Nat.le_of_ble_eq_true hb⟩
    rcases List.mem_cons.1 hm with e1 | e1
    · subst e1; exact h2.2 x hx
    · exact ih h2.1 eo e1 x hx
theorem ostep_sound {os : Array Oper} {o : Oper} {eo : EOp} {δ : Delta} (h : SR cx w0 N nt st a w M β) (hs : OStep P ban eo st δ) (hc : cOp P inl once o = eo.k) (hdst : eo.dst = o.dst)
    (hg : cGuard os o.guard = some eo.g) (hd : ∀ x, o.dst = some x → x < nt) {K : Act → World → Prop} {Q : Exit → Act → World → Prop}
    (hK : ∀ a' w' M' β', SR cx w0 N nt (st.app δ) a' w' M' β' → K a' w') :
    if Region.wanted o (yielded os a.tmps) = true then o.wp P a w K Q else K (a.put o.dst undef) w := by
  unfold OStep at hs
  cases hog : o.guard with
  | none =>
    rw [hog] at hg
    simp only [cGuard, Option.some.injEq] at hg
    rw [← hg] at hs
    have hw : Region.wanted o (yielded os a.tmps) = true := by simp [Region.wanted, hog]
    rw [if_pos hw]
    rw [hdst] at hs
    rw [← hc] at hs
    exact step_sound h hd hs K Q hK
  | some jw =>
    obtain ⟨j, want⟩ := jw
    rw [hog] at hg
    simp only [cGuard] at hg
    cases hj : (os[j]?).bind (·.dst) with
    | none => rw [hj] at hg; cases hg
    | some s =>
      rw [hj] at hg
      simp only [Option.some.injEq] at hg
      rw [← hg] at hs
      simp only at hs
      rcases hs with ⟨t, h1, h2, h3⟩ | ⟨h1, h3⟩
      rotate_left
      · have hreg := h.reg s
        rw [h1] at hreg
        have hv : a.tmps.getD s undef = undef := by
          generalize a.tmps.getD s undef = u at hreg ⊢
          cases hreg with
          | row p s hs => cases hs
          | tup l cs hl hr =>
            have : cs = [] := List.eq_nil_of_length_eq_zero (by simpa using hl.symm)
            subst this; rfl
        have hy : yielded os a.tmps j = none := by
          unfold yielded
          rw [hj]
          cases hx : a.tmps[s]? with
          | none => simp [hx]
          | some u =>
            rw [Array.getD_eq_getD_getElem?, hx] at hv
            simp at hv
            subst hv
            simp [hx, undef]
        have hw : ¬ Region.wanted o (yielded os a.tmps) = true := by simp [Region.wanted, hog, hy]
        rw [if_neg hw]
        rw [hdst] at h3
        subst h3
        exact hK _ _ _ _ (h.dput o.dst (.tup []) undef hd (.tup [] [] rfl (fun i p v hp => by simp at hp)) (no_own rfl))
      have hreg := h.reg s
      rw [h1] at hreg
      have hv := hreg.val_eq
      have hy : yielded os a.tmps j = some t := by
        unfold yielded
        rw [hj]
        have : a.tmps[s]? = some (.bool t) := by
          cases hx : a.tmps[s]? with
          | none =>
            rw [Array.getD_eq_getD_getElem?, hx] at hv
            simp [undef] at hv
          | some u =>
            rw [Array.getD_eq_getD_getElem?, hx] at hv
            simpa using hv
        simp [this]
      by_cases e : t = want
      · have hw : Region.wanted o (yielded os a.tmps) = true := by simp [Region.wanted, hog, hy, e]
        rw [if_pos hw]
        have hs' := h2 e
        rw [hdst] at hs'
        rw [← hc] at hs'
        exact step_sound h hd hs' K Q hK
      · have hw : ¬ Region.wanted o (yielded os a.tmps) = true := by simp [Region.wanted, hog, hy, e]
        rw [if_neg hw]
        have hδ := h3 e
        rw [hdst] at hδ
        subst hδ
        exact hK _ _ _ _ (h.dput o.dst (.tup []) undef hd (.tup [] [] rfl (fun i p v hp => by simp at hp)) (no_own rfl))
/-! ### in any order -/
inductive Reach (os : List Oper) : Nat → Nat → Prop
  | one (j : Nat) (o : Oper) (i : Nat) (ho : os[j]? = some o) (hi : i ∈ edgesOf o) : Reach os j i
  | more (j : Nat) (o : Oper) (e i : Nat) (ho : os[j]? = some o) (he : e ∈ edgesOf o) (hr : Reach os e i) : Reach os j i
theorem maskOf_spec (acc : List Nat) : ∀ (l : List Nat) (i : Nat), Nat.testBit (maskOf acc l) i = true → ∃ e ∈ l, i = e ∨ Nat.testBit (acc.getD e 0) i = true := by
  intro l
  induction l with
  | nil => intro i h; simp [maskOf] at h
  | cons e l ih =>
    intro i h
    simp only [maskOf, Nat.testBit_or, Bool.or_eq_true] at h
    rcases h with (h | h) | h
    · refine ⟨e, by simp, .inl ?_⟩
      rw [Nat.one_shiftLeft, Nat.testBit_two_pow] at h
      simp at h
      omega
    · exact ⟨e, by simp, .inr h⟩
    · obtain ⟨e', h1, h2⟩ := ih i h
      exact ⟨e', List.mem_cons_of_mem _ h1, h2⟩
theorem ancs_spec (os : List Oper) : ∀ (l : List Oper) (acc : List Nat), (∀ k o, l[k]? = some o → os[acc.length + k]? = some o) →
    (∀ j i, Nat.testBit (acc.getD j 0) i = true → Reach os j i) → ∀ j i, Nat.testBit ((ancs l acc).getD j 0) i = true → Reach os j i := by
  intro l
  induction l with
  | nil => intro acc _ h; exact h
  | cons o l ih =>
    intro acc hl h
    simp only [ancs]
    refine ih _ (fun k o' hk => ?_) (fun j i hb => ?_)
    · have := hl (k + 1) o' (by simpa using hk)
      rw [List.length_append, List.length_singleton, Nat.add_assoc, Nat.add_comm 1 k]; exact this
    · have ho : os[acc.length]? = some o := by have := hl 0 o rfl; simpa using this
      rcases Nat.lt_trichotomy j acc.length with h1 | h1 | h1
      · rw [List.getD_eq_getElem?_getD, List.getElem?_append_left h1, ← List.getD_eq_getElem?_getD] at hb
        exact h j i hb
      · subst h1
        rw [List.getD_eq_getElem?_getD, List.getElem?_append_right (Nat.le_refl _)] at hb
        simp at hb
        obtain ⟨e, he, hor⟩ := maskOf_spec acc _ i hb
        rcases hor with rfl | hor
        · exact .one _ o _ ho he
        · exact .more _ o e i ho he (h e i hor)
      · rw [List.getD_eq_getElem?_getD, List.getElem?_append_right (by omega), List.getElem?_eq_none (by simp; omega)] at hb
        simp at hb
theorem below_spec {n : Nat} {p : Nat → Bool} (h : Ev.below n p = true) : ∀ i, i < n → p i = true := by
  induction n with
  | zero => intro i hi; omega
  | succ n ih =>
    simp only [Ev.below] at h
    cases hp : p n with
    | false => rw [hp] at h; cases h
    | true =>
      rw [hp] at h
      intro i hi
      by_cases e : i = n
      · subst e; exact hp
      · exact ih h i (by omega)
theorem below_false {p : Nat → Bool} : ∀ {n : Nat}, Ev.below n p = false → ∃ k, k < n ∧ p k = false := by
  intro n
  induction n with
  | zero => intro h; cases h
  | succ n ih =>
    intro h
    simp only [Ev.below] at h
    cases hp : p n with
    | false => exact ⟨n, by omega, hp⟩
    | true =>
      rw [hp] at h
      obtain ⟨k, h1, h2⟩ := ih h
      exact ⟨k, by omega, h2⟩
theorem edgesBelow_spec (j : Nat) : ∀ (l : List Nat), edgesBelow j l = true → ∀ e ∈ l, e < j := by
  intro l
  induction l with
  | nil => intro _ e h; cases h
  | cons x l ih =>
    intro h e he
    simp only [edgesBelow] at h
    cases hb : Nat.blt x j with
    | false => rw [hb] at h; cases h
    | true =>
      rw [hb] at h
      rcases List.mem_cons.1 he with e1 | e1
      · subst e1; exact Nat.le_of_ble_eq_true hb
      · exact ih h e e1
theorem mem_edgesOf {o : Oper} {e : Edge} (he : e ∈ o.after) (hb : Region.binds .any e = true) : e.on ∈ edgesOf o :=
  List.mem_map.2 ⟨e, List.mem_filter.2 ⟨by simpa using he, hb⟩, rfl⟩
theorem edgesOf_mem {o : Oper} {i : Nat} (h : i ∈ edgesOf o) : ∃ e ∈ o.after, Region.binds .any e = true ∧ e.on = i := by
  obtain ⟨e, he, rfl⟩ := List.mem_map.1 h
  obtain ⟨h1, h2⟩ := List.mem_filter.1 he
  exact ⟨e, by simpa using h1, h2, rfl⟩
theorem meets_iff (x y : List Nat) : meets x y = true ↔ ∃ s, s ∈ x ∧ s ∈ y := by
  simp only [meets, List.any_eq_true]
  constructor
  · rintro ⟨s, h1, t, h2, h3⟩
    have := nat_beq h3
    subst this
    exact ⟨s, h1, h2⟩
  · rintro ⟨s, h1, h2⟩
    exact ⟨s, h1, s, h2, Nat.beq_refl s⟩
theorem clash_slots {ap : List (Nat × Nat)} {fx fy : Bool} {x y : EOp} (h : clash ap fx x fy y = false) : (∀ s, s ∈ x.writes → s ∉ y.reads) ∧ (∀ s, s ∈ x.writes → s ∉ y.writes) ∧ (∀ s, s ∈ x.reads → s ∉ y.writes) ∧
    (x.k.isStore = true → y.k.heapy = true → freed ap x y = true ∨ calm fx x.k fy y.k = true) ∧ (x.k.heapy = true → y.k.isStore = true → freed ap x y = true ∨ calm fx x.k fy y.k = true) := by
  simp only [clash, Bool.or_eq_false_iff] at h
  obtain ⟨⟨⟨h1, h2⟩, h3⟩, h4⟩ := h
  have no : ∀ a b, meets a b = false → ∀ s, s ∈ a → s ∉ b := fun a b hm s ha hb => by
    rw [(meets_iff a b).2 ⟨s, ha, hb⟩] at hm; cases hm
  refine ⟨no _ _ h1, no _ _ h2, no _ _ h3, fun g1 g2 => ?_, fun g1 g2 => ?_⟩
  · rw [g1, g2] at h4
    cases hf : freed ap x y with
    | true => exact .inl rfl
    | false => rw [hf] at h4; simp at h4; exact .inr h4
  · rw [g1, g2] at h4
    cases hf : freed ap x y with
    | true => exact .inl rfl
    | false => rw [hf] at h4; simp at h4; exact .inr h4
theorem calm_load {fx fy : Bool} {x y : K} (h : calm fx x fy y = true) : x.isLoad = true ∨ y.isLoad = true := by
  simp only [calm, Bool.or_eq_true, Bool.and_eq_true] at h
  rcases h with h | h
  · exact .inr h.2
  · exact .inl h.1
theorem calm_symm (fx fy : Bool) (x y : K) : calm fx x fy y = calm fy y fx x := by
  unfold calm
  cases x.isTake <;> cases y.isTake <;> cases x.isLoad <;> cases y.isLoad <;> cases fx <;> cases fy <;> rfl
theorem store_noload {k : K} (h : k.isStore = true) : k.isLoad = false := by cases k <;> first | rfl | cases h
theorem makes_noload {k : K} (h : k.makes = true) : k.isLoad = false := by cases k <;> first | rfl | cases h
theorem wild_noload {k : K} (h : k.wild = true) : k.isLoad = false := by cases k <;> first | rfl | cases h
theorem freed_of {ap : List (Nat × Nat)} {fx fy : Bool} {x y : EOp} (h : freed ap x y = true ∨ calm fx x.k fy y.k = true) (h1 : x.k.isLoad = false) (h2 : y.k.isLoad = false) : freed ap x y = true := by
  rcases h with h | h
  · exact h
  · rcases calm_load h with h | h
    · rw [h1] at h; cases h
    · rw [h2] at h; cases h
theorem makes_heapy {k : K} (h : k.makes = true) : k.heapy = true := by cases k <;> first | rfl | cases h
theorem store_heapy {k : K} (h : k.isStore = true) : k.heapy = true := by cases k <;> first | rfl | cases h
theorem opd_reads {eo : EOp} {x : Operand} (hx : x ∈ eo.k.opds) {t : Nat} (ht : x = .tmp t) : t ∈ eo.reads := by
  subst ht
  have : ∀ (l : List Operand), .tmp t ∈ l → t ∈ tmpsOf l := by
    intro l
    induction l with
    | nil => intro h; cases h
    | cons y l ih =>
      intro h
      rcases List.mem_cons.1 h with e | e
      · subst e; simp [tmpsOf]
      · cases y <;> simp only [tmpsOf] <;> first | exact List.mem_cons_of_mem _ (ih e) | exact ih e
  simp only [EOp.reads, List.mem_append]
  exact .inl (this _ hx)
end
end Go.Proofs.YtpdlcbmnmeihoaaGreatDoor.Ev
