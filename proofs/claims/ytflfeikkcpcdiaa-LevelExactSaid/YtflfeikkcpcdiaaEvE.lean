/-  Each operation is sound: what the evaluator says it does is what it does. -/
import Derived.Test.YtflfeikkcpcdiaaEvD
namespace Go.Proofs.Ytflfeikkcpcdiaa.Ev
open Go Go.RowKit
set_option linter.unusedVariables false
set_option linter.unusedSimpArgs false
set_option linter.unnecessarySimpa false

/-- A function, called with what reads so, returns what reads so; it changes nothing that was there. -/
def Holds (P : Program) (f : Nat) (args : List PV) (r : PV) : Prop :=
  ∀ (w : World) (N : Mut) (vs : List Value), vs.length = args.length → (∀ (i : Nat) (p : PV) (v : Value), args[i]? = some p → vs[i]? = some v → RelA w N p v) →
    (∀ b n, N b = some n → b < w.heap.size) →
    Calls P f vs.toArray w fun e w' => ∃ v, e = .returned v ∧ RelI w' N r v ∧ Below w.heap.size w w'

def CStar (P : Program) : Oracle := fun f args k => ∃ r, Holds P f args r ∧ k r

theorem pureRun_run {α : Type} {P : Program} : ∀ (s : Sem α) (k : α → Prop), pureRun P s k → ∀ w, ∃ x, s.run P w = .ok x w ∧ k x := by
  intro s
  induction s with
  | pure a => intro k h w; exact ⟨a, rfl, h⟩
  | program f ih => intro k h w; exact ih P k h w
  | load => intro k h; exact h.elim
  | store => intro k h; exact h.elim
  | new => intro k h; exact h.elim
  | shape => intro k h; exact h.elim
  | freeze => intro k h; exact h.elim
  | frozen => intro k h; exact h.elim
  | getObj => intro k h; exact h.elim
  | setObj => intro k h; exact h.elim
  | choose => intro k h; exact h.elim
  | sys => intro k h; exact h.elim
  | mark => intro k h; exact h.elim
  | halt => intro k h; exact h.elim

section
variable {P : Program} {w0 w : World} {N M : Mut} {β : Nat → Option Nat} {nt : Nat} {st : St} {a : Act}

theorem SR.opd (h : SR w0 N nt st a w M β) (x : Operand) : RelT w M β w0.heap.size (st.opd x) (a.eval x) := by
  cases x with
  | tmp t => exact h.reg t
  | const v =>
    show RelT w M β w0.heap.size (match oneV v with | true => .val v | false => .any) v
    cases hv : oneV v with
    | true => exact .imm _ _ (.val v (by rw [← oneV_eq]; exact hv))
    | false => exact .imm _ _ (.any v)
  | global g => exact .imm _ _ (.any _)
  | func f => exact .imm _ _ (.any _)

theorem RelT.val_eq {B : Nat} {v u : Value} (h : RelT w M β B (.val v) u) : u = v := by
  cases h with
  | imm p v h => cases h; rfl

theorem SR.valOf (h : SR w0 N nt st a w M β) : ∀ (l : List Operand), allVal st l = true → ∀ x ∈ l, a.eval x = st.valOf x := by
  intro l
  induction l with
  | nil => intro _ x hx; cases hx
  | cons y l ih =>
    intro hl x hx
    simp only [allVal] at hl
    cases hy : st.opd y with
    | val v =>
      rw [hy] at hl
      rcases List.mem_cons.1 hx with e | e
      · subst e
        have := h.opd x
        rw [hy] at this
        simp only [St.valOf, hy]
        exact this.val_eq
      · exact ih hl x e
    | any => rw [hy] at hl; cases hl
    | agg l => rw [hy] at hl; cases hl
    | tup l => rw [hy] at hl; cases hl
    | sl o e s l => rw [hy] at hl; cases hl
    | arr e s m f => rw [hy] at hl; cases hl
    | ref l => rw [hy] at hl; cases hl
    | loc d o => rw [hy] at hl; cases hl

theorem list_choose {l : List PV} {Q : Nat → PV → Value → Prop} (h : ∀ (i : Nat) (p : PV), l[i]? = some p → ∃ v, Q i p v) :
    ∃ vs : List Value, vs.length = l.length ∧ ∀ (i : Nat) (p : PV) (v : Value), l[i]? = some p → vs[i]? = some v → Q i p v := by
  induction l generalizing Q with
  | nil => exact ⟨[], rfl, fun i p v hp => by simp at hp⟩
  | cons p r ih =>
    obtain ⟨v, hv⟩ := h 0 p rfl
    obtain ⟨vs, h1, h2⟩ := ih (Q := fun i => Q (i + 1)) (fun i q hq => h (i + 1) q (by simpa using hq))
    refine ⟨v :: vs, by simp [h1], fun i q u hq hu => ?_⟩
    cases i with
    | zero => simp at hq hu; subst hq; subst hu; exact hv
    | succ i => exact h2 i q u (by simpa using hq) (by simpa using hu)

/-- what a pointer points to -/
def CellsAt (w : World) (M : Mut) (ad : Addr) (l : List PV) : Prop := ∀ (i : Nat) (p : PV), l[i]? = some p → ∃ v, w.cell? (ad.add i) = some v ∧ RelI w M p v ∧ v.oneCell' = true

theorem SR.cellsAt (h : SR w0 N nt st a w M β) {d off b : Nat} (hβ : β d = some b) : CellsAt w M ⟨b, off, none⟩ ((st.obj d).drop off) := by
  intro i p hp
  obtain ⟨_, _, cs, t, h3, h4, h5⟩ := h.box d b hβ
  rw [List.getElem?_drop] at hp
  have hlt : off + i < cs.size := by
    have := (List.getElem?_eq_some_iff.1 hp).1
    omega
  have hv : cs[off + i]? = some cs[off + i] := Array.getElem?_eq_getElem hlt
  refine ⟨_, ?_, (h5 _ p _ hp hv)⟩
  have hadd : (⟨b, off, none⟩ : Addr).add i = ⟨b, off + i, none⟩ := by unfold Addr.add; split <;> simp_all
  rw [hadd, World.cell?, h3]
  exact hv

theorem ref_cellsAt {B : Nat} {l : List PV} {v : Value} (h : RelT w M β B (.ref l) v) : ∃ ad, v = .pointer (some ad) ∧ CellsAt w M ad l := by
  cases h with
  | imm p v h => cases h
  | ref l ad vs hm hr => exact ⟨ad, rfl, fun i p hp => ⟨vs i, (hm i p hp).2.1, hr i p hp, (hm i p hp).2.2⟩⟩

theorem loc_eq {B : Nat} {d off : Nat} {v : Value} (h : RelT w M β B (.loc d off) v) : ∃ b, β d = some b ∧ v = .pointer (some ⟨b, off, none⟩) := by
  cases h with
  | imm p v h => cases h
  | loc d off b h => exact ⟨b, h, rfl⟩

theorem CellsAt.take {ad : Addr} {l : List PV} (h : CellsAt w M ad l) (n : Nat) : CellsAt w M ad (l.take n) := fun i p hp => h i p (by
  rw [List.getElem?_take] at hp
  split at hp
  · exact hp
  · cases hp)

theorem run_loadVar_agg {t sz : Nat} {ad : Addr} {vs : List Value} {d : TypeDesc} (hu : P.underlying t = some d) (ha : isAggT P t = true) (hs : szT P t = some sz) (hl : vs.length = sz)
    (hc : ∀ (j : Nat) (v : Value), vs[j]? = some v → w.cell? (ad.add j) = some v) : (loadVar t ad).run P w = .ok (.agg vs.toArray) w := by
  have h1 := run_loadCells_list (P := P) w ad vs hc
  unfold szT at hs
  cases hi : P.info? t with
  | none => rw [hi] at hs; cases hs
  | some i =>
    rw [hi] at hs
    have hs' : i.size = sz := by simpa using hs
    unfold isAggT at ha
    rw [hu] at ha
    subst hl
    cases d <;> simp at ha <;> simp [loadVar, isAgg, run_underlying hu, sizeOf, typeInfo, hi, hs', h1]

theorem run_loadVar_one {t : Nat} {ad : Addr} {v : Value} {d : TypeDesc} (hu : P.underlying t = some d) (ha : isAggT P t = false) (hc : w.cell? ad = some v) : (loadVar t ad).run P w = .ok v w := by
  unfold isAggT at ha
  rw [hu] at ha
  cases d <;> simp at ha <;> simp [loadVar, isAgg, run_underlying hu, hc]

/-- a load -/
theorem load_ok {t sz : Nat} {ad : Addr} {l : List PV} {d : TypeDesc} {B : Nat} (hu : P.underlying t = some d) (hs : szT P t = some sz) (hsz : isAggT P t = false → sz = 1) (hlen : l.length = sz) (hc : CellsAt w M ad l) :
    ∃ v, (loadVar t ad).run P w = .ok v w ∧ RelT w M β B (mkP (isAggT P t) l) v := by
  obtain ⟨vs, h1, h2⟩ := list_choose hc
  cases ha : isAggT P t with
  | true =>
    refine ⟨.agg vs.toArray, run_loadVar_agg hu ha hs (by omega) (fun j v hv => ?_), .imm _ _ (.agg l vs h1.symm (fun v hv => ?_) (fun i p v hp hv => (h2 i p v hp hv).2.1))⟩
    · have hj : j < l.length := by have := (List.getElem?_eq_some_iff.1 hv).1; omega
      exact (h2 j _ v (List.getElem?_eq_getElem hj) hv).1
    · obtain ⟨j, hj, rfl⟩ := List.getElem_of_mem hv
      exact (h2 j _ _ (List.getElem?_eq_getElem (by omega)) (List.getElem?_eq_getElem hj)).2.2
  | false =>
    have h1' := hsz ha
    subst h1'
    match l, vs, hlen, h1, h2 with
    | [p], [v], _, _, h2 =>
      obtain ⟨g1, g2, g3⟩ := h2 0 p v rfl rfl
      exact ⟨v, run_loadVar_one hu ha (by simpa [Addr.add] using g1), .imm _ _ g2.view⟩

theorem szT_info {t sz : Nat} (h : szT P t = some sz) : ∃ i, P.info? t = some i ∧ i.size = sz := by
  unfold szT at h
  cases hi : P.info? t with
  | none => rw [hi] at h; cases h
  | some i => rw [hi] at h; exact ⟨i, rfl, by simpa using h⟩

/-- the cells of an operand that is stored -/
theorem cells_of {B : Nat} {p : PV} {v : Value} (h : RelT w M β B p v) (h1 : ones p.cells = true) :
    v.cells.toList.length = p.cells.length ∧ (∀ (i : Nat) (q : PV) (u : Value), p.cells[i]? = some q → v.cells.toList[i]? = some u → RelI w M q u ∧ u.oneCell' = true) := by
  have single : ∀ p v, RelI w M p v → p.one = true → p.cells = [p] → v.cells.toList.length = p.cells.length ∧ (∀ (i : Nat) (q : PV) (u : Value), p.cells[i]? = some q → v.cells.toList[i]? = some u → RelI w M q u ∧ u.oneCell' = true) := by
    intro p v h h1 h2
    have ho := h.one h1
    have hv : v.cells = #[v] := by cases v <;> first | rfl | (simp [Value.oneCell'] at ho)
    rw [h2, hv]
    refine ⟨rfl, fun i q u hq hu => ?_⟩
    cases i with
    | zero => simp at hq hu; subst hq; subst hu; exact ⟨h, ho⟩
    | succ i => simp at hq
  cases h with
  | imm p v h =>
    cases h with
    | agg l cs hl ho hr =>
      refine ⟨hl.symm, fun i q u hq hu => ⟨hr i q u hq hu, ho u ?_⟩⟩
      exact List.mem_of_getElem? hu
    | any v => simp [PV.cells, ones, PV.one] at h1
    | val v hv => exact single _ _ (.val v hv) (by simp only [PV.one]; rw [oneV_eq]; exact hv) rfl
    | tup l cs hl hr => simp [PV.cells, ones, PV.one] at h1
    | sl o e s es ad c vs hc hsz ha hm hr => exact single _ _ (.sl o e s es ad c vs hc hsz ha hm hr) rfl rfl
    | arr e s m f ad c vs hc hsz ha hm hr => exact single _ _ (.arr e s m f ad c vs hc hsz ha hm hr) rfl rfl
  | loc d off b h => simp [PV.cells, ones, PV.one] at h1
  | ref l ad vs hm hr => simp [PV.cells, ones, PV.one] at h1

end
end Go.Proofs.Ytflfeikkcpcdiaa.Ev
