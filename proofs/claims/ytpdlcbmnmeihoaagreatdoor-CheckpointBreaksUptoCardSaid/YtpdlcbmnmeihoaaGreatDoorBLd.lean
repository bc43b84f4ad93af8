/-  What the laid variables give. (numbers of the seat: global 0 forms; types 313 form, 314 []form, 311 what) -/
import Derived.Test.YtpdlcbmnmeihoaaGreatDoorBFz
import Derived.Test.YtpdlcbmnmeihoaaGreatDoorTie
import Derived.LaidMore
import Derived.ChangeArms
import Derived.Lib.LaidTab
import Derived.Stop.Joined
set_option maxRecDepth 100000
set_option linter.unusedVariables false
set_option linter.unusedSimpArgs false
set_option linter.unnecessarySimpa false
namespace Go.Proofs.YtpdlcbmnmeihoaaGreatDoor.Ev
open Go
/-- a form, as a datum -/
def formD {H : Type} (x : code_form) : DataW H := .agg [.lit (.string x.u_word.data.toList), .lit (.int .i64 x.u_a), .lit (.int .i64 x.u_b), .lit (.bool x.u_c), .lit (.bool x.u_e), .lit (.bool x.u_f), .lit (.bool x.u_args), .lit (.bool x.u_dist), .lit (.bool x.u_preempt)]
/-- .. and in memory -/
def formV (x : code_form) : List Value := [.string x.u_word, .int .i64 x.u_a, .int .i64 x.u_b, .bool x.u_c, .bool x.u_e, .bool x.u_f, .bool x.u_args, .bool x.u_dist, .bool x.u_preempt]
theorem ld_data {H : Type} : (Rows.laid_simulator_code_forms : DataW H) = .slice (gl0.map formD) [] := rfl
theorem lit_string {H : Type} {P : Program} {enc : TypeId × Value → H} {w : World} {base : Nat} {sp : Nat → Bool} {held : Bool} {fuel t : Nat} {c : Value} {s : ByteArray} {q : List MemPlace} {y : DataW H × List MemPlace} (ht : P.underlying t = some .string)
    (h : DataW.trod enc P w base sp held fuel t [c] = some y) (hy : y.1 = .lit (.string s.data.toList)) : c = .string s := by
  obtain ⟨z, hc, rfl, _⟩ := DataW.trod_string ht h
  injection hc with hc
  have hy : DataW.lit (.string z.data.toList) = (DataW.lit (.string s.data.toList) : DataW H) := hy
  injection hy with hy
  injection hy with hy
  rw [hc, show z = s by cases z; cases s; simp_all [Array.toList_inj]]
theorem lit_int {H : Type} {P : Program} {enc : TypeId × Value → H} {w : World} {base : Nat} {sp : Nat → Bool} {held : Bool} {fuel t : Nat} {c : Value} {k : IntKind} {n : Int} {y : DataW H × List MemPlace} (ht : P.underlying t = some (.int k))
    (h : DataW.trod enc P w base sp held fuel t [c] = some y) (hy : y.1 = .lit (.int k n)) : c = .int k n := by
  obtain ⟨z, hc, rfl, _⟩ := DataW.trod_int ht h
  injection hc with hc
  have hy : DataW.lit (.int k z) = (DataW.lit (.int k n) : DataW H) := hy
  injection hy with hy
  injection hy with _ hy
  rw [hc, hy]
theorem lit_bool {H : Type} {P : Program} {enc : TypeId × Value → H} {w : World} {base : Nat} {sp : Nat → Bool} {held : Bool} {fuel t : Nat} {c : Value} {n : Bool} {y : DataW H × List MemPlace} (ht : P.underlying t = some .bool)
    (h : DataW.trod enc P w base sp held fuel t [c] = some y) (hy : y.1 = .lit (.bool n)) : c = .bool n := by
  obtain ⟨z, hc, rfl⟩ := DataW.trod_bool ht h
  injection hc with hc
  have hy : DataW.lit (.bool z) = (DataW.lit (.bool n) : DataW H) := hy
  injection hy with hy
  injection hy with hy
  rw [hc, hy]
theorem fld {P : Program} {α : Type} {r : Nat → List Value → Option α} {fs : Array Field} {cs : List Value} {xs : List α} (hf : ∀ (i : Nat) (f : Field), fs[i]? = some f → r f.type ((cs.drop f.offset).take (P.cellsOf f.type)) = xs[i]?)
    (i t off : Nat) (h : (fs[i]?).map (fun f => (f.type, f.offset)) = some (t, off)) (hc : P.cellsOf t = 1) (v : Value) (hv : cs[off]? = some v) : r t [v] = xs[i]? := by
  obtain ⟨f, h1, h2⟩ := Option.map_eq_some_iff.1 h
  injection h2 with h2 h3
  have := hf i f h1
  subst h2; subst h3
  rw [hc] at this
  rw [← this]
  obtain ⟨hl, rfl⟩ := List.getElem?_eq_some_iff.1 hv
  rw [List.drop_eq_getElem_cons hl]
  rfl
theorem getD_at {α : Type} (l : List α) (j : Nat) (d : α) (h : j < l.length) : l[j]? = some (l.getD j d) := by simp [List.getD, h]
theorem form_open {H : Type} {enc : TypeId × Value → H} {w : World} {base : Nat} {sp : Nat → Bool} {held : Bool} {fuel : Nat} {cs : List Value} {x : code_form} {q : List MemPlace}
    (h : DataW.trod enc Tryz.prog w base sp held fuel 313 cs = some (formD x, q)) : cs = formV x := by
  obtain ⟨xs, n, _, hx, hl, hlen, hf⟩ := DataW.trod_struct Tryz.underlying313 h
  injection hx with hx _
  injection hx with hx
  rw [show Tryz.prog.cellsOf 313 = 9 by kernel_rfl] at hl
  have c9 : Tryz.prog.cellsOf 9 = 1 := by kernel_rfl
  have c8 : Tryz.prog.cellsOf 311 = 1 := by kernel_rfl
  have c4 : Tryz.prog.cellsOf 4 = 1 := by kernel_rfl
  match cs, hl, xs, hx with
  | [v0, v1, v2, v3, v4, v5, v6, v7, v8], _, [y0, y1, y2, y3, y4, y5, y6, y7, y8], hx =>
    simp only [List.map_cons, List.map_nil, List.cons.injEq, and_true] at hx
    obtain ⟨e0, e1, e2, e3, e4, e5, e6, e7, e8⟩ := hx
    have f0 := fld hf 0 9 0 rfl c9 v0 rfl; have f1 := fld hf 1 311 1 rfl c8 v1 rfl; have f2 := fld hf 2 311 2 rfl c8 v2 rfl; have f3 := fld hf 3 4 3 rfl c4 v3 rfl; have f4 := fld hf 4 4 4 rfl c4 v4 rfl
    have f5 := fld hf 5 4 5 rfl c4 v5 rfl; have f6 := fld hf 6 4 6 rfl c4 v6 rfl; have f7 := fld hf 7 4 7 rfl c4 v7 rfl; have f8 := fld hf 8 4 8 rfl c4 v8 rfl
    rw [lit_string (q := q) Tryz.underlying9 f0 e0.symm, lit_int Tryz.underlying311 f1 e1.symm, lit_int Tryz.underlying311 f2 e2.symm, lit_bool Tryz.underlying4 f3 e3.symm, lit_bool Tryz.underlying4 f4 e4.symm,
      lit_bool Tryz.underlying4 f5 e5.symm, lit_bool Tryz.underlying4 f6 e6.symm, lit_bool Tryz.underlying4 f7 e7.symm, lit_bool Tryz.underlying4 f8 e8.symm]
    rfl
theorem gl_of_laid {W : World} (h : laidMetH Tryz.prog [("simulator/code.forms", Rows.laid_simulator_code_forms)] W) : GLof (fun _ => none) (Base.all W) := by
  have h' : laidMet Tryz.prog [("simulator/code.forms", Rows.laid_simulator_code_forms)] W := h
  obtain ⟨ps, ⟨g0, t0, cs0, fuel0, p0, q0, hg0, ht0, hv0, hd0, _, _⟩, _⟩ := h'
  obtain rfl := Option.some.inj ((show Tryz.prog.globalNamed "simulator/code.forms" = some 0 by kernel_rfl).symm.trans hg0)
  obtain rfl := Option.some.inj ((show (Tryz.prog.globals[0]?).map (·.type) = some 314 by kernel_rfl).symm.trans ht0)
  have hlt : ∀ (ad : Addr) (v : Value), W.cell? ad = some v → ad.block < W.heap.size := by
    intro ad v hv
    unfold World.cell? at hv
    by_cases hb : ad.block < W.heap.size
    · exact hb
    · rw [Array.getElem?_eq_none (by omega)] at hv; simp at hv
  -- the forms
  rw [ld_data] at hd0
  rcases DataW.trod_slice Tryz.underlying314 hd0 with ⟨_, hx⟩ | ⟨a, len, cap, elems, rest, n, _, hcs, hx, _, hl, _, hlen, hel, _⟩
  · simp at hx
  simp only [Prod.mk.injEq, DataW.slice.injEq] at hx
  obtain ⟨⟨hx, _⟩, _⟩ := hx
  have hln : len = 20 := by
    have := congrArg List.length hx
    rw [List.length_map, List.length_map, hlen] at this
    exact this.symm
  subst hln
  have h0 : W.cell? ⟨0, 0, none⟩ = some (.slice (some a) 20 cap) := by
    have e : cs0 = #[.slice (some a) 20 cap] := by
      apply Array.ext'
      rw [hcs]
    subst e
    simpa using World.var?_cell (show Tryz.prog.globalNamed "simulator/code.forms" = some 0 by kernel_rfl) hv0 0
  have hcl : ∀ i, i < 20 → ∀ j v, (formV (gl0.getD i default))[j]? = some v → W.cell? (a.add (i * 9 + j)) = some v := by
    intro i hi j v hj
    have hE := hel i hi
    rw [show Tryz.prog.cellsOf 313 = 9 by kernel_rfl] at hE
    have hy : (elems.map (·.1))[i]? = some (formD (gl0.getD i default)) := by
      rw [← hx]
      have hl : i < gl0.length := hi
      rw [List.getElem?_map, List.getElem?_eq_getElem hl, List.getD_eq_getElem?_getD, List.getElem?_eq_getElem hl]; rfl
    rw [List.getElem?_map] at hy
    cases he : elems[i]? with
    | none => rw [he] at hy; cases hy
    | some y =>
      rw [he] at hE hy
      injection hy with hy
      simp only [Option.bind_eq_some_iff] at hE
      obtain ⟨cs, hc, ht⟩ := hE
      obtain ⟨y1, y2⟩ := y
      subst hy
      have := form_open ht
      subst this
      unfold World.cells? at hc
      split at hc
      · have h9 := Lib.mapM_at hc j j (by
          have : j < (formV (gl0.getD i default)).length := (List.getElem?_eq_some_iff.1 hj).1
          rw [show (formV (gl0.getD i default)).length = 9 from rfl] at this
          simp [this])
        obtain ⟨b, hb, hf⟩ := h9
        rw [hj] at hb
        injection hb with hb
        subst hb
        rw [← add_add]
        exact hf
      · cases hc
  refine ⟨fun b => if b < W.heap.size then none else some 0, fun ad hi => ⟨?_, fun n hn => by cases hn⟩, fun g x hg => ?_, fun g vs hg => ?_⟩
  · show ad.block < W.heap.size
    by_cases hb : ad.block < W.heap.size
    · exact hb
    · have := hi 0 (by dsimp only; rw [if_neg hb]); omega
  · obtain ⟨rfl, rfl⟩ : g = 0 ∧ x = .t313 gl0 := by
      unfold GL lookG at hg
      split at hg
      · rename_i he
        exact ⟨(Nat.eq_of_beq_eq_true he).symm, (Option.some.inj hg).symm⟩
      · cases hg
    refine ⟨hlt _ _ h0, _, h0, ?_⟩
    have key := Rel.row (w := W) (M := fun b => if b < W.heap.size then none else some 0) (β := fun _ => none) (B := fun _ => False) (.lst false (.t313 gl0)) ⟨false, 313, 9, 20, (LX.t313 gl0).row⟩ rfl (some a) cap (fun i j => (formV (gl0.getD i default)).getD j undef)
      hl (fun i hi => rfl) (fun i hi => ⟨a, rfl⟩) (fun ad i j p had hi hp => ?_) (fun i j p hi hp => ?_)
    · exact key
    · obtain rfl := Option.some.inj had
      have hj : j < 9 := by
        have := (List.getElem?_eq_some_iff.1 hp).1
        exact this
      have hc' := hcl i hi j ((formV (gl0.getD i default)).getD j undef) (getD_at _ _ _ hj)
      refine ⟨fun n hn => ?_, hc', ?_⟩
      · dsimp only at hn
        rw [if_pos (hlt _ _ hc')] at hn
        cases hn
      · match j, hj with
        | 0, _ => rfl
        | 1, _ => rfl
        | 2, _ => rfl
        | 3, _ => rfl
        | 4, _ => rfl
        | 5, _ => rfl
        | 6, _ => rfl
        | 7, _ => rfl
        | 8, _ => rfl
    · have hj : j < 9 := by
        have := (List.getElem?_eq_some_iff.1 hp).1
        exact this
      match j, hj, hp with
      | 0, _, hp => obtain rfl := Option.some.inj hp; exact .val _ rfl
      | 1, _, hp => obtain rfl := Option.some.inj hp; exact .val _ rfl
      | 2, _, hp => obtain rfl := Option.some.inj hp; exact .val _ rfl
      | 3, _, hp => obtain rfl := Option.some.inj hp; exact .val _ rfl
      | 4, _, hp => obtain rfl := Option.some.inj hp; exact .val _ rfl
      | 5, _, hp => obtain rfl := Option.some.inj hp; exact .val _ rfl
      | 6, _, hp => obtain rfl := Option.some.inj hp; exact .val _ rfl
      | 7, _, hp => obtain rfl := Option.some.inj hp; exact .val _ rfl
      | 8, _, hp => obtain rfl := Option.some.inj hp; exact .val _ rfl
  · simp [GA] at hg
theorem door_met (os : Os) (args : Array Value) : laidMetH Tryz.prog [("simulator/code.forms", Rows.laid_simulator_code_forms)] ((World.doorLaid Tryz.prog 400 os).forCall (fun _ _ => 0) ⟨#[], args, []⟩).memory :=
  laidMet_of_run' 8 (by kernel_rfl) (by kernel_rfl)
end Go.Proofs.YtpdlcbmnmeihoaaGreatDoor.Ev
