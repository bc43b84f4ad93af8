/-  The statement of LevelAreas. -/
import Derived.Test.YtflfeikkcpcdiaaLh
namespace Go.Proofs.Ytflfeikkcpcdiaa.levelAreas
open Go Go.ChangeShapes Go.WideShapes Go.ChangeAt Go.RowKit Go.Proofs.Ytflfeikkcpcdiaa.Ev
set_option linter.unusedVariables false
set_option linter.unusedSimpArgs false
set_option linter.unnecessarySimpa false

theorem own : ownKnob Try.prog.godebug = none := by kernel_rfl

theorem walk (l : List PV) (h : argsOK (Try.f3.params.toList.map (mkTy Try.prog 8)) l) : Holds Try.prog 3 l (.val (.bool true)) := by
  have e : Try.f3.params.toList.map (mkTy Try.prog 8) = [.int .i8, .int .u16, .sl 32 2 (.st [.int .i8, .int .u8])] := by kernel_rfl
  rw [e] at h
  simp only [argsOK, argOK, Shapes, Shape, List.cons.injEq, and_true] at h
  obtain ⟨p2, q2, rfl, ⟨n1, rfl, w1⟩, p4, q4, rfl, ⟨n3, rfl, w3⟩, p6, q6, rfl, ⟨n5, g5, rfl, w5, z5⟩, rfl⟩ := h
  obtain ⟨xs, e1, e2⟩ := list_of (α := T32) (n := n5) (Q := fun i x => g5 i = encT32 x ∧ (Lit.int .i8 x.Value).wf = true ∧ (Lit.int .u8 x.After).wf = true) (fun i hi => by
    obtain ⟨a, b, e, ⟨p, rfl, w1⟩, c, d, rfl, ⟨q, rfl, w2⟩, rfl⟩ := z5 i hi
    exact ⟨⟨p, q⟩, e, w1, w2⟩)
  subst e1
  refine (areas_holds n1 n3 xs w1 w3 (fun i hi => (e2 i hi).2)).args rfl (fun i p q hp hq => ?_)
  match i, hp, hq with
  | 0, hp, hq => simp at hp hq; subst hp; subst hq; exact fun _ _ _ h => h
  | 1, hp, hq => simp at hp hq; subst hp; subst hq; exact fun _ _ _ h => h
  | 2, hp, hq =>
    simp at hp hq
    subst hp; subst hq
    exact (LeI.arr (fun i hi => (e2 i hi).1)).toA (fun l h => by cases h) (fun d o h => by cases h)

set_option maxRecDepth 100000 in
theorem lifted (os : Os) (started : os.Started) (H : Type) (enc : TypeId × Value → H) :
    ReturnsInHanded {} Try.checked os 3 .any (Rows.levelAreasSpec.pre6 enc Try.prog Try.f3 Rows.levelAreasRow.domain false) (Rows.levelAreasSpec.post enc Try.prog Try.f3 false true false false) := by
  refine returnsInHanded_of_change (C := Try.checked) own started (by kernel_rfl) Try.func3
    (ChangeSpec.witness6 (enc := enc) (C := Try.checked) false ⟨#[], #[.int .i8 0, .int .u16 0, .slice none 0 0], []⟩ 8 (by kernel_rfl) (by kernel_rfl) (by kernel_rfl) (by kernel_rfl)) ?_
  intro W base args ds gs before hval hW _ _
  refine law_contract (P := Try.prog) (n := 8) (tb := 4) (by kernel_rfl) (by kernel_rfl) rfl (by kernel_rfl) Try.underlying4 (fun ds hd => ?_) walk hval hW
  have h3 : ds.length = 3 := hd.trans (by kernel_rfl)
  rw [List.append_nil]
  match ds, h3 with
  | [d0, d1, d2], _ => rfl

theorem over : Rows.levelAreasRow.holds Try.pinned (OpenSpec.ofChange Rows.levelAreasSpec) :=
  OpenClaim.holds_of_wide 3 Try.f3 rfl rfl rfl rfl rfl rfl rfl ⟨rfl, rfl, rfl, rfl, rfl⟩ rfl rfl rfl rfl rfl (by kernel_rfl) Try.func3 (by kernel_rfl)
    (of_decide_eq_true (by kernel_rfl)) (by unfold Func.isWrapper; first | (rw [if_pos (by decide +kernel)]; kernel_rfl) | (rw [if_neg (by decide +kernel)]; exact ⟨rfl, rfl⟩))
    (fun os started H enc _ => lifted os started H enc)

theorem proved : Rows.LevelAreasSaid :=
  over
end Go.Proofs.Ytflfeikkcpcdiaa.levelAreas
