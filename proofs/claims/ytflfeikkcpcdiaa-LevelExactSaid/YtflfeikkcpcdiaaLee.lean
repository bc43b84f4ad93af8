/-  The statement of LevelExact. -/
import Derived.Test.YtflfeikkcpcdiaaLj
namespace Go.Proofs.Ytflfeikkcpcdiaa.levelExact
open Go Go.ChangeShapes Go.WideShapes Go.ChangeAt Go.RowKit Go.Proofs.Ytflfeikkcpcdiaa.Ev
set_option linter.unusedVariables false
set_option linter.unusedSimpArgs false
set_option linter.unnecessarySimpa false

theorem own : ownKnob Try.prog.godebug = none := by kernel_rfl

theorem walk (l : List PV) (h : argsOK (Try.f5.params.toList.map (mkTy Try.prog 8)) l) : Holds Try.prog 5 l (.val (.bool true)) := by
  have e : Try.f5.params.toList.map (mkTy Try.prog 8) = [.st [.int .i64, .int .i64, .int .i64, .int .i64, .int .i64, .int .i64], .int .i64, .int .i64] := by kernel_rfl
  rw [e] at h
  simp only [argsOK, argOK, Shapes, Shape, List.cons.injEq, and_true] at h
  obtain ⟨p14, q14, rfl, ⟨l14, rfl, ⟨x3, y3, rfl, ⟨n2, rfl, w2⟩, x5, y5, rfl, ⟨n4, rfl, w4⟩, x7, y7, rfl, ⟨n6, rfl, w6⟩, x9, y9, rfl, ⟨n8, rfl, w8⟩, x11, y11, rfl, ⟨n10, rfl, w10⟩, x13, y13, rfl, ⟨n12, rfl, w12⟩, rfl⟩⟩, p16, q16, rfl, ⟨n15, rfl, w15⟩, p18, q18, rfl, ⟨n17, rfl, w17⟩, rfl⟩ := h
  exact h5 (⟨n2, n4, n6, n8, n10, n12⟩ : T26) n15 n17 true (exact_law _ _ _)

set_option maxRecDepth 100000 in
theorem lifted (os : Os) (started : os.Started) (H : Type) (enc : TypeId × Value → H) :
    ReturnsInHanded {} Try.checked os 5 .any (Rows.levelExactSpec.pre6 enc Try.prog Try.f5 Rows.levelExactRow.domain false) (Rows.levelExactSpec.post enc Try.prog Try.f5 false true false false) := by
  refine returnsInHanded_of_change (C := Try.checked) own started (by kernel_rfl) Try.func5
    (ChangeSpec.witness6 (enc := enc) (C := Try.checked) false ⟨#[], #[.agg #[.int .i64 0, .int .i64 0, .int .i64 0, .int .i64 0, .int .i64 0, .int .i64 0], .int .i64 0, .int .i64 0], []⟩ 8 (by kernel_rfl) (by kernel_rfl) (by kernel_rfl) (by kernel_rfl)) ?_
  intro W base args ds gs before hval hW _ _
  refine law_contract (P := Try.prog) (n := 8) (tb := 4) (by kernel_rfl) (by kernel_rfl) rfl (by kernel_rfl) Try.underlying4 (fun ds hd => ?_) walk hval hW
  have h3 : ds.length = 3 := hd.trans (by kernel_rfl)
  rw [List.append_nil]
  match ds, h3 with
  | [d0, d1, d2], _ => rfl

theorem over : Rows.levelExactRow.holds Try.pinned (OpenSpec.ofChange Rows.levelExactSpec) :=
  OpenClaim.holds_of_wide 5 Try.f5 rfl rfl rfl rfl rfl rfl rfl ⟨rfl, rfl, rfl, rfl, rfl⟩ rfl rfl rfl rfl rfl (by kernel_rfl) Try.func5 (by kernel_rfl)
    (of_decide_eq_true (by kernel_rfl)) (by unfold Func.isWrapper; first | (rw [if_pos (by decide +kernel)]; kernel_rfl) | (rw [if_neg (by decide +kernel)]; exact ⟨rfl, rfl⟩))
    (fun os started H enc _ => lifted os started H enc)

theorem proved : Rows.LevelExactSaid :=
  over
end Go.Proofs.Ytflfeikkcpcdiaa.levelExact
