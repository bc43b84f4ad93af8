/-  The statement BindFolds, for inputs of bulk at most 1048576: the printed function is the function of the program; the law of the printed function is proved in the texts before. -/
import Derived.Test.YtonfmpiikdmndaaGreatBh
import Derived.Test.YtonfmpiikdmndaaGreatR0
import Derived.Test.YtonfmpiikdmndaaGreatR1
import Derived.Test.YtonfmpiikdmndaaGreatFz
namespace Go.Proofs.YtonfmpiikdmndaaGreat.bindFolds
open Go Go.ChangeShapes Go.WideShapes Go.ChangeAt Go.RowKit Go.Proofs.YtonfmpiikdmndaaGreat.Ev
set_option maxRecDepth 100000
set_option linter.unusedVariables false
set_option linter.unusedSimpArgs false
set_option linter.unnecessarySimpa false
theorem own : ownKnob Tryz.prog.godebug = none := by kernel_rfl
theorem walk (l : List PV) (b : Nat) (hb : b ≤ 1048576) (h : argsOKB Tryz.prog Tryz.f3.params.toList l b) : Holds Tryz.prog 3 l (.val (.bool true)) := by
  change argsOKB Tryz.prog [25] l b at h
  obtain ⟨p0, q0, a0, c0, rfl, v0, ⟨n0, h0⟩, rfl⟩ := h
  simp only [argOKB, Tryz.underlying25] at h0
  obtain ⟨l0, rfl, h0⟩ := h0
  obtain ⟨y0, rfl⟩ := mk25 n0 l0 h0.shp
  have k0 := ok25 n0 y0 h0.shp
  have u0 := bkp25 n0 y0 _ h0
  obtain ⟨L, hL⟩ := law_BindFolds y0 k0 (show bk_api_Expr y0 ≤ 1048576 by omega)
  exact h3 L y0 true hL
set_option maxRecDepth 100000 in
theorem lifted (os : Os) (started : os.Started) (H : Type) (enc : TypeId × Value → H) (F : Stop.Interp) :
    ReturnsInHanded {} Tryz.checked os 3 .any ((Rows.OpenSpec.upto Rows.bindFoldsSpec).pre6 enc Tryz.prog Tryz.f3 Rows.bindFoldsUptoRow.domain false) (((Rows.OpenSpec.upto Rows.bindFoldsSpec).at F).post enc Tryz.prog Tryz.f3 false true false false) := by
  refine returnsInHanded_of_cond (C := Tryz.checked) (s := Rows.OpenSpec.upto Rows.bindFoldsSpec) (k := Rows.uptoSmall) rfl own started (by kernel_rfl) Tryz.func3
    (OpenSpec.witness (enc := enc) (C := Tryz.checked) (s := Rows.OpenSpec.upto Rows.bindFoldsSpec) (k := Rows.uptoSmall) rfl false ⟨#[], #[.agg #[.int .i64 0, .string ⟨#[]⟩, .int .i64 0, .slice none 0 0]], []⟩ 8 (by kernel_rfl) (by kernel_rfl) (by kernel_rfl)
      (x := ([.agg [.lit (.int .i64 0), .lit (.string []), .lit (.int .i64 0), .nil]], [], [])) (by kernel_rfl) rfl (by kernel_rfl)) ?_
  intro W base args ds gs before hval hW _ hk _
  refine law_contractB (P := Tryz.prog) (L := rdL) (tb := 4) rdOk rdMk (by kernel_rfl) (by kernel_rfl) rfl (by kernel_rfl) Tryz.underlying4 (fun ds hd => ?_) walk hval hW hk
  have h3 : ds.length = 1 := hd.trans (by kernel_rfl)
  rw [List.append_nil]
  match ds, h3 with
  | [d0], _ => rfl
theorem over : Rows.bindFoldsUptoRow.holds Tryz.pinned (Rows.OpenSpec.upto Rows.bindFoldsSpec) :=
  OpenClaim.holds_of_cond 3 Tryz.f3 rfl rfl rfl rfl rfl rfl rfl ⟨rfl, rfl, rfl, rfl, rfl⟩ rfl rfl rfl rfl rfl (by kernel_rfl) Tryz.func3 (by kernel_rfl)
    (of_decide_eq_true (by kernel_rfl)) (by unfold Func.isWrapper; first | (rw [if_pos (by decide +kernel)]; kernel_rfl) | (rw [if_neg (by decide +kernel)]; exact ⟨rfl, rfl⟩))
    (fun os started H enc _ F => lifted os started H enc F)
theorem proved : Rows.BindFoldsUptoSaid :=
  over
end Go.Proofs.YtonfmpiikdmndaaGreat.bindFolds
