/-  The statement DesignParts, for inputs of bulk at most 1048576: the printed function is the function of the program; the law of the printed function is proved in the texts before. -/
import Derived.Test.YtaaiehkfndibkaaGreatDg
import Derived.Test.YtaaiehkfndibkaaGreatR0
import Derived.Test.YtaaiehkfndibkaaGreatR1
import Derived.Test.YtaaiehkfndibkaaGreatFz
namespace Go.Proofs.YtaaiehkfndibkaaGreat.designParts
open Go Go.ChangeShapes Go.WideShapes Go.ChangeAt Go.RowKit Go.Proofs.YtaaiehkfndibkaaGreat.Ev
set_option maxRecDepth 100000
set_option linter.unusedVariables false
set_option linter.unusedSimpArgs false
set_option linter.unnecessarySimpa false
theorem own : ownKnob Tryz.prog.godebug = none := by kernel_rfl
theorem walk (l : List PV) (b : Nat) (hb : b ≤ 1048576) (h : argsOKB Tryz.prog Tryz.f5.params.toList l b) : Holds Tryz.prog 5 l (.val (.bool true)) := by
  change argsOKB Tryz.prog [27, 35] l b at h
  obtain ⟨p0, q0, a0, c0, rfl, v0, ⟨n0, h0⟩, p1, q1, a1, c1, rfl, v1, ⟨n1, h1⟩, rfl⟩ := h
  simp only [argOKB, Tryz.underlying27] at h0
  obtain ⟨x0, z0, e0, _⟩ := shp_sl Tryz.underlying27 h0.shp
  injection z0 with z0 _
  subst z0
  obtain ⟨y0, rfl⟩ := lx59 x0 e0
  have k0 := okl27 n0 y0 h0.shp
  have u0 := bkp27 n0 y0 _ h0
  simp only [argOKB, Tryz.underlying35] at h1
  obtain ⟨x1, z1, e1, _⟩ := shp_sl Tryz.underlying35 h1.shp
  injection z1 with z1 _
  subst z1
  obtain ⟨y1, rfl⟩ := lx3 x1 e1
  have k1 := okl35 n1 y1 h1.shp
  have u1 := bkp35 n1 y1 _ h1
  obtain ⟨L, hL⟩ := law_DesignParts y0 y1 k0 k1 (show (sumL bk_api_Factor y0 + 1) + (sumL (fun (z : Int) => 1) y1 + 1) ≤ 1048576 by omega)
  exact h5 L y0 y1 true hL
set_option maxRecDepth 100000 in
theorem lifted (os : Os) (started : os.Started) (H : Type) (enc : TypeId × Value → H) (F : Stop.Interp) :
    ReturnsInHanded {} Tryz.checked os 5 .any ((Rows.OpenSpec.upto Rows.designPartsSpec).pre6 enc Tryz.prog Tryz.f5 Rows.designPartsUptoRow.domain false) (((Rows.OpenSpec.upto Rows.designPartsSpec).at F).post enc Tryz.prog Tryz.f5 false true false false) := by
  refine returnsInHanded_of_cond (C := Tryz.checked) (s := Rows.OpenSpec.upto Rows.designPartsSpec) (k := Rows.uptoSmall) rfl own started (by kernel_rfl) Tryz.func5
    (OpenSpec.witness (enc := enc) (C := Tryz.checked) (s := Rows.OpenSpec.upto Rows.designPartsSpec) (k := Rows.uptoSmall) rfl false ⟨#[], #[.slice none 0 0, .slice none 0 0], []⟩ 8 (by kernel_rfl) (by kernel_rfl) (by kernel_rfl)
      (x := ([.nil, .nil], [], [])) (by kernel_rfl) rfl (by kernel_rfl)) ?_
  intro W base args ds gs before hval hW _ hk _
  refine law_contractB (P := Tryz.prog) (L := rdL) (tb := 4) rdOk rdMk (by kernel_rfl) (by kernel_rfl) rfl (by kernel_rfl) Tryz.underlying4 (fun ds hd => ?_) walk hval hW hk
  have h3 : ds.length = 2 := hd.trans (by kernel_rfl)
  rw [List.append_nil]
  match ds, h3 with
  | [d0, d1], _ => rfl
theorem over : Rows.designPartsUptoRow.holds Tryz.pinned (Rows.OpenSpec.upto Rows.designPartsSpec) :=
  OpenClaim.holds_of_cond 5 Tryz.f5 rfl rfl rfl rfl rfl rfl rfl ⟨rfl, rfl, rfl, rfl, rfl⟩ rfl rfl rfl rfl rfl (by kernel_rfl) Tryz.func5 (by kernel_rfl)
    (of_decide_eq_true (by kernel_rfl)) (by unfold Func.isWrapper; first | (rw [if_pos (by decide +kernel)]; kernel_rfl) | (rw [if_neg (by decide +kernel)]; exact ⟨rfl, rfl⟩))
    (fun os started H enc _ F => lifted os started H enc F)
theorem proved : Rows.DesignPartsUptoSaid :=
  over
end Go.Proofs.YtaaiehkfndibkaaGreat.designParts
