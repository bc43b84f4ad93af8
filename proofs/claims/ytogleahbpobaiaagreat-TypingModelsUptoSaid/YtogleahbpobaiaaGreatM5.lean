/-  The statement TypingModels, for inputs of bulk at most 1048576: the printed function is the function of the program; the law of the printed function is proved in the texts before. -/
import Derived.Test.YtogleahbpobaiaaGreatL5
import Derived.Test.YtogleahbpobaiaaGreatR0
import Derived.Test.YtogleahbpobaiaaGreatR1
import Derived.Test.YtogleahbpobaiaaGreatFz
namespace Go.Proofs.YtogleahbpobaiaaGreat.typingModels
open Go Go.ChangeShapes Go.WideShapes Go.ChangeAt Go.RowKit Go.Proofs.YtogleahbpobaiaaGreat.Ev
set_option maxRecDepth 100000
set_option linter.unusedVariables false
set_option linter.unusedSimpArgs false
set_option linter.unnecessarySimpa false
theorem own:ownKnob Tryz.prog.godebug=none:=by kernel_rfl
theorem walk(l:List PV)(b:Nat)(hb:b≤1048576)(h:Au0 Tryz.prog Tryz.f4.params.toList l b):I0 Tryz.prog 4 l (.val (.bool true)):=by
 change Au0 Tryz.prog [51] l b at h
 obtain ⟨p0,q0,a0,c0,rfl,v0,⟨n0,h0⟩,rfl⟩:=h
 simp only [Bgc,Tryz.underlying51] at h0
 obtain ⟨l0,rfl,h0⟩:=h0
 obtain ⟨y0,rfl⟩:=Ckm n0 l0 h0.shp
 have k0:=Cks n0 y0 h0.shp
 have u0:=Ccm n0 y0 _ h0
 obtain ⟨L,hL⟩:=Axb y0 k0 (show Gb y0≤1048576 by omega)
 exact h4 L y0 true hL
set_option maxRecDepth 100000 in
theorem lifted(os:Os)(started:os.Started)(H:Type)(enc:TypeId×Value→H)(F:Stop.Interp):
  ReturnsInHanded {} Tryz.checked os 4 .any ((Rows.OpenSpec.upto Rows.typingModelsSpec).pre6 enc Tryz.prog Tryz.f4 Rows.typingModelsUptoRow.domain false) (((Rows.OpenSpec.upto Rows.typingModelsSpec).at F).post enc Tryz.prog Tryz.f4 false true false false):=by
 refine returnsInHanded_of_cond (C:= Tryz.checked) (s:=Rows.OpenSpec.upto Rows.typingModelsSpec) (k:=Rows.uptoSmall) rfl own started (by kernel_rfl) Tryz.func4
  (OpenSpec.witness (enc:=enc) (C:= Tryz.checked) (s:=Rows.OpenSpec.upto Rows.typingModelsSpec) (k:=Rows.uptoSmall) rfl false ⟨#[], #[.agg #[.string ⟨#[]⟩,.slice none 0 0,.slice none 0 0,.slice none 0 0]],[]⟩ 8 (by kernel_rfl) (by kernel_rfl) (by kernel_rfl)
   (x:=([.agg [.lit (.string []),.nil,.nil,.nil]],[],[])) (by kernel_rfl) rfl (by kernel_rfl)) ?_
 intro W base args ds gs before hval hW _ hk _
 refine A5w (P:= Tryz.prog) (L:=rdL) (tb:=4) Ck4 Ck3 (by kernel_rfl) (by kernel_rfl) rfl (by kernel_rfl) Tryz.underlying4 (fun ds hd=> ?_) walk hval hW hk
 have h3:ds.length=1:=hd.trans (by kernel_rfl)
 rw [List.append_nil]
 match ds,h3 with
 | [d0],_=>rfl
theorem over:Rows.typingModelsUptoRow.holds Tryz.pinned (Rows.OpenSpec.upto Rows.typingModelsSpec):=
 OpenClaim.holds_of_cond 4 Tryz.f4 rfl rfl rfl rfl rfl rfl rfl ⟨rfl,rfl,rfl,rfl,rfl⟩ rfl rfl rfl rfl rfl (by kernel_rfl) Tryz.func4 (by kernel_rfl)
  (of_decide_eq_true (by kernel_rfl)) (by unfold Func.isWrapper;first|(rw [if_pos (by decide+kernel)];kernel_rfl)|(rw [if_neg (by decide+kernel)];exact ⟨rfl,rfl⟩))
  (fun os started H enc _ F=>lifted os started H enc F)
theorem proved:Rows.TypingModelsUptoSaid:=
 over
end Go.Proofs.YtogleahbpobaiaaGreat.typingModels
