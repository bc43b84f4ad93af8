/-  The statement BindModels, for inputs of bulk at most 1048576: the printed function is the function of the program; the law of the printed function is proved in the texts before. -/
import Derived.Test.YtofcpkmnhmnfcaaGreatRSC
import Derived.Test.YtofcpkmnhmnfcaaGreatRR0
import Derived.Test.YtofcpkmnhmnfcaaGreatRFz
namespace Go.Proofs.YtofcpkmnhmnfcaaGreatR.bindModels
open Go Go.ChangeShapes Go.WideShapes Go.ChangeAt Go.RowKit Go.Proofs.YtofcpkmnhmnfcaaGreatR.Ev
set_option maxRecDepth 100000
set_option linter.unusedVariables false
set_option linter.unusedSimpArgs false
set_option linter.unnecessarySimpa false
theorem own:ownKnob Tryz.prog.godebug=none:=by kernel_rfl
theorem walk(l:List PV)(b:Nat)(hb:b≤1048576)(h:Ayw Tryz.prog Tryz.f3.params.toList l b):Hv Tryz.prog 3 l (.val (.bool true)):=by
 change Ayw Tryz.prog [26,27] l b at h
 obtain ⟨p0,q0,a0,c0,rfl,v0,⟨n0,h0⟩,p1,q1,a1,c1,rfl,v1,⟨n1,h1⟩,rfl⟩:=h
 simp only [Bda,Tryz.underlying26] at h0
 obtain ⟨l0,rfl,h0⟩:=h0
 obtain ⟨y0,rfl,k0,u0⟩:=RT.rd Cre h0
 simp only [Bda,Tryz.underlying27] at h1
 obtain ⟨y1,z1,k1,u1⟩:=RT.rd Crf h1
 injection z1 with z1 _
 subst z1
 have u1:(Hd Y4 y1+1)≤_:=u1
 obtain ⟨L,hL⟩:=A7s y0 y1 k0 k1 (show Hr y0+(Hd Y4 y1+1)≤1048576 by omega)
 exact h3 L y0 y1 true hL
set_option maxRecDepth 100000 in
theorem lifted(os:Os)(started:os.Started)(H:Type)(enc:TypeId×Value→H)(F:Stop.Interp):
  ReturnsInHanded {} Tryz.checked os 3 .any ((Rows.OpenSpec.upto Rows.bindModelsSpec).pre6 enc Tryz.prog Tryz.f3 Rows.bindModelsUptoRow.domain false) (((Rows.OpenSpec.upto Rows.bindModelsSpec).at F).post enc Tryz.prog Tryz.f3 false true false false):=by
 refine returnsInHanded_of_cond (C:= Tryz.checked) (s:=Rows.OpenSpec.upto Rows.bindModelsSpec) (k:=Rows.uptoSmall) rfl own started (by kernel_rfl) Tryz.func3
  (OpenSpec.witness (enc:=enc) (C:= Tryz.checked) (s:=Rows.OpenSpec.upto Rows.bindModelsSpec) (k:=Rows.uptoSmall) rfl false ⟨#[], #[.agg #[.string ⟨#[]⟩,.slice none 0 0,.slice none 0 0,.slice none 0 0],.slice none 0 0],[]⟩ 8 (by kernel_rfl) (by kernel_rfl) (by kernel_rfl)
   (x:=([.agg [.lit (.string []),.nil,.nil,.nil],.nil],[],[])) (by kernel_rfl) rfl (by kernel_rfl)) ?_
 intro W base args ds gs before hval hW _ hk _
 refine A93 (P:= Tryz.prog) (L:=rdL) (tb:=4) Cq8 Cq7 (by kernel_rfl) (by kernel_rfl) rfl (by kernel_rfl) Tryz.underlying4 (fun ds hd=> ?_) walk hval hW hk
 have h3:ds.length=2:=hd.trans (by kernel_rfl)
 rw [List.append_nil]
 match ds,h3 with
 | [d0,d1],_=>rfl
theorem over:Rows.bindModelsUptoRow.holds Tryz.pinned (Rows.OpenSpec.upto Rows.bindModelsSpec):=
 OpenClaim.holds_of_cond 3 Tryz.f3 rfl rfl rfl rfl rfl rfl rfl ⟨rfl,rfl,rfl,rfl,rfl⟩ rfl rfl rfl rfl rfl (by kernel_rfl) Tryz.func3 (by kernel_rfl)
  (of_decide_eq_true (by kernel_rfl)) (by unfold Func.isWrapper;first|(rw [if_pos (by decide+kernel)];kernel_rfl)|(rw [if_neg (by decide+kernel)];exact ⟨rfl,rfl⟩))
  (fun os started H enc _ F=>lifted os started H enc F)
theorem proved:Rows.BindModelsUptoSaid:=
 over
end Go.Proofs.YtofcpkmnhmnfcaaGreatR.bindModels
