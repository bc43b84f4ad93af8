/-  The statement CompileSizes, for inputs of bulk at most 1048576: the printed function is the function of the program; the law of the printed function is proved in the texts before. -/
import Derived.Test.YtgacplpjamkieaaGreatZEh
import Derived.Test.YtgacplpjamkieaaGreatZR0
import Derived.Test.YtgacplpjamkieaaGreatZFz
set_option maxRecDepth 100000
set_option linter.unusedVariables false
set_option linter.unusedSimpArgs false
set_option linter.unnecessarySimpa false
namespace Go.Proofs.YtgacplpjamkieaaGreat.compileSizes
open Go Go.ChangeShapes Go.WideShapes Go.ChangeAt Go.RowKit Go.Proofs.YtgacplpjamkieaaGreat.Ev
theorem own:ownKnob Tryz.prog.godebug=none:=by kernel_rfl
theorem walk(l:List PV)(b:Nat)(hb:b<=1048576)(h:Ah3 Tryz.prog Tryz.f3.params.toList l b):Yi Tryz.prog 3 l (.val (.bool true)):=by
 change Ah3 Tryz.prog [26,3,3] l b at h
 obtain⟨p0,q0,a0,c0,rfl,v0,⟨n0,h0⟩,p1,q1,a1,c1,rfl,v1,⟨n1,h1⟩,p2,q2,a2,c2,rfl,v2,⟨n2,h2⟩,rfl⟩:=h;simp only[Aka,Tryz.underlying26]at h0;obtain⟨l0,rfl,h0⟩:=h0;obtain⟨y0,rfl,k0,u0⟩:=RT.rd Btw h0;simp only[Aka,Tryz.underlying3]at h1;obtain⟨y1,z1,k1,u1⟩:=RT.rd rt3 h1;injection z1 with z1 _
 subst z1;simp only[Aka,Tryz.underlying3]at h2;obtain⟨y2,z2,k2,u2⟩:=RT.rd rt3 h2;injection z2 with z2 _
 subst z2;obtain⟨L,hL⟩:=Aqs y0 y1 y2 k0 k1 k2 (show Hi y0<=1048576 by omega);exact h3 L y0 y1 y2 true hL
set_option maxRecDepth 100000 in
theorem lifted(os:Os)(started:os.Started)(H:Type)(enc:TypeId×Value->H)(F:Stop.Interp):
  ReturnsInHanded {} Tryz.checked os 3 .any ((Rows.OpenSpec.upto Rows.compileSizesSpec).pre6 enc Tryz.prog Tryz.f3 Rows.compileSizesUptoRow.domain false) (((Rows.OpenSpec.upto Rows.compileSizesSpec).at F).post enc Tryz.prog Tryz.f3 false true false false):=by
 refine returnsInHanded_of_cond (C:= Tryz.checked) (s:=Rows.OpenSpec.upto Rows.compileSizesSpec) (k:=Rows.uptoSmall) rfl own started (by kernel_rfl) Tryz.func3
  (OpenSpec.witness (enc:=enc) (C:= Tryz.checked) (s:=Rows.OpenSpec.upto Rows.compileSizesSpec) (k:=Rows.uptoSmall) rfl false ⟨#[], #[.agg #[.string ⟨#[]⟩,.slice none 0 0,.slice none 0 0,.slice none 0 0],.int .i64 0,.int .i64 0],[]⟩ 8 (by kernel_rfl) (by kernel_rfl) (by kernel_rfl)
   (x:=([.agg [.lit (.string []),.nil,.nil,.nil],.lit (.int .i64 0),.lit (.int .i64 0)],[],[])) (by kernel_rfl) rfl (by kernel_rfl)) ?_
 intro W base args ds gs before hval hW _ hk _;refine Amc (P:= Tryz.prog) (L:=rdL) (tb:=4) Btm Btl (by kernel_rfl) (by kernel_rfl) rfl (by kernel_rfl) Tryz.underlying4 (λds hd=>?_) walk hval ⟨fun _ => some 0, fun a h => absurd (h 0 rfl) (Nat.not_lt_zero _), fun g x h => (by cases h), fun g vs h => (by cases h)⟩ hW hk;have h3:ds.length=3:=hd.trans (by kernel_rfl);rw[List.append_nil]
 match ds,h3 with
 | [d0,d1,d2],_=>rfl
theorem over:Rows.compileSizesUptoRow.holds Tryz.pinned (Rows.OpenSpec.upto Rows.compileSizesSpec):=
 OpenClaim.holds_of_cond 3 Tryz.f3 rfl rfl rfl rfl rfl rfl rfl ⟨rfl,rfl,rfl,rfl,rfl⟩ rfl rfl rfl rfl rfl (by kernel_rfl) Tryz.func3 (by kernel_rfl)
  (of_decide_eq_true (by kernel_rfl)) (by unfold Func.isWrapper;first|(rw[if_pos (by decide+kernel)];kernel_rfl)|(rw[if_neg (by decide+kernel)];exact⟨rfl,rfl⟩))
  (λos started H enc _ F=>lifted os started H enc F)
theorem proved:Rows.CompileSizesUptoSaid:=
 over
end Go.Proofs.YtgacplpjamkieaaGreat.compileSizes
