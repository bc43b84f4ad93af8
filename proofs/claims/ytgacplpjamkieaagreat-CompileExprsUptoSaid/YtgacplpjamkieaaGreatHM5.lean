/-  The statement CompileExprs, for inputs of bulk at most 1048576: the printed function is the function of the program; the law of the printed function is proved in the texts before. -/
import Derived.Test.YtgacplpjamkieaaGreatHWA
import Derived.Test.YtgacplpjamkieaaGreatHR0
import Derived.Test.YtgacplpjamkieaaGreatHFz
set_option maxRecDepth 100000
set_option linter.unusedVariables false
set_option linter.unusedSimpArgs false
set_option linter.unnecessarySimpa false
namespace Go.Proofs.YtgacplpjamkieaaGreat.compileExprs
open Go Go.ChangeShapes Go.WideShapes Go.ChangeAt Go.RowKit Go.Proofs.YtgacplpjamkieaaGreat.Ev
theorem own:ownKnob Tryz.prog.godebug=none:=by kernel_rfl
theorem walk(l:List PV)(b:Nat)(hb:b<=1048576)(h:Ajv Tryz.prog Tryz.f5.params.toList l b):Holds Tryz.prog 5 l (.val (.bool true)):=by
 change Ajv Tryz.prog [69,53] l b at h
 obtain⟨p0,q0,a0,c0,rfl,v0,⟨n0,h0⟩,p1,q1,a1,c1,rfl,v1,⟨n1,h1⟩,rfl⟩:=h;simp only[Avi,Tryz.underlying69]at h0;obtain⟨l0,rfl,h0⟩:=h0;obtain⟨y0,rfl,k0,u0⟩:=RT.rd Bso h0;simp only[Avi,Tryz.underlying53]at h1;obtain⟨l1,rfl,h1⟩:=h1;obtain⟨y1,rfl,k1,u1⟩:=RT.rd A7u h1;obtain⟨L,hL⟩:=Al9 y0 y1 k0 k1 (show Xg y0+Bx y1<=1048576 by omega);exact h5 L y0 y1 true hL
set_option maxRecDepth 100000 in
theorem lifted(os:Os)(started:os.Started)(H:Type)(enc:TypeId×Value->H)(F:Stop.Interp):
  ReturnsInHanded {} Tryz.checked os 5 .any ((Rows.OpenSpec.upto Rows.compileExprsSpec).pre6 enc Tryz.prog Tryz.f5 Rows.compileExprsUptoRow.domain false) (((Rows.OpenSpec.upto Rows.compileExprsSpec).at F).post enc Tryz.prog Tryz.f5 false true false false):=by
 refine returnsInHanded_of_cond (C:= Tryz.checked) (s:=Rows.OpenSpec.upto Rows.compileExprsSpec) (k:=Rows.uptoSmall) rfl own started (by kernel_rfl) Tryz.func5
  (OpenSpec.witness (enc:=enc) (C:= Tryz.checked) (s:=Rows.OpenSpec.upto Rows.compileExprsSpec) (k:=Rows.uptoSmall) rfl false ⟨#[], #[.agg #[.slice none 0 0,.slice none 0 0,.string ⟨#[]⟩,.slice none 0 0,.slice none 0 0,.slice none 0 0,.slice none 0 0,.slice none 0 0,.slice none 0 0,.slice none 0 0,.slice none 0 0,.slice none 0 0,.slice none 0 0,.slice none 0 0,.slice none 0 0],.agg #[.int .i64 0,.string ⟨#[]⟩,.int .i64 0,.slice none 0 0]],[]⟩ 8 (by kernel_rfl) (by kernel_rfl) (by kernel_rfl)
   (x:=([.agg [.nil,.nil,.agg [.lit (.string []),.nil,.nil,.nil,.nil,.nil,.nil,.nil,.nil,.nil,.nil,.nil,.nil]],.agg [.lit (.int .i64 0),.lit (.string []),.lit (.int .i64 0),.nil]],[],[])) (by kernel_rfl) rfl (by kernel_rfl)) ?_
 intro W base args ds gs before hval hW _ hk _;refine As9 (P:= Tryz.prog) (L:=rdL) (tb:=4) Br9 Br8 (by kernel_rfl) (by kernel_rfl) rfl (by kernel_rfl) Tryz.underlying4 (λds hd=>?_) walk hval ⟨λ_=>some 0,λa h=>absurd (h 0 rfl) (Nat.not_lt_zero _),λg x h=>(by cases h),λg vs h=>(by cases h)⟩ hW hk;have h3:ds.length=2:=hd.trans (by kernel_rfl);rw[List.append_nil]
 match ds,h3 with
 | [d0,d1],_=>rfl
theorem over:Rows.compileExprsUptoRow.holds Tryz.pinned (Rows.OpenSpec.upto Rows.compileExprsSpec):=
 OpenClaim.holds_of_cond 5 Tryz.f5 rfl rfl rfl rfl rfl rfl rfl ⟨rfl,rfl,rfl,rfl,rfl⟩ rfl rfl rfl rfl rfl (by kernel_rfl) Tryz.func5 (by kernel_rfl)
  (of_decide_eq_true (by kernel_rfl)) (by unfold Func.isWrapper;first|(rw[if_pos (by decide+kernel)];kernel_rfl)|(rw[if_neg (by decide+kernel)];exact⟨rfl,rfl⟩))
  (λos started H enc _ F=>lifted os started H enc F)
theorem proved:Rows.CompileExprsUptoSaid:=
 over
end Go.Proofs.YtgacplpjamkieaaGreat.compileExprs
