/-  The statement TypingHides, for inputs of bulk at most 1048576: the printed function is the function of the program; the law of the printed function is proved in the texts before. -/
import Derived.Test.YtmimkinjcfekmaaGreatL9
import Derived.Test.YtmimkinjcfekmaaGreatR0
import Derived.Test.YtmimkinjcfekmaaGreatFz
namespace Go.Proofs.YtmimkinjcfekmaaGreat.typingHides
open Go Go.ChangeShapes Go.WideShapes Go.ChangeAt Go.RowKit Go.Proofs.YtmimkinjcfekmaaGreat.Ev
set_option maxRecDepth 100000
set_option linter.unusedVariables false
set_option linter.unusedSimpArgs false
set_option linter.unnecessarySimpa false
theorem own:ownKnob Tryz.prog.godebug=none:=by kernel_rfl
theorem walk(l:List PV)(b:Nat)(hb:b≤1048576)(h:P5 Tryz.prog Tryz.f3.params.toList l b):Holds Tryz.prog 3 l (.val (.bool true)):=by
 change P5 Tryz.prog [34,38,41] l b at h
 obtain ⟨p0,q0,a0,c0,rfl,v0,⟨n0,h0⟩,p1,q1,a1,c1,rfl,v1,⟨n1,h1⟩,p2,q2,a2,c2,rfl,v2,⟨n2,h2⟩,rfl⟩:=h
 simp only [Tq,Tryz.underlying34] at h0
 obtain ⟨l0,rfl,h0⟩:=h0
 obtain ⟨y0,rfl,k0,u0⟩:=RT.rd Ak1 h0
 simp only [Tq,Tryz.underlying38] at h1
 obtain ⟨l1,rfl,h1⟩:=h1
 obtain ⟨y1,rfl,k1,u1⟩:=RT.rd Ac5 h1
 simp only [Tq,Tryz.underlying41] at h2
 obtain ⟨l2,rfl,h2⟩:=h2
 obtain ⟨y2,rfl,k2,u2⟩:=RT.rd Ahq h2
 obtain ⟨L,hL⟩:=Sz y0 y1 y2 k0 k1 k2 (show Hj y0+Az y1+C8 y2≤1048576 by omega)
 exact h3 L y0 y1 y2 true hL
set_option maxRecDepth 100000 in
theorem lifted(os:Os)(started:os.Started)(H:Type)(enc:TypeId×Value→H)(F:Stop.Interp):
  ReturnsInHanded {} Tryz.checked os 3 .any ((Rows.OpenSpec.upto Rows.typingHidesSpec).pre6 enc Tryz.prog Tryz.f3 Rows.typingHidesUptoRow.domain false) (((Rows.OpenSpec.upto Rows.typingHidesSpec).at F).post enc Tryz.prog Tryz.f3 false true false false):=by
 refine returnsInHanded_of_cond (C:= Tryz.checked) (s:=Rows.OpenSpec.upto Rows.typingHidesSpec) (k:=Rows.uptoSmall) rfl own started (by kernel_rfl) Tryz.func3
  (OpenSpec.witness (enc:=enc) (C:= Tryz.checked) (s:=Rows.OpenSpec.upto Rows.typingHidesSpec) (k:=Rows.uptoSmall) rfl false ⟨#[], #[.agg #[.slice none 0 0,.slice none 0 0,.string ⟨#[]⟩,.slice none 0 0,.slice none 0 0,.slice none 0 0,.slice none 0 0,.slice none 0 0,.slice none 0 0,.slice none 0 0,.slice none 0 0,.slice none 0 0,.slice none 0 0,.slice none 0 0,.slice none 0 0],.agg #[.int .i64 0,.string ⟨#[]⟩,.int .i64 0,.slice none 0 0],.agg #[.string ⟨#[]⟩,.int .i64 0]],[]⟩ 8 (by kernel_rfl) (by kernel_rfl) (by kernel_rfl)
   (x:=([.agg [.nil,.nil,.agg [.lit (.string []),.nil,.nil,.nil,.nil,.nil,.nil,.nil,.nil,.nil,.nil,.nil,.nil]],.agg [.lit (.int .i64 0),.lit (.string []),.lit (.int .i64 0),.nil],.agg [.lit (.string []),.lit (.int .i64 0)]],[],[])) (by kernel_rfl) rfl (by kernel_rfl)) ?_
 intro W base args ds gs before hval hW _ hk _
 refine Va (P:= Tryz.prog) (L:=rdL) (tb:=4) Akr Akq (by kernel_rfl) (by kernel_rfl) rfl (by kernel_rfl) Tryz.underlying4 (fun ds hd=> ?_) walk hval hW hk
 have h3:ds.length=3:=hd.trans (by kernel_rfl)
 rw [List.append_nil]
 match ds,h3 with
 | [d0,d1,d2],_=>rfl
theorem over:Rows.typingHidesUptoRow.holds Tryz.pinned (Rows.OpenSpec.upto Rows.typingHidesSpec):=
 OpenClaim.holds_of_cond 3 Tryz.f3 rfl rfl rfl rfl rfl rfl rfl ⟨rfl,rfl,rfl,rfl,rfl⟩ rfl rfl rfl rfl rfl (by kernel_rfl) Tryz.func3 (by kernel_rfl)
  (of_decide_eq_true (by kernel_rfl)) (by unfold Func.isWrapper;first|(rw [if_pos (by decide+kernel)];kernel_rfl)|(rw [if_neg (by decide+kernel)];exact ⟨rfl,rfl⟩))
  (fun os started H enc _ F=>lifted os started H enc F)
theorem proved:Rows.TypingHidesUptoSaid:=
 over
end Go.Proofs.YtmimkinjcfekmaaGreat.typingHides
