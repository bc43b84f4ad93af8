/-  The statement TypingJoins, for inputs of bulk at most 1048576: the printed function is the function of the program; the law of the printed function is proved in the texts before. -/
import Derived.Test.YtcbandfdmbkokaaGreatL7
import Derived.Test.YtcbandfdmbkokaaGreatR0
import Derived.Test.YtcbandfdmbkokaaGreatR1
import Derived.Test.YtcbandfdmbkokaaGreatFz
namespace Go.Proofs.YtcbandfdmbkokaaGreat.typingJoins
open Go Go.ChangeShapes Go.WideShapes Go.ChangeAt Go.RowKit Go.Proofs.YtcbandfdmbkokaaGreat.Ev
set_option maxRecDepth 100000
set_option linter.unusedVariables false
set_option linter.unusedSimpArgs false
set_option linter.unnecessarySimpa false
theorem own:ownKnob Tryz.prog.godebug=none:=by kernel_rfl
theorem walk(l:List PV)(b:Nat)(hb:b≤1048576)(h:o7 Tryz.prog Tryz.f7.params.toList l b):Bc Tryz.prog 7 l (.val (.bool true)):=by
 change o7 Tryz.prog [54] l b at h
 obtain ⟨p0,q0,a0,c0,rfl,v0,⟨n0,h0⟩,rfl⟩:=h
 simp only [Ar4,Tryz.underlying54] at h0
 obtain ⟨l0,rfl,h0⟩:=h0
 obtain ⟨y0,rfl⟩:=Box n0 l0 h0.shp
 have k0:=Bpb n0 y0 h0.shp
 have u0:=Bar n0 y0 _ h0
 obtain ⟨L,hL⟩:=Ait y0 k0 (show Rg y0≤1048576 by omega)
 exact h7 L y0 true hL
set_option maxRecDepth 100000 in
theorem lifted(os:Os)(started:os.Started)(H:Type)(enc:TypeId×Value→H)(F:Stop.Interp):
  ReturnsInHanded {} Tryz.checked os 7 .any ((Rows.OpenSpec.upto Rows.typingJoinsSpec).pre6 enc Tryz.prog Tryz.f7 Rows.typingJoinsUptoRow.domain false) (((Rows.OpenSpec.upto Rows.typingJoinsSpec).at F).post enc Tryz.prog Tryz.f7 false true false false):=by
 refine returnsInHanded_of_cond (C:= Tryz.checked) (s:=Rows.OpenSpec.upto Rows.typingJoinsSpec) (k:=Rows.uptoSmall) rfl own started (by kernel_rfl) Tryz.func7
  (OpenSpec.witness (enc:=enc) (C:= Tryz.checked) (s:=Rows.OpenSpec.upto Rows.typingJoinsSpec) (k:=Rows.uptoSmall) rfl false ⟨#[], #[.agg #[.string ⟨#[]⟩,.slice none 0 0,.slice none 0 0,.slice none 0 0,.int .i64 0,.slice none 0 0,.slice none 0 0,.slice none 0 0]],[]⟩ 8 (by kernel_rfl) (by kernel_rfl) (by kernel_rfl)
   (x:=([.agg [.agg [.lit (.string []),.nil,.nil,.nil],.lit (.int .i64 0),.nil,.nil,.nil]],[],[])) (by kernel_rfl) rfl (by kernel_rfl)) ?_
 intro W base args ds gs before hval hW _ hk _
 refine Acz (P:= Tryz.prog) (L:=rdL) (tb:=4) Bqw Bqv (by kernel_rfl) (by kernel_rfl) rfl (by kernel_rfl) Tryz.underlying4 (fun ds hd=> ?_) walk hval hW hk
 have h3:ds.length=1:=hd.trans (by kernel_rfl)
 rw [List.append_nil]
 match ds,h3 with
 | [d0],_=>rfl
theorem over:Rows.typingJoinsUptoRow.holds Tryz.pinned (Rows.OpenSpec.upto Rows.typingJoinsSpec):=
 OpenClaim.holds_of_cond 7 Tryz.f7 rfl rfl rfl rfl rfl rfl rfl ⟨rfl,rfl,rfl,rfl,rfl⟩ rfl rfl rfl rfl rfl (by kernel_rfl) Tryz.func7 (by kernel_rfl)
  (of_decide_eq_true (by kernel_rfl)) (by unfold Func.isWrapper;first|(rw [if_pos (by decide+kernel)];kernel_rfl)|(rw [if_neg (by decide+kernel)];exact ⟨rfl,rfl⟩))
  (fun os started H enc _ F=>lifted os started H enc F)
theorem proved:Rows.TypingJoinsUptoSaid:=
 over
end Go.Proofs.YtcbandfdmbkokaaGreat.typingJoins
