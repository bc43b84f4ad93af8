/-  The statement DesignBinds, for inputs of bulk at most 1048576: the printed function is the function of the program; the law of the printed function is proved in the texts before. -/
import Derived.Test.YtfencmicmnhglaaGreatDK
import Derived.Test.YtfencmicmnhglaaGreatR0
import Derived.Test.YtfencmicmnhglaaGreatR1
import Derived.Test.YtfencmicmnhglaaGreatFz
namespace Go.Proofs.YtfencmicmnhglaaGreat.designBinds
open Go Go.ChangeShapes Go.WideShapes Go.ChangeAt Go.RowKit Go.Proofs.YtfencmicmnhglaaGreat.Ev
set_option maxRecDepth 100000
set_option linter.unusedVariables false
set_option linter.unusedSimpArgs false
set_option linter.unnecessarySimpa false
theorem own:ownKnob Tryz.prog.godebug=none:=by kernel_rfl
theorem walk(l:List PV)(b:Nat)(hb:b≤1048576)(h:Amt Tryz.prog Tryz.f4.params.toList l b):Ij Tryz.prog 4 l (.val (.bool true)):=by
 change Amt Tryz.prog [26,27,5,5] l b at h
 obtain ⟨p0,q0,a0,c0,rfl,v0,⟨n0,h0⟩,p1,q1,a1,c1,rfl,v1,⟨n1,h1⟩,p2,q2,a2,c2,rfl,v2,⟨n2,h2⟩,p3,q3,a3,c3,rfl,v3,⟨n3,h3⟩,rfl⟩:=h
 simp only [Aok,Tryz.underlying26] at h0
 obtain ⟨l0,rfl,h0⟩:=h0
 obtain ⟨y0,rfl⟩:=B3x n0 l0 h0.shp
 have k0:=B33 n0 y0 h0.shp
 have u0:=Bxe n0 y0 _ h0
 simp only [Aok,Tryz.underlying27] at h1
 obtain ⟨x1,z1,e1,_⟩:=Gw Tryz.underlying27 h1.shp
 injection z1 with z1 _
 subst z1
 obtain ⟨y1,rfl⟩:=B3u x1 e1
 have k1:=B0z n1 y1 h1.shp
 have u1:=Bxf n1 y1 _ h1
 simp only [Aok,Tryz.underlying5] at h2
 obtain ⟨y2,z2,k2⟩:=Fv Tryz.underlying5 h2.shp
 injection z2 with z2 _
 subst z2
 simp only [Aok,Tryz.underlying5] at h3
 obtain ⟨y3,z3,k3⟩:=Fv Tryz.underlying5 h3.shp
 injection z3 with z3 _
 subst z3
 obtain ⟨L,hL⟩:=Arn y0 y1 y2 y3 k0 k1 k2 k3 (show Hl y0+(C3 Sx y1+1)≤1048576 by omega)
 exact h4 L y0 y1 y2 y3 true hL
set_option maxRecDepth 100000 in
theorem lifted(os:Os)(started:os.Started)(H:Type)(enc:TypeId×Value→H)(F:Stop.Interp):
  ReturnsInHanded {} Tryz.checked os 4 .any ((Rows.OpenSpec.upto Rows.designBindsSpec).pre6 enc Tryz.prog Tryz.f4 Rows.designBindsUptoRow.domain false) (((Rows.OpenSpec.upto Rows.designBindsSpec).at F).post enc Tryz.prog Tryz.f4 false true false false):=by
 refine returnsInHanded_of_cond (C:= Tryz.checked) (s:=Rows.OpenSpec.upto Rows.designBindsSpec) (k:=Rows.uptoSmall) rfl own started (by kernel_rfl) Tryz.func4
  (OpenSpec.witness (enc:=enc) (C:= Tryz.checked) (s:=Rows.OpenSpec.upto Rows.designBindsSpec) (k:=Rows.uptoSmall) rfl false ⟨#[], #[.agg #[.string ⟨#[]⟩,.slice none 0 0,.slice none 0 0,.slice none 0 0],.slice none 0 0,.int .u8 0,.int .u8 0],[]⟩ 8 (by kernel_rfl) (by kernel_rfl) (by kernel_rfl)
   (x:=([.agg [.lit (.string []),.nil,.nil,.nil],.nil,.lit (.int .u8 0),.lit (.int .u8 0)],[],[])) (by kernel_rfl) rfl (by kernel_rfl)) ?_
 intro W base args ds gs before hval hW _ hk _
 refine Av0 (P:= Tryz.prog) (L:=rdL) (tb:=4) B4o B4n (by kernel_rfl) (by kernel_rfl) rfl (by kernel_rfl) Tryz.underlying4 (fun ds hd=> ?_) walk hval hW hk
 have h3:ds.length=4:=hd.trans (by kernel_rfl)
 rw [List.append_nil]
 match ds,h3 with
 | [d0,d1,d2,d3],_=>rfl
theorem over:Rows.designBindsUptoRow.holds Tryz.pinned (Rows.OpenSpec.upto Rows.designBindsSpec):=
 OpenClaim.holds_of_cond 4 Tryz.f4 rfl rfl rfl rfl rfl rfl rfl ⟨rfl,rfl,rfl,rfl,rfl⟩ rfl rfl rfl rfl rfl (by kernel_rfl) Tryz.func4 (by kernel_rfl)
  (of_decide_eq_true (by kernel_rfl)) (by unfold Func.isWrapper;first|(rw [if_pos (by decide+kernel)];kernel_rfl)|(rw [if_neg (by decide+kernel)];exact ⟨rfl,rfl⟩))
  (fun os started H enc _ F=>lifted os started H enc F)
theorem proved:Rows.DesignBindsUptoSaid:=
 over
end Go.Proofs.YtfencmicmnhglaaGreat.designBinds
