/-  The statement AnimateLocal, for inputs of bulk at most 1048576: the printed function is the function of the program; the law of the printed function is proved in the texts before. -/
import Derived.Test.YthjhkpgonleelaaGreatDoorLLd
import Derived.Test.YthjhkpgonleelaaGreatDoorCards
import Derived.Test.YthjhkpgonleelaaGreatDoorTie
import Derived.Test.YthjhkpgonleelaaGreatDoorLUA
import Derived.Test.YthjhkpgonleelaaGreatDoorLRA
import Derived.Test.YthjhkpgonleelaaGreatDoorLFz
import Derived.Deep.DeepHandedRow
import Derived.SevenTiedAt
set_option maxRecDepth 100000
set_option linter.unusedVariables false
set_option linter.unusedSimpArgs false
set_option linter.unnecessarySimpa false
namespace Go.Proofs.YthjhkpgonleelaaGreatDoor.animateLocal
open Go Go.ChangeShapes Go.WideShapes Go.ChangeAt Go.RowKit Go.Proofs.YthjhkpgonleelaaGreatDoor.Ev
theorem own:ownKnob Tryz.prog.godebug=none:=by kernel_rfl
theorem walk(l:List PV)(b:Nat)(hb:b<=1048576)(h:Avd Tryz.prog Tryz.f6.params.toList l b):W3 Tryz.prog 6 l (.val (.bool true)):=by
 change Avd Tryz.prog [28,46,5] l b at h
 obtain⟨p0,q0,a0,c0,rfl,v0,⟨n0,h0⟩,p1,q1,a1,c1,rfl,v1,⟨n1,h1⟩,p2,q2,a2,c2,rfl,v2,⟨n2,h2⟩,rfl⟩:=h;simp only[A3d,Tryz.underlying28]at h0;obtain⟨l0,rfl,h0⟩:=h0;obtain⟨y0,rfl,k0,u0⟩:=RT.rd Cbo h0;simp only[A3d,Tryz.underlying46]at h1;obtain⟨l1,rfl,h1⟩:=h1;obtain⟨y1,rfl,k1,u1⟩:=RT.rd B2h h1;simp only[A3d,Tryz.underlying5]at h2;obtain⟨y2,z2,k2,u2⟩:=RT.rd rt5 h2;injection z2 with z2 _
 subst z2;obtain⟨L,hL⟩:=Axx y0 y1 y2 k0 k1 k2 (show Aek y0+Ys y1<=1048576 by omega);exact h6 L y0 y1 y2 true hL
set_option maxRecDepth 100000 in
theorem Bwt(os:Os){H:Type}(enc:TypeId×Value->H):
  (Rows.OpenSpec.upto Rows.animateLocalSpec).preRow enc Tryz.prog Tryz.f6 Rows.animateLocalUptoRow.domain false Rows.animateLocalUptoRow.laid ((World.doorLaid Tryz.prog 400 os).forCall (λ_ _=>0) ⟨#[], #[.agg #[.string ⟨#[]⟩,.slice none 0 0,.slice none 0 0,.slice none 0 0,.int .i64 0,.int .i64 0,.int .i64 0,.int .i64 0],.agg #[.int .i64 0,.int .i64 0,.int .i64 0,.int .i64 0,.int .i64 0,.int .i64 0],.int .u8 0],[]⟩).memory #[.agg #[.string ⟨#[]⟩,.slice none 0 0,.slice none 0 0,.slice none 0 0,.int .i64 0,.int .i64 0,.int .i64 0,.int .i64 0],.agg #[.int .i64 0,.int .i64 0,.int .i64 0,.int .i64 0,.int .i64 0,.int .i64 0],.int .u8 0]:=by
 have hw:(DataW.whole enc Tryz.prog ((World.doorLaid Tryz.prog 400 os).forCall (λ_ _=>0) ⟨#[], #[.agg #[.string ⟨#[]⟩,.slice none 0 0,.slice none 0 0,.slice none 0 0,.int .i64 0,.int .i64 0,.int .i64 0,.int .i64 0],.agg #[.int .i64 0,.int .i64 0,.int .i64 0,.int .i64 0,.int .i64 0,.int .i64 0],.int .u8 0],[]⟩).memory Tryz.f6.params.toList (Rows.OpenSpec.upto Rows.animateLocalSpec).vars false #[.agg #[.string ⟨#[]⟩,.slice none 0 0,.slice none 0 0,.slice none 0 0,.int .i64 0,.int .i64 0,.int .i64 0,.int .i64 0],.agg #[.int .i64 0,.int .i64 0,.int .i64 0,.int .i64 0,.int .i64 0,.int .i64 0],.int .u8 0].toList 8).map (λx=>(x.1,x.2.1))=
   some ([.agg [.agg [.lit (.string []),.nil,.nil],.nil,.lit (.int .i64 0),.lit (.int .i64 0),.lit (.int .i64 0),.lit (.int .i64 0)],.agg [.lit (.int .i64 0),.lit (.int .i64 0),.lit (.int .i64 0),.lit (.int .i64 0),.lit (.int .i64 0),.lit (.int .i64 0)],.lit (.int .u8 0)],[]):=by kernel_rfl
 obtain⟨⟨x1,x2,x3⟩,hx,hx1⟩:=Option.map_eq_some_iff.1 hw;simp only[Prod.mk.injEq]at hx1;obtain⟨rfl,rfl⟩:=hx1;exact OpenSpec.preRow_of_cond 8 hx (by kernel_rfl) (λk hk=>by cases hk;rfl) (by kernel_rfl) (Bmb os _)
theorem Bo2(os:Os):Input.okWideB Tryz.prog ((World.doorLaid Tryz.prog 400 os).forCall (λ_ _=>0) ⟨#[], #[.agg #[.string ⟨#[]⟩,.slice none 0 0,.slice none 0 0,.slice none 0 0,.int .i64 0,.int .i64 0,.int .i64 0,.int .i64 0],.agg #[.int .i64 0,.int .i64 0,.int .i64 0,.int .i64 0,.int .i64 0,.int .i64 0],.int .u8 0],[]⟩) 6 ⟨#[], #[.agg #[.string ⟨#[]⟩,.slice none 0 0,.slice none 0 0,.slice none 0 0,.int .i64 0,.int .i64 0,.int .i64 0,.int .i64 0],.agg #[.int .i64 0,.int .i64 0,.int .i64 0,.int .i64 0,.int .i64 0,.int .i64 0],.int .u8 0],[]⟩=true:=by kernel_rfl
set_option maxRecDepth 100000 in
theorem lifted(os:Os)(started:os.Started)(H:Type)(enc:TypeId×Value->H)(F:Stop.Interp):
  ReturnsInHanded {} Tryz.checked os 6 .any ((Rows.OpenSpec.upto Rows.animateLocalSpec).preRow enc Tryz.prog Tryz.f6 Rows.animateLocalUptoRow.domain false Rows.animateLocalUptoRow.laid) (((Rows.OpenSpec.upto Rows.animateLocalSpec).at F).post enc Tryz.prog Tryz.f6 false true false false):=by
 refine returnsInHanded_of_row (C:= Tryz.checked) (s:=Rows.OpenSpec.upto Rows.animateLocalSpec) own started (by kernel_rfl) Tryz.func6
  ⟨World.doorLaid Tryz.prog 400 os,λ_ _=>0,⟨#[], #[.agg #[.string ⟨#[]⟩,.slice none 0 0,.slice none 0 0,.slice none 0 0,.int .i64 0,.int .i64 0,.int .i64 0,.int .i64 0],.agg #[.int .i64 0,.int .i64 0,.int .i64 0,.int .i64 0,.int .i64 0,.int .i64 0],.int .u8 0],[]⟩,rfl,World.shaped_of_RefB (by kernel_rfl) (by kernel_rfl),(Input.okWide_of_okWideB (base:=0) (Bo2 os)).1,(Input.okWide_of_okWideB (Bo2 os)).2,Bwt os enc,by
   simp only[Assume.holds];exact⟨by simp,by simp,(λh=>by cases h),by simp,by simp⟩⟩ ?_
 intro W base args ds gs before hval hW _ hk _ hL _ _;refine A58 (P:= Tryz.prog) (L:=rdL) (tb:=4) Cbg Cbf (by kernel_rfl) (by kernel_rfl) rfl (by kernel_rfl) Tryz.underlying4 (λds hd=>?_) walk hval (Bf7 hL) hW (hk _ rfl);have h3:ds.length=3:=hd.trans (by kernel_rfl);rw[List.append_nil]
 match ds,h3 with
 | [d0,d1,d2],_=>rfl
theorem ab{a b:Bool}(h:a=true)(k:b=true):(a && b)=true:=by rw[h,k];rfl
theorem k_a:(Rows.animateLocalUptoRow.wf (OpenSpec.ofChange (Rows.OpenSpec.upto Rows.animateLocalSpec).bare))=true:=by kernel_rfl
theorem k_b:(laidOutB Tryz.prog)=true:=by kernel_rfl
theorem k_c:(mapsRowed Tryz.prog)=true:=by kernel_rfl
theorem k_d:(Tryz.f6.params.all (Tryz.prog.readableRec ·))=true:=by kernel_rfl
theorem k_e:(namedTie Tryz.prog Rows.animateLocalUptoRow.named (Rows.OpenSpec.upto Rows.animateLocalSpec).bare.vars)=true:=by kernel_rfl
theorem k_P:((Tryz.prog.stops == []))=true:=by kernel_rfl
theorem k_Q:((Tryz.prog.stopKnobs == []))=true:=by kernel_rfl
theorem k_f:((Rows.animateLocalUptoRow.inPlace == Tryz.prog.inPlace 6))=true:=by kernel_rfl
theorem k_g:((Rows.animateLocalUptoRow.unfollowed == Tryz.prog.unfollowed 6))=true:=by kernel_rfl
theorem k_h:((Rows.animateLocalUptoRow.recurses == Tryz.prog.recurses 6))=true:=by kernel_rfl
theorem k_i:((Rows.animateLocalUptoRow.named == Tryz.prog.varsNamed 6))=true:=by kernel_rfl
theorem k_j:((Rows.animateLocalUptoRow.maps == (Tryz.f6.params.toList++(Rows.OpenSpec.upto Rows.animateLocalSpec).bare.plain.varTypes Tryz.prog).any (Tryz.prog.mapsRec ·)))=true:=by kernel_rfl
theorem k_k:((Rows.animateLocalUptoRow.ifaces == (Tryz.f6.params.toList++(Rows.OpenSpec.upto Rows.animateLocalSpec).bare.plain.varTypes Tryz.prog).any (Tryz.prog.ifacesRec ·)))=true:=by kernel_rfl
theorem k_l:((Rows.animateLocalUptoRow.mapsOut == Tryz.prog.mapsAmong Tryz.f6.resultTypes.toList))=true:=by kernel_rfl
theorem k_m:((Rows.animateLocalUptoRow.loops == (Tryz.f6.params.toList++(Rows.OpenSpec.upto Rows.animateLocalSpec).bare.plain.varTypes Tryz.prog).any (Tryz.prog.loopsFrom ·)))=true:=by kernel_rfl
theorem k_n:((Rows.animateLocalUptoRow.wideKeys == (Tryz.f6.params.toList++(Rows.OpenSpec.upto Rows.animateLocalSpec).bare.plain.varTypes Tryz.prog++ Tryz.f6.resultTypes.toList).any (Tryz.prog.wideKeysFrom ·)))=true:=by kernel_rfl
theorem k_o:(Tryz.f6.resultTypes.all (λt=> Tryz.prog.readableRec t && decide (t < Tryz.prog.types.size)))=true:=by kernel_rfl
theorem k_p:((Rows.animateLocalUptoRow.ifacesOut == Tryz.f6.resultTypes.toList.any (Tryz.prog.ifacesRec ·)))=true:=by kernel_rfl
theorem k_q:((Rows.animateLocalUptoRow.loopsOut == Tryz.f6.resultTypes.toList.any (Tryz.prog.loopsFrom ·)))=true:=by kernel_rfl
theorem k_r:((Rows.animateLocalUptoRow.plainKeys == Tryz.prog.plainKeys))=true:=by kernel_rfl
theorem k_s:(Tryz.prog.stopsHeard)=true:=by kernel_rfl
theorem k_t:(Tryz.prog.mayEnter)=true:=by kernel_rfl
theorem k_u:((Rows.animateLocalUptoRow.lifted == Tryz.prog.liftsFinal))=true:=by kernel_rfl
theorem k_v:((Tryz.prog.make == some Rows.animateLocalUptoRow.make))=true:=by kernel_rfl
theorem k_w:((Rows.animateLocalUptoRow.veiled == (Tryz.f6.params.toList++(Rows.OpenSpec.upto Rows.animateLocalSpec).bare.plain.varTypes Tryz.prog++ Tryz.f6.resultTypes.toList).any (Tryz.prog.veiledRec ·)))=true:=by kernel_rfl
theorem k_x:(Rows.animateLocalUptoRow.veiledFits Tryz.prog Tryz.f6.params.toList (Tryz.f6.params.toList++(Rows.OpenSpec.upto Rows.animateLocalSpec).bare.plain.varTypes Tryz.prog++ Tryz.f6.resultTypes.toList))=true:=by kernel_rfl
theorem Bzm:joinedFacts Tryz.prog 6 Tryz.f6 (Rows.OpenSpec.upto Rows.animateLocalSpec).bare Rows.animateLocalUptoRow=true:=by
 unfold joinedFacts;exact(ab (ab (ab (ab (ab (ab (ab (ab (ab (ab (ab (ab (ab (ab (ab (ab (ab (ab (ab (ab (ab (ab (ab (ab (ab (ab (ab (ab (ab (ab (ab k_a k_b) k_c) k_d) k_e) (by kernel_rfl)) k_P) (by kernel_rfl)) k_Q) k_f) k_g) k_h) k_i) k_j) k_k) k_l) k_m) k_n) (by kernel_rfl)) k_o) k_p) k_q) k_r) (by kernel_rfl)) k_s) k_t) k_u) k_v) (by kernel_rfl)) (by kernel_rfl)) k_w) k_x)
theorem over:Rows.animateLocalUptoRow.holds Tryz.pinned (Rows.OpenSpec.upto Rows.animateLocalSpec):=
 OpenClaim.holds_of_cond 6 Tryz.f6 rfl rfl rfl rfl rfl rfl rfl ⟨rfl,rfl,rfl,rfl,rfl⟩ rfl rfl rfl rfl rfl (by kernel_rfl) Tryz.func6 Bzm
  (of_decide_eq_true (by kernel_rfl)) (by unfold Func.isWrapper;first|(rw[if_pos (by decide+kernel)];kernel_rfl)|(rw[if_neg (by decide+kernel)];exact⟨rfl,rfl⟩))
  (λos started H enc _ F=>by rw[OpenClaim.pre_eq_preRow];exact lifted os started H enc F)
theorem proved:Rows.AnimateLocalUptoCardSaid:=
 Claim7.holds_tied_plain_at .later [] [.data,.data,.data,.data] true (true, "b4d2bd00f7a522c2164d237efd4cee87fb723fec3dd27210b7aa6a0c123d2325") false
  over (λ_ h=>by cases h) (by kernel_rfl) (λ_ h=>by cases h) animateLocalUpto_row_tie rfl ⟨rfl,rfl⟩ (by kernel_rfl) rfl
  (λf fn hf hfn=>by
   obtain rfl:f=6:=Option.some.inj ((show Tryz.prog.funcNamed Rows.animateLocalUptoRow.func=some 6 by kernel_rfl).symm.trans hf) |>.symm;obtain rfl:fn= Tryz.f6:=(Option.some.inj (Tryz.func6.symm.trans hfn)).symm;refine⟨by kernel_rfl,λj t ht=>?_⟩;have hall:(Tryz.f6.params.toList.all λu=> !Tryz.prog.wantsStandIn u)=true:=by kernel_rfl
   have:=List.all_eq_true.1 hall t (by simpa using Array.mem_of_getElem? ht);exact(show Tryz.prog.wantsStandIn t=false by simpa using this))
  (by kernel_rfl)
end Go.Proofs.YthjhkpgonleelaaGreatDoor.animateLocal
