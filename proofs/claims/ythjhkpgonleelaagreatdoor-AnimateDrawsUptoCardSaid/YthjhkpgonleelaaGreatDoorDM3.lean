/-  The statement AnimateDraws, for inputs of bulk at most 1048576: the printed function is the function of the program; the law of the printed function is proved in the texts before. -/
import Derived.Test.YthjhkpgonleelaaGreatDoorDLd
import Derived.Test.YthjhkpgonleelaaGreatDoorCards
import Derived.Test.YthjhkpgonleelaaGreatDoorTie
import Derived.Test.YthjhkpgonleelaaGreatDoorDUA
import Derived.Test.YthjhkpgonleelaaGreatDoorDRA
import Derived.Test.YthjhkpgonleelaaGreatDoorDFz
import Derived.Deep.DeepHandedRow
import Derived.SevenTiedAt
set_option maxRecDepth 100000
set_option linter.unusedVariables false
set_option linter.unusedSimpArgs false
set_option linter.unnecessarySimpa false
namespace Go.Proofs.YthjhkpgonleelaaGreatDoor.animateDraws
open Go Go.ChangeShapes Go.WideShapes Go.ChangeAt Go.RowKit Go.Proofs.YthjhkpgonleelaaGreatDoor.Ev
theorem own:ownKnob Tryz.prog.godebug=none:=by kernel_rfl
theorem walk(l:List PV)(b:Nat)(hb:b<=1048576)(h:Awk Tryz.prog Tryz.f3.params.toList l b):X2 Tryz.prog 3 l (.val (.bool true)):=by
 change Awk Tryz.prog [28] l b at h
 obtain⟨p0,q0,a0,c0,rfl,v0,⟨n0,h0⟩,rfl⟩:=h;simp only[Bg5,Tryz.underlying28]at h0;obtain⟨l0,rfl,h0⟩:=h0;obtain⟨y0,rfl,k0,u0⟩:=RT.rd Cdq h0;obtain⟨L,hL⟩:=Ay8 y0 k0 (show Afv y0<=1048576 by omega);exact h3 L y0 true hL
set_option maxRecDepth 100000 in
theorem Byq(os:Os){H:Type}(enc:TypeId×Value->H):
  (Rows.OpenSpec.upto Rows.animateDrawsSpec).preRow enc Tryz.prog Tryz.f3 Rows.animateDrawsUptoRow.domain false Rows.animateDrawsUptoRow.laid ((World.doorLaid Tryz.prog 400 os).forCall (λ_ _=>0) ⟨#[], #[.agg #[.string ⟨#[]⟩,.slice none 0 0,.slice none 0 0,.slice none 0 0,.int .i64 0,.int .i64 0,.int .i64 0,.int .i64 0]],[]⟩).memory #[.agg #[.string ⟨#[]⟩,.slice none 0 0,.slice none 0 0,.slice none 0 0,.int .i64 0,.int .i64 0,.int .i64 0,.int .i64 0]]:=by
 have hw:(DataW.whole enc Tryz.prog ((World.doorLaid Tryz.prog 400 os).forCall (λ_ _=>0) ⟨#[], #[.agg #[.string ⟨#[]⟩,.slice none 0 0,.slice none 0 0,.slice none 0 0,.int .i64 0,.int .i64 0,.int .i64 0,.int .i64 0]],[]⟩).memory Tryz.f3.params.toList (Rows.OpenSpec.upto Rows.animateDrawsSpec).vars false #[.agg #[.string ⟨#[]⟩,.slice none 0 0,.slice none 0 0,.slice none 0 0,.int .i64 0,.int .i64 0,.int .i64 0,.int .i64 0]].toList 8).map (λx=>(x.1,x.2.1))=
   some ([.agg [.agg [.lit (.string []),.nil,.nil],.nil,.lit (.int .i64 0),.lit (.int .i64 0),.lit (.int .i64 0),.lit (.int .i64 0)]],[]):=by kernel_rfl
 obtain⟨⟨x1,x2,x3⟩,hx,hx1⟩:=Option.map_eq_some_iff.1 hw;simp only[Prod.mk.injEq]at hx1;obtain⟨rfl,rfl⟩:=hx1;exact OpenSpec.preRow_of_cond 8 hx (by kernel_rfl) (λk hk=>by cases hk;rfl) (by kernel_rfl) (Bn6 os _)
theorem Bqv(os:Os):Input.okWideB Tryz.prog ((World.doorLaid Tryz.prog 400 os).forCall (λ_ _=>0) ⟨#[], #[.agg #[.string ⟨#[]⟩,.slice none 0 0,.slice none 0 0,.slice none 0 0,.int .i64 0,.int .i64 0,.int .i64 0,.int .i64 0]],[]⟩) 3 ⟨#[], #[.agg #[.string ⟨#[]⟩,.slice none 0 0,.slice none 0 0,.slice none 0 0,.int .i64 0,.int .i64 0,.int .i64 0,.int .i64 0]],[]⟩=true:=by kernel_rfl
set_option maxRecDepth 100000 in
theorem lifted(os:Os)(started:os.Started)(H:Type)(enc:TypeId×Value->H)(F:Stop.Interp):
  ReturnsInHanded {} Tryz.checked os 3 .any ((Rows.OpenSpec.upto Rows.animateDrawsSpec).preRow enc Tryz.prog Tryz.f3 Rows.animateDrawsUptoRow.domain false Rows.animateDrawsUptoRow.laid) (((Rows.OpenSpec.upto Rows.animateDrawsSpec).at F).post enc Tryz.prog Tryz.f3 false true false false):=by
 refine returnsInHanded_of_row (C:= Tryz.checked) (s:=Rows.OpenSpec.upto Rows.animateDrawsSpec) own started (by kernel_rfl) Tryz.func3
  ⟨World.doorLaid Tryz.prog 400 os,λ_ _=>0,⟨#[], #[.agg #[.string ⟨#[]⟩,.slice none 0 0,.slice none 0 0,.slice none 0 0,.int .i64 0,.int .i64 0,.int .i64 0,.int .i64 0]],[]⟩,rfl,World.shaped_of_RefB (by kernel_rfl) (by kernel_rfl),(Input.okWide_of_okWideB (base:=0) (Bqv os)).1,(Input.okWide_of_okWideB (Bqv os)).2,Byq os enc,by
   simp only[Assume.holds];exact⟨by simp,by simp,(λh=>by cases h),by simp,by simp⟩⟩ ?_
 intro W base args ds gs before hval hW _ hk _ hL _ _;refine A7i (P:= Tryz.prog) (L:=rdL) (tb:=4) Cdi Cdh (by kernel_rfl) (by kernel_rfl) rfl (by kernel_rfl) Tryz.underlying4 (λds hd=>?_) walk hval (Bhs hL) hW (hk _ rfl);have h3:ds.length=1:=hd.trans (by kernel_rfl);rw[List.append_nil]
 match ds,h3 with
 | [d0],_=>rfl
theorem ab{a b:Bool}(h:a=true)(k:b=true):(a && b)=true:=by rw[h,k];rfl
theorem k_a:(Rows.animateDrawsUptoRow.wf (OpenSpec.ofChange (Rows.OpenSpec.upto Rows.animateDrawsSpec).bare))=true:=by kernel_rfl
theorem k_b:(laidOutB Tryz.prog)=true:=by kernel_rfl
theorem k_c:(mapsRowed Tryz.prog)=true:=by kernel_rfl
theorem k_d:(Tryz.f3.params.all (Tryz.prog.readableRec ·))=true:=by kernel_rfl
theorem k_e:(namedTie Tryz.prog Rows.animateDrawsUptoRow.named (Rows.OpenSpec.upto Rows.animateDrawsSpec).bare.vars)=true:=by kernel_rfl
theorem k_P:((Tryz.prog.stops == []))=true:=by kernel_rfl
theorem k_Q:((Tryz.prog.stopKnobs == []))=true:=by kernel_rfl
theorem k_f:((Rows.animateDrawsUptoRow.inPlace == Tryz.prog.inPlace 3))=true:=by kernel_rfl
theorem k_g:((Rows.animateDrawsUptoRow.unfollowed == Tryz.prog.unfollowed 3))=true:=by kernel_rfl
theorem k_h:((Rows.animateDrawsUptoRow.recurses == Tryz.prog.recurses 3))=true:=by kernel_rfl
theorem k_i:((Rows.animateDrawsUptoRow.named == Tryz.prog.varsNamed 3))=true:=by kernel_rfl
theorem k_j:((Rows.animateDrawsUptoRow.maps == (Tryz.f3.params.toList++(Rows.OpenSpec.upto Rows.animateDrawsSpec).bare.plain.varTypes Tryz.prog).any (Tryz.prog.mapsRec ·)))=true:=by kernel_rfl
theorem k_k:((Rows.animateDrawsUptoRow.ifaces == (Tryz.f3.params.toList++(Rows.OpenSpec.upto Rows.animateDrawsSpec).bare.plain.varTypes Tryz.prog).any (Tryz.prog.ifacesRec ·)))=true:=by kernel_rfl
theorem k_l:((Rows.animateDrawsUptoRow.mapsOut == Tryz.prog.mapsAmong Tryz.f3.resultTypes.toList))=true:=by kernel_rfl
theorem k_m:((Rows.animateDrawsUptoRow.loops == (Tryz.f3.params.toList++(Rows.OpenSpec.upto Rows.animateDrawsSpec).bare.plain.varTypes Tryz.prog).any (Tryz.prog.loopsFrom ·)))=true:=by kernel_rfl
theorem k_n:((Rows.animateDrawsUptoRow.wideKeys == (Tryz.f3.params.toList++(Rows.OpenSpec.upto Rows.animateDrawsSpec).bare.plain.varTypes Tryz.prog++ Tryz.f3.resultTypes.toList).any (Tryz.prog.wideKeysFrom ·)))=true:=by kernel_rfl
theorem k_o:(Tryz.f3.resultTypes.all (λt=> Tryz.prog.readableRec t && decide (t < Tryz.prog.types.size)))=true:=by kernel_rfl
theorem k_p:((Rows.animateDrawsUptoRow.ifacesOut == Tryz.f3.resultTypes.toList.any (Tryz.prog.ifacesRec ·)))=true:=by kernel_rfl
theorem k_q:((Rows.animateDrawsUptoRow.loopsOut == Tryz.f3.resultTypes.toList.any (Tryz.prog.loopsFrom ·)))=true:=by kernel_rfl
theorem k_r:((Rows.animateDrawsUptoRow.plainKeys == Tryz.prog.plainKeys))=true:=by kernel_rfl
theorem k_s:(Tryz.prog.stopsHeard)=true:=by kernel_rfl
theorem k_t:(Tryz.prog.mayEnter)=true:=by kernel_rfl
theorem k_u:((Rows.animateDrawsUptoRow.lifted == Tryz.prog.liftsFinal))=true:=by kernel_rfl
theorem k_v:((Tryz.prog.make == some Rows.animateDrawsUptoRow.make))=true:=by kernel_rfl
theorem k_w:((Rows.animateDrawsUptoRow.veiled == (Tryz.f3.params.toList++(Rows.OpenSpec.upto Rows.animateDrawsSpec).bare.plain.varTypes Tryz.prog++ Tryz.f3.resultTypes.toList).any (Tryz.prog.veiledRec ·)))=true:=by kernel_rfl
theorem k_x:(Rows.animateDrawsUptoRow.veiledFits Tryz.prog Tryz.f3.params.toList (Tryz.f3.params.toList++(Rows.OpenSpec.upto Rows.animateDrawsSpec).bare.plain.varTypes Tryz.prog++ Tryz.f3.resultTypes.toList))=true:=by kernel_rfl
theorem B1k:joinedFacts Tryz.prog 3 Tryz.f3 (Rows.OpenSpec.upto Rows.animateDrawsSpec).bare Rows.animateDrawsUptoRow=true:=by
 unfold joinedFacts;exact(ab (ab (ab (ab (ab (ab (ab (ab (ab (ab (ab (ab (ab (ab (ab (ab (ab (ab (ab (ab (ab (ab (ab (ab (ab (ab (ab (ab (ab (ab (ab k_a k_b) k_c) k_d) k_e) (by kernel_rfl)) k_P) (by kernel_rfl)) k_Q) k_f) k_g) k_h) k_i) k_j) k_k) k_l) k_m) k_n) (by kernel_rfl)) k_o) k_p) k_q) k_r) (by kernel_rfl)) k_s) k_t) k_u) k_v) (by kernel_rfl)) (by kernel_rfl)) k_w) k_x)
theorem over:Rows.animateDrawsUptoRow.holds Tryz.pinned (Rows.OpenSpec.upto Rows.animateDrawsSpec):=
 OpenClaim.holds_of_cond 3 Tryz.f3 rfl rfl rfl rfl rfl rfl rfl ⟨rfl,rfl,rfl,rfl,rfl⟩ rfl rfl rfl rfl rfl (by kernel_rfl) Tryz.func3 B1k
  (of_decide_eq_true (by kernel_rfl)) (by unfold Func.isWrapper;first|(rw[if_pos (by decide+kernel)];kernel_rfl)|(rw[if_neg (by decide+kernel)];exact⟨rfl,rfl⟩))
  (λos started H enc _ F=>by rw[OpenClaim.pre_eq_preRow];exact lifted os started H enc F)
theorem proved:Rows.AnimateDrawsUptoCardSaid:=
 Claim7.holds_tied_plain_at .later [] [.data,.data,.data,.data] true (true, "b4d2bd00f7a522c2164d237efd4cee87fb723fec3dd27210b7aa6a0c123d2325") false
  over (λ_ h=>by cases h) (by kernel_rfl) (λ_ h=>by cases h) animateDrawsUpto_row_tie rfl ⟨rfl,rfl⟩ (by kernel_rfl) rfl
  (λf fn hf hfn=>by
   obtain rfl:f=3:=Option.some.inj ((show Tryz.prog.funcNamed Rows.animateDrawsUptoRow.func=some 3 by kernel_rfl).symm.trans hf) |>.symm;obtain rfl:fn= Tryz.f3:=(Option.some.inj (Tryz.func3.symm.trans hfn)).symm;refine⟨by kernel_rfl,λj t ht=>?_⟩;have hall:(Tryz.f3.params.toList.all λu=> !Tryz.prog.wantsStandIn u)=true:=by kernel_rfl
   have:=List.all_eq_true.1 hall t (by simpa using Array.mem_of_getElem? ht);exact(show Tryz.prog.wantsStandIn t=false by simpa using this))
  (by kernel_rfl)
end Go.Proofs.YthjhkpgonleelaaGreatDoor.animateDraws
