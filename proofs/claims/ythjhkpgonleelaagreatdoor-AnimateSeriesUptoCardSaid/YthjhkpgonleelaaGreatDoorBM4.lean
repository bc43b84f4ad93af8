/-  The statement AnimateSeries, for inputs of bulk at most 1048576: the printed function is the function of the program; the law of the printed function is proved in the texts before. -/
import Derived.Test.YthjhkpgonleelaaGreatDoorBLd
import Derived.Test.YthjhkpgonleelaaGreatDoorCards
import Derived.Test.YthjhkpgonleelaaGreatDoorTie
import Derived.Test.YthjhkpgonleelaaGreatDoorBUE
import Derived.Test.YthjhkpgonleelaaGreatDoorBR0
import Derived.Test.YthjhkpgonleelaaGreatDoorBFz
import Derived.Deep.DeepHandedRow
import Derived.SevenTiedAt
namespace Go.Proofs.YthjhkpgonleelaaGreatDoor.animateSeries
open Go Go.ChangeShapes Go.WideShapes Go.ChangeAt Go.RowKit Go.Proofs.YthjhkpgonleelaaGreatDoor.Ev
set_option maxRecDepth 100000
set_option linter.unusedVariables false
set_option linter.unusedSimpArgs false
set_option linter.unnecessarySimpa false
theorem own:ownKnob Tryz.prog.godebug=none:=by kernel_rfl
theorem walk(l:List PV)(b:Nat)(hb:b≤1048576)(h:Agv Tryz.prog Tryz.f4.params.toList l b):Xj Tryz.prog 4 l (.val (.bool true)):=by
 change Agv Tryz.prog [28] l b at h
 obtain ⟨p0,q0,a0,c0,rfl,v0,⟨n0,h0⟩,rfl⟩:=h
 simp only [Avz,Tryz.underlying28] at h0
 obtain ⟨l0,rfl,h0⟩:=h0
 obtain ⟨y0,rfl,k0,u0⟩:=RT.rd Bov h0
 obtain ⟨L,hL⟩:=Ag9 y0 k0 (show Xk y0≤1048576 by omega)
 exact h4 L y0 true hL
set_option maxRecDepth 100000 in
theorem Bdf(os:Os){H:Type}(enc:TypeId×Value→H):
  (Rows.OpenSpec.upto Rows.animateSeriesSpec).preRow enc Tryz.prog Tryz.f4 Rows.animateSeriesUptoRow.domain false Rows.animateSeriesUptoRow.laid ((World.doorLaid Tryz.prog 400 os).forCall (fun _ _=>0) ⟨#[], #[.agg #[.string ⟨#[]⟩,.slice none 0 0,.slice none 0 0,.slice none 0 0,.int .i64 0,.int .i64 0,.int .i64 0,.int .i64 0]],[]⟩).memory #[.agg #[.string ⟨#[]⟩,.slice none 0 0,.slice none 0 0,.slice none 0 0,.int .i64 0,.int .i64 0,.int .i64 0,.int .i64 0]]:=by
 have hw:(DataW.whole enc Tryz.prog ((World.doorLaid Tryz.prog 400 os).forCall (fun _ _=>0) ⟨#[], #[.agg #[.string ⟨#[]⟩,.slice none 0 0,.slice none 0 0,.slice none 0 0,.int .i64 0,.int .i64 0,.int .i64 0,.int .i64 0]],[]⟩).memory Tryz.f4.params.toList (Rows.OpenSpec.upto Rows.animateSeriesSpec).vars false #[.agg #[.string ⟨#[]⟩,.slice none 0 0,.slice none 0 0,.slice none 0 0,.int .i64 0,.int .i64 0,.int .i64 0,.int .i64 0]].toList 8).map (fun x=>(x.1,x.2.1))=
   some ([.agg [.agg [.lit (.string []),.nil,.nil],.nil,.lit (.int .i64 0),.lit (.int .i64 0),.lit (.int .i64 0),.lit (.int .i64 0)]],[]):=by kernel_rfl
 obtain ⟨⟨x1,x2,x3⟩,hx,hx1⟩:=Option.map_eq_some_iff.1 hw
 simp only [Prod.mk.injEq] at hx1
 obtain ⟨rfl,rfl⟩:=hx1
 exact OpenSpec.preRow_of_cond 8 hx (by kernel_rfl) (fun k hk=>by cases hk;rfl) (by kernel_rfl) (A5e os _)
theorem A8w(os:Os):Input.okWideB Tryz.prog ((World.doorLaid Tryz.prog 400 os).forCall (fun _ _=>0) ⟨#[], #[.agg #[.string ⟨#[]⟩,.slice none 0 0,.slice none 0 0,.slice none 0 0,.int .i64 0,.int .i64 0,.int .i64 0,.int .i64 0]],[]⟩) 4 ⟨#[], #[.agg #[.string ⟨#[]⟩,.slice none 0 0,.slice none 0 0,.slice none 0 0,.int .i64 0,.int .i64 0,.int .i64 0,.int .i64 0]],[]⟩=true:=by kernel_rfl
set_option maxRecDepth 100000 in
theorem lifted(os:Os)(started:os.Started)(H:Type)(enc:TypeId×Value→H)(F:Stop.Interp):
  ReturnsInHanded {} Tryz.checked os 4 .any ((Rows.OpenSpec.upto Rows.animateSeriesSpec).preRow enc Tryz.prog Tryz.f4 Rows.animateSeriesUptoRow.domain false Rows.animateSeriesUptoRow.laid) (((Rows.OpenSpec.upto Rows.animateSeriesSpec).at F).post enc Tryz.prog Tryz.f4 false true false false):=by
 refine returnsInHanded_of_row (C:= Tryz.checked) (s:=Rows.OpenSpec.upto Rows.animateSeriesSpec) own started (by kernel_rfl) Tryz.func4
  ⟨World.doorLaid Tryz.prog 400 os,fun _ _=>0,⟨#[], #[.agg #[.string ⟨#[]⟩,.slice none 0 0,.slice none 0 0,.slice none 0 0,.int .i64 0,.int .i64 0,.int .i64 0,.int .i64 0]],[]⟩,rfl,World.shaped_of_RefB (by kernel_rfl) (by kernel_rfl),(Input.okWide_of_okWideB (base:=0) (A8w os)).1,(Input.okWide_of_okWideB (A8w os)).2,Bdf os enc,by
   simp only [Assume.holds]
   exact ⟨by simp,by simp,(fun h=>by cases h),by simp,by simp⟩⟩ ?_
 intro W base args ds gs before hval hW _ hk _ hL _ _
 refine Any (P:= Tryz.prog) (L:=rdL) (tb:=4) Bom Bol (by kernel_rfl) (by kernel_rfl) rfl (by kernel_rfl) Tryz.underlying4 (fun ds hd=> ?_) walk hval (Awq hL) hW (hk _ rfl)
 have h3:ds.length=1:=hd.trans (by kernel_rfl)
 rw [List.append_nil]
 match ds,h3 with
 | [d0],_=>rfl
theorem ab{a b:Bool}(h:a=true)(k:b=true):(a && b)=true:=by rw [h,k];rfl
theorem k_a:(Rows.animateSeriesUptoRow.wf (OpenSpec.ofChange (Rows.OpenSpec.upto Rows.animateSeriesSpec).bare))=true:=by kernel_rfl
theorem k_b:(laidOutB Tryz.prog)=true:=by kernel_rfl
theorem k_c:(mapsRowed Tryz.prog)=true:=by kernel_rfl
theorem k_d:(Tryz.f4.params.all (Tryz.prog.readableRec ·))=true:=by kernel_rfl
theorem k_e:(namedTie Tryz.prog Rows.animateSeriesUptoRow.named (Rows.OpenSpec.upto Rows.animateSeriesSpec).bare.vars)=true:=by kernel_rfl
theorem k_P:((Tryz.prog.stops == []))=true:=by kernel_rfl
theorem k_Q:((Tryz.prog.stopKnobs == []))=true:=by kernel_rfl
theorem k_f:((Rows.animateSeriesUptoRow.inPlace == Tryz.prog.inPlace 4))=true:=by kernel_rfl
theorem k_g:((Rows.animateSeriesUptoRow.unfollowed == Tryz.prog.unfollowed 4))=true:=by kernel_rfl
theorem k_h:((Rows.animateSeriesUptoRow.recurses == Tryz.prog.recurses 4))=true:=by kernel_rfl
theorem k_i:((Rows.animateSeriesUptoRow.named == Tryz.prog.varsNamed 4))=true:=by kernel_rfl
theorem k_j:((Rows.animateSeriesUptoRow.maps == (Tryz.f4.params.toList++(Rows.OpenSpec.upto Rows.animateSeriesSpec).bare.plain.varTypes Tryz.prog).any (Tryz.prog.mapsRec ·)))=true:=by kernel_rfl
theorem k_k:((Rows.animateSeriesUptoRow.ifaces == (Tryz.f4.params.toList++(Rows.OpenSpec.upto Rows.animateSeriesSpec).bare.plain.varTypes Tryz.prog).any (Tryz.prog.ifacesRec ·)))=true:=by kernel_rfl
theorem k_l:((Rows.animateSeriesUptoRow.mapsOut == Tryz.prog.mapsAmong Tryz.f4.resultTypes.toList))=true:=by kernel_rfl
theorem k_m:((Rows.animateSeriesUptoRow.loops == (Tryz.f4.params.toList++(Rows.OpenSpec.upto Rows.animateSeriesSpec).bare.plain.varTypes Tryz.prog).any (Tryz.prog.loopsFrom ·)))=true:=by kernel_rfl
theorem k_n:((Rows.animateSeriesUptoRow.wideKeys == (Tryz.f4.params.toList++(Rows.OpenSpec.upto Rows.animateSeriesSpec).bare.plain.varTypes Tryz.prog++ Tryz.f4.resultTypes.toList).any (Tryz.prog.wideKeysFrom ·)))=true:=by kernel_rfl
theorem k_o:(Tryz.f4.resultTypes.all (fun t=> Tryz.prog.readableRec t && decide (t < Tryz.prog.types.size)))=true:=by kernel_rfl
theorem k_p:((Rows.animateSeriesUptoRow.ifacesOut == Tryz.f4.resultTypes.toList.any (Tryz.prog.ifacesRec ·)))=true:=by kernel_rfl
theorem k_q:((Rows.animateSeriesUptoRow.loopsOut == Tryz.f4.resultTypes.toList.any (Tryz.prog.loopsFrom ·)))=true:=by kernel_rfl
theorem k_r:((Rows.animateSeriesUptoRow.plainKeys == Tryz.prog.plainKeys))=true:=by kernel_rfl
theorem k_s:(Tryz.prog.stopsHeard)=true:=by kernel_rfl
theorem k_t:(Tryz.prog.mayEnter)=true:=by kernel_rfl
theorem k_u:((Rows.animateSeriesUptoRow.lifted == Tryz.prog.liftsFinal))=true:=by kernel_rfl
theorem k_v:((Tryz.prog.make == some Rows.animateSeriesUptoRow.make))=true:=by kernel_rfl
theorem k_w:((Rows.animateSeriesUptoRow.veiled == (Tryz.f4.params.toList++(Rows.OpenSpec.upto Rows.animateSeriesSpec).bare.plain.varTypes Tryz.prog++ Tryz.f4.resultTypes.toList).any (Tryz.prog.veiledRec ·)))=true:=by kernel_rfl
theorem k_x:(Rows.animateSeriesUptoRow.veiledFits Tryz.prog Tryz.f4.params.toList (Tryz.f4.params.toList++(Rows.OpenSpec.upto Rows.animateSeriesSpec).bare.plain.varTypes Tryz.prog++ Tryz.f4.resultTypes.toList))=true:=by kernel_rfl
theorem Bfc:joinedFacts Tryz.prog 4 Tryz.f4 (Rows.OpenSpec.upto Rows.animateSeriesSpec).bare Rows.animateSeriesUptoRow=true:=by
 unfold joinedFacts
 exact (ab (ab (ab (ab (ab (ab (ab (ab (ab (ab (ab (ab (ab (ab (ab (ab (ab (ab (ab (ab (ab (ab (ab (ab (ab (ab (ab (ab (ab (ab (ab k_a k_b) k_c) k_d) k_e) (by kernel_rfl)) k_P) (by kernel_rfl)) k_Q) k_f) k_g) k_h) k_i) k_j) k_k) k_l) k_m) k_n) (by kernel_rfl)) k_o) k_p) k_q) k_r) (by kernel_rfl)) k_s) k_t) k_u) k_v) (by kernel_rfl)) (by kernel_rfl)) k_w) k_x)
theorem over:Rows.animateSeriesUptoRow.holds Tryz.pinned (Rows.OpenSpec.upto Rows.animateSeriesSpec):=
 OpenClaim.holds_of_cond 4 Tryz.f4 rfl rfl rfl rfl rfl rfl rfl ⟨rfl,rfl,rfl,rfl,rfl⟩ rfl rfl rfl rfl rfl (by kernel_rfl) Tryz.func4 Bfc
  (of_decide_eq_true (by kernel_rfl)) (by unfold Func.isWrapper;first|(rw [if_pos (by decide+kernel)];kernel_rfl)|(rw [if_neg (by decide+kernel)];exact ⟨rfl,rfl⟩))
  (fun os started H enc _ F=>by rw [OpenClaim.pre_eq_preRow];exact lifted os started H enc F)
theorem proved:Rows.AnimateSeriesUptoCardSaid:=
 Claim7.holds_tied_plain_at .later [] [.data,.data,.data,.data] true (true, "b4d2bd00f7a522c2164d237efd4cee87fb723fec3dd27210b7aa6a0c123d2325") false
  over (fun _ h=>by cases h) (by kernel_rfl) (fun _ h=>by cases h) animateSeriesUpto_row_tie rfl ⟨rfl,rfl⟩ (by kernel_rfl) rfl
  (fun f fn hf hfn=>by
   obtain rfl:f=4:=Option.some.inj ((show Tryz.prog.funcNamed Rows.animateSeriesUptoRow.func=some 4 by kernel_rfl).symm.trans hf) |>.symm
   obtain rfl:fn= Tryz.f4:=(Option.some.inj (Tryz.func4.symm.trans hfn)).symm
   refine ⟨by kernel_rfl,fun j t ht=> ?_⟩
   have hall:(Tryz.f4.params.toList.all fun u=> !Tryz.prog.wantsStandIn u)=true:=by kernel_rfl
   have:=List.all_eq_true.1 hall t (by simpa using Array.mem_of_getElem? ht)
   exact (show Tryz.prog.wantsStandIn t=false by simpa using this))
  (by kernel_rfl)
end Go.Proofs.YthjhkpgonleelaaGreatDoor.animateSeries
