/-  The statement AnimateTexts, for inputs of bulk at most 1048576: the printed function is the function of the program; the law of the printed function is proved in the texts before. -/
import Derived.Test.YthjhkpgonleelaaGreatDoorALd
import Derived.Test.YthjhkpgonleelaaGreatDoorCards
import Derived.Test.YthjhkpgonleelaaGreatDoorTie
import Derived.Test.YthjhkpgonleelaaGreatDoorATA
import Derived.Test.YthjhkpgonleelaaGreatDoorAR0
import Derived.Test.YthjhkpgonleelaaGreatDoorAFz
import Derived.Deep.DeepHandedRow
import Derived.SevenTiedAt
namespace Go.Proofs.YthjhkpgonleelaaGreatDoor.animateTexts
open Go Go.ChangeShapes Go.WideShapes Go.ChangeAt Go.RowKit Go.Proofs.YthjhkpgonleelaaGreatDoor.Ev
set_option maxRecDepth 100000
set_option linter.unusedVariables false
set_option linter.unusedSimpArgs false
set_option linter.unnecessarySimpa false
theorem own:ownKnob Tryz.prog.godebug=none:=by kernel_rfl
theorem walk(l:List PV)(b:Nat)(hb:b≤1048576)(h:Ai9 Tryz.prog Tryz.f5.params.toList l b):Kx Tryz.prog 5 l (.val (.bool true)):=by
 change Ai9 Tryz.prog [32,32] l b at h
 obtain ⟨p0,q0,a0,c0,rfl,v0,⟨n0,h0⟩,p1,q1,a1,c1,rfl,v1,⟨n1,h1⟩,rfl⟩:=h
 simp only [Auf,Tryz.underlying32] at h0
 obtain ⟨l0,rfl,h0⟩:=h0
 obtain ⟨y0,rfl,k0,u0⟩:=RT.rd Brp h0
 simp only [Auf,Tryz.underlying32] at h1
 obtain ⟨l1,rfl,h1⟩:=h1
 obtain ⟨y1,rfl,k1,u1⟩:=RT.rd Brp h1
 obtain ⟨L,hL⟩:=Ak5 y0 y1 k0 k1
 exact h5 L y0 y1 true hL
set_option maxRecDepth 100000 in
theorem Bkf(os:Os){H:Type}(enc:TypeId×Value→H):
  (Rows.OpenSpec.upto Rows.animateTextsSpec).preRow enc Tryz.prog Tryz.f5 Rows.animateTextsUptoRow.domain false Rows.animateTextsUptoRow.laid ((World.doorLaid Tryz.prog 400 os).forCall (fun _ _=>0) ⟨#[], #[.agg #[.int .i64 0,.int .i64 0,.slice none 0 0,.slice none 0 0,.slice none 0 0,.slice none 0 0],.agg #[.int .i64 0,.int .i64 0,.slice none 0 0,.slice none 0 0,.slice none 0 0,.slice none 0 0]],[]⟩).memory #[.agg #[.int .i64 0,.int .i64 0,.slice none 0 0,.slice none 0 0,.slice none 0 0,.slice none 0 0],.agg #[.int .i64 0,.int .i64 0,.slice none 0 0,.slice none 0 0,.slice none 0 0,.slice none 0 0]]:=by
 have hw:(DataW.whole enc Tryz.prog ((World.doorLaid Tryz.prog 400 os).forCall (fun _ _=>0) ⟨#[], #[.agg #[.int .i64 0,.int .i64 0,.slice none 0 0,.slice none 0 0,.slice none 0 0,.slice none 0 0],.agg #[.int .i64 0,.int .i64 0,.slice none 0 0,.slice none 0 0,.slice none 0 0,.slice none 0 0]],[]⟩).memory Tryz.f5.params.toList (Rows.OpenSpec.upto Rows.animateTextsSpec).vars false #[.agg #[.int .i64 0,.int .i64 0,.slice none 0 0,.slice none 0 0,.slice none 0 0,.slice none 0 0],.agg #[.int .i64 0,.int .i64 0,.slice none 0 0,.slice none 0 0,.slice none 0 0,.slice none 0 0]].toList 8).map (fun x=>(x.1,x.2.1))=
   some ([.agg [.lit (.int .i64 0),.lit (.int .i64 0),.nil,.nil,.nil,.nil],.agg [.lit (.int .i64 0),.lit (.int .i64 0),.nil,.nil,.nil,.nil]],[]):=by kernel_rfl
 obtain ⟨⟨x1,x2,x3⟩,hx,hx1⟩:=Option.map_eq_some_iff.1 hw
 simp only [Prod.mk.injEq] at hx1
 obtain ⟨rfl,rfl⟩:=hx1
 exact OpenSpec.preRow_of_cond 8 hx (by kernel_rfl) (fun k hk=>by cases hk;rfl) (by kernel_rfl) (A94 os _)
theorem Be2(os:Os):Input.okWideB Tryz.prog ((World.doorLaid Tryz.prog 400 os).forCall (fun _ _=>0) ⟨#[], #[.agg #[.int .i64 0,.int .i64 0,.slice none 0 0,.slice none 0 0,.slice none 0 0,.slice none 0 0],.agg #[.int .i64 0,.int .i64 0,.slice none 0 0,.slice none 0 0,.slice none 0 0,.slice none 0 0]],[]⟩) 5 ⟨#[], #[.agg #[.int .i64 0,.int .i64 0,.slice none 0 0,.slice none 0 0,.slice none 0 0,.slice none 0 0],.agg #[.int .i64 0,.int .i64 0,.slice none 0 0,.slice none 0 0,.slice none 0 0,.slice none 0 0]],[]⟩=true:=by kernel_rfl
set_option maxRecDepth 100000 in
theorem lifted(os:Os)(started:os.Started)(H:Type)(enc:TypeId×Value→H)(F:Stop.Interp):
  ReturnsInHanded {} Tryz.checked os 5 .any ((Rows.OpenSpec.upto Rows.animateTextsSpec).preRow enc Tryz.prog Tryz.f5 Rows.animateTextsUptoRow.domain false Rows.animateTextsUptoRow.laid) (((Rows.OpenSpec.upto Rows.animateTextsSpec).at F).post enc Tryz.prog Tryz.f5 false true false false):=by
 refine returnsInHanded_of_row (C:= Tryz.checked) (s:=Rows.OpenSpec.upto Rows.animateTextsSpec) own started (by kernel_rfl) Tryz.func5
  ⟨World.doorLaid Tryz.prog 400 os,fun _ _=>0,⟨#[], #[.agg #[.int .i64 0,.int .i64 0,.slice none 0 0,.slice none 0 0,.slice none 0 0,.slice none 0 0],.agg #[.int .i64 0,.int .i64 0,.slice none 0 0,.slice none 0 0,.slice none 0 0,.slice none 0 0]],[]⟩,rfl,World.shaped_of_RefB (by kernel_rfl) (by kernel_rfl),(Input.okWide_of_okWideB (base:=0) (Be2 os)).1,(Input.okWide_of_okWideB (Be2 os)).2,Bkf os enc,by
   simp only [Assume.holds]
   exact ⟨by simp,by simp,(fun h=>by cases h),by simp,by simp⟩⟩ ?_
 intro W base args ds gs before hval hW _ hk _ hL _ _
 refine Arx (P:= Tryz.prog) (L:=rdL) (tb:=4) Bzw Bzv (by kernel_rfl) (by kernel_rfl) rfl (by kernel_rfl) Tryz.underlying4 (fun ds hd=> ?_) walk hval (A0m hL) hW (hk _ rfl)
 have h3:ds.length=2:=hd.trans (by kernel_rfl)
 rw [List.append_nil]
 match ds,h3 with
 | [d0,d1],_=>rfl
theorem over:Rows.animateTextsUptoRow.holds Tryz.pinned (Rows.OpenSpec.upto Rows.animateTextsSpec):=
 OpenClaim.holds_of_cond 5 Tryz.f5 rfl rfl rfl rfl rfl rfl rfl ⟨rfl,rfl,rfl,rfl,rfl⟩ rfl rfl rfl rfl rfl (by kernel_rfl) Tryz.func5 (by kernel_rfl)
  (of_decide_eq_true (by kernel_rfl)) (by unfold Func.isWrapper;first|(rw [if_pos (by decide+kernel)];kernel_rfl)|(rw [if_neg (by decide+kernel)];exact ⟨rfl,rfl⟩))
  (fun os started H enc _ F=>by rw [OpenClaim.pre_eq_preRow];exact lifted os started H enc F)
theorem proved:Rows.AnimateTextsUptoCardSaid:=
 Claim7.holds_tied_plain_at .later [] [.data,.data,.data,.data] true (true, "b4d2bd00f7a522c2164d237efd4cee87fb723fec3dd27210b7aa6a0c123d2325") false
  over (fun _ h=>by cases h) (by kernel_rfl) (fun _ h=>by cases h) animateTextsUpto_row_tie rfl ⟨rfl,rfl⟩ (by kernel_rfl) rfl
  (fun f fn hf hfn=>by
   obtain rfl:f=5:=Option.some.inj ((show Tryz.prog.funcNamed Rows.animateTextsUptoRow.func=some 5 by kernel_rfl).symm.trans hf) |>.symm
   obtain rfl:fn= Tryz.f5:=(Option.some.inj (Tryz.func5.symm.trans hfn)).symm
   refine ⟨by kernel_rfl,fun j t ht=> ?_⟩
   have hall:(Tryz.f5.params.toList.all fun u=> !Tryz.prog.wantsStandIn u)=true:=by kernel_rfl
   have:=List.all_eq_true.1 hall t (by simpa using Array.mem_of_getElem? ht)
   exact (show Tryz.prog.wantsStandIn t=false by simpa using this))
  (by kernel_rfl)
end Go.Proofs.YthjhkpgonleelaaGreatDoor.animateTexts
