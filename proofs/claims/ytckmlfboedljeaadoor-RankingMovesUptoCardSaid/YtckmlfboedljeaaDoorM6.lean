/-  The statement RankingMoves, for inputs of bulk at most 1048576: the printed function is the function of the program; the law of the printed function is proved in the texts before. -/
import Derived.Test.YtckmlfboedljeaaDoorLd
import Derived.Test.YtckmlfboedljeaaDoorCards
import Derived.Test.YtckmlfboedljeaaDoorTie
import Derived.Test.YtckmlfboedljeaaDoorNT
import Derived.Test.YtckmlfboedljeaaDoorR0
import Derived.Test.YtckmlfboedljeaaDoorFz
import Derived.Deep.DeepHandedRow
import Derived.SevenTiedAt
namespace Go.Proofs.YtckmlfboedljeaaDoor.rankingMoves
open Go Go.ChangeShapes Go.WideShapes Go.ChangeAt Go.RowKit Go.Proofs.YtckmlfboedljeaaDoor.Ev
set_option maxRecDepth 100000
set_option linter.unusedVariables false
set_option linter.unusedSimpArgs false
set_option linter.unnecessarySimpa false
theorem own:ownKnob Tryd.prog.godebug=none:=by kernel_rfl
theorem walk(l:List PV)(b:Nat)(hb:b≤1048576)(h:Ma Tryd.prog Tryd.f6.params.toList l b):Jy Tryd.prog 6 l (.val (.bool true)):=by
 change Ma Tryd.prog [22,3] l b at h
 obtain ⟨p0,q0,a0,c0,rfl,v0,⟨n0,h0⟩,p1,q1,a1,c1,rfl,v1,⟨n1,h1⟩,rfl⟩:=h
 simp only [Qp,Tryd.underlying22] at h0
 obtain ⟨y0,z0,k0,u0⟩:=RT.rd Ati h0
 injection z0 with z0 _
 subst z0
 have u0:(i9 Lt y0+1)≤_:=u0
 simp only [Qp,Tryd.underlying3] at h1
 obtain ⟨y1,z1,k1,u1⟩:=RT.rd rt3 h1
 injection z1 with z1 _
 subst z1
 obtain ⟨L,hL⟩:=Y1 y0 y1 k0 k1
 exact h6 L y0 y1 true hL
set_option maxRecDepth 100000 in
theorem Tu(os:Os){H:Type}(enc:TypeId×Value→H):
  (Rows.OpenSpec.upto Rows.rankingMovesSpec).preRow enc Tryd.prog Tryd.f6 Rows.rankingMovesUptoRow.domain false Rows.rankingMovesUptoRow.laid ((World.doorLaid Tryd.prog 400 os).forCall (fun _ _=>0) ⟨#[], #[.slice none 0 0,.int .i64 0],[]⟩).memory #[.slice none 0 0,.int .i64 0]:=by
 have hw:(DataW.whole enc Tryd.prog ((World.doorLaid Tryd.prog 400 os).forCall (fun _ _=>0) ⟨#[], #[.slice none 0 0,.int .i64 0],[]⟩).memory Tryd.f6.params.toList (Rows.OpenSpec.upto Rows.rankingMovesSpec).vars false #[.slice none 0 0,.int .i64 0].toList 8).map (fun x=>(x.1,x.2.1))=
   some ([.nil,.lit (.int .i64 0)],[]):=by kernel_rfl
 obtain ⟨⟨x1,x2,x3⟩,hx,hx1⟩:=Option.map_eq_some_iff.1 hw
 simp only [Prod.mk.injEq] at hx1
 obtain ⟨rfl,rfl⟩:=hx1
 exact OpenSpec.preRow_of_cond 8 hx (by kernel_rfl) (fun k hk=>by cases hk;rfl) (by kernel_rfl) (Xd os _)
theorem Rb(os:Os):Input.okWideB Tryd.prog ((World.doorLaid Tryd.prog 400 os).forCall (fun _ _=>0) ⟨#[], #[.slice none 0 0,.int .i64 0],[]⟩) 6 ⟨#[], #[.slice none 0 0,.int .i64 0],[]⟩=true:=by kernel_rfl
set_option maxRecDepth 100000 in
theorem lifted(os:Os)(started:os.Started)(H:Type)(enc:TypeId×Value→H)(F:Stop.Interp):
  ReturnsInHanded {} Tryd.checked os 6 .any ((Rows.OpenSpec.upto Rows.rankingMovesSpec).preRow enc Tryd.prog Tryd.f6 Rows.rankingMovesUptoRow.domain false Rows.rankingMovesUptoRow.laid) (((Rows.OpenSpec.upto Rows.rankingMovesSpec).at F).post enc Tryd.prog Tryd.f6 false true false false):=by
 refine returnsInHanded_of_row (C:= Tryd.checked) (s:=Rows.OpenSpec.upto Rows.rankingMovesSpec) own started (by kernel_rfl) Tryd.func6
  ⟨World.doorLaid Tryd.prog 400 os,fun _ _=>0,⟨#[], #[.slice none 0 0,.int .i64 0],[]⟩,rfl,World.shaped_of_RefB (by kernel_rfl) (by kernel_rfl),(Input.okWide_of_okWideB (base:=0) (Rb os)).1,(Input.okWide_of_okWideB (Rb os)).2,Tu os enc,by
   simp only [Assume.holds]
   exact ⟨by simp,by simp,(fun h=>by cases h),by simp,by simp⟩⟩ ?_
 intro W base args ds gs before hval hW _ hk _ hL _ _
 refine Od (P:= Tryd.prog) (L:=rdL) (tb:=4) Atg Atf (by kernel_rfl) (by kernel_rfl) rfl (by kernel_rfl) Tryd.underlying4 (fun ds hd=> ?_) walk hval (Tf hL) hW (hk _ rfl)
 have h3:ds.length=2:=hd.trans (by kernel_rfl)
 rw [List.append_nil]
 match ds,h3 with
 | [d0,d1],_=>rfl
theorem over:Rows.rankingMovesUptoRow.holds Tryd.pinned (Rows.OpenSpec.upto Rows.rankingMovesSpec):=
 OpenClaim.holds_of_cond 6 Tryd.f6 rfl rfl rfl rfl rfl rfl rfl ⟨rfl,rfl,rfl,rfl,rfl⟩ rfl rfl rfl rfl rfl (by kernel_rfl) Tryd.func6 (by kernel_rfl)
  (of_decide_eq_true (by kernel_rfl)) (by unfold Func.isWrapper;first|(rw [if_pos (by decide+kernel)];kernel_rfl)|(rw [if_neg (by decide+kernel)];exact ⟨rfl,rfl⟩))
  (fun os started H enc _ F=>by rw [OpenClaim.pre_eq_preRow];exact lifted os started H enc F)
theorem proved:Rows.RankingMovesUptoCardSaid:=
 Claim7.holds_tied_plain_at .later [] [.data] true (true, "d57e2b5a32e91bc97e70b421c40c23d9d40d5a2395d1ce413ef3dc2164b788e5") false
  over (fun _ h=>by cases h) (by kernel_rfl) (fun _ h=>by cases h) rankingMovesUpto_row_tie rfl ⟨rfl,rfl⟩ (by kernel_rfl) rfl
  (fun f fn hf hfn=>by
   obtain rfl:f=6:=Option.some.inj ((show Tryd.prog.funcNamed Rows.rankingMovesUptoRow.func=some 6 by kernel_rfl).symm.trans hf) |>.symm
   obtain rfl:fn= Tryd.f6:=(Option.some.inj (Tryd.func6.symm.trans hfn)).symm
   refine ⟨by kernel_rfl,fun j t ht=> ?_⟩
   have hall:(Tryd.f6.params.toList.all fun u=> !Tryd.prog.wantsStandIn u)=true:=by kernel_rfl
   have:=List.all_eq_true.1 hall t (by simpa using Array.mem_of_getElem? ht)
   exact (show Tryd.prog.wantsStandIn t=false by simpa using this))
  (by kernel_rfl)
end Go.Proofs.YtckmlfboedljeaaDoor.rankingMoves
