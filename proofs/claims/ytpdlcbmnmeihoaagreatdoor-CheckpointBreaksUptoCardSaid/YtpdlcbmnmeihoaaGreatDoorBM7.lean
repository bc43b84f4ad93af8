/-  The statement CheckpointBreaks, for inputs of bulk at most 1048576: the printed function is the function of the program; the law of the printed function is proved in the texts before. -/
import Derived.Test.YtpdlcbmnmeihoaaGreatDoorBLd
import Derived.Test.YtpdlcbmnmeihoaaGreatDoorCards
import Derived.Test.YtpdlcbmnmeihoaaGreatDoorTie
import Derived.Test.YtpdlcbmnmeihoaaGreatDoorBKA
import Derived.Test.YtpdlcbmnmeihoaaGreatDoorBR0
import Derived.Test.YtpdlcbmnmeihoaaGreatDoorBFz
import Derived.Deep.DeepHandedRow
import Derived.SevenTiedAt
set_option maxRecDepth 100000
set_option linter.unusedVariables false
set_option linter.unusedSimpArgs false
set_option linter.unnecessarySimpa false
namespace Go.Proofs.YtpdlcbmnmeihoaaGreatDoor.checkpointBreaks
open Go Go.ChangeShapes Go.WideShapes Go.ChangeAt Go.RowKit Go.Proofs.YtpdlcbmnmeihoaaGreatDoor.Ev
theorem own : ownKnob Tryz.prog.godebug = none := by kernel_rfl
theorem walk (l : List PV) (b : Nat) (hb : b ≤ 1048576) (h : argsOKB Tryz.prog Tryz.f7.params.toList l b) : Holds Tryz.prog 7 l (.val (.bool true)) := by
  change argsOKB Tryz.prog [48, 24, 57] l b at h
  obtain ⟨p0, q0, a0, c0, rfl, v0, ⟨n0, h0⟩, p1, q1, a1, c1, rfl, v1, ⟨n1, h1⟩, p2, q2, a2, c2, rfl, v2, ⟨n2, h2⟩, rfl⟩ := h
  simp only [argOKB, Tryz.underlying48] at h0
  obtain ⟨l0, rfl, h0⟩ := h0
  obtain ⟨y0, rfl, k0, u0⟩ := RT.rd rt48 h0
  simp only [argOKB, Tryz.underlying24] at h1
  obtain ⟨l1, rfl, h1⟩ := h1
  obtain ⟨y1, rfl, k1, u1⟩ := RT.rd rt24 h1
  simp only [argOKB, Tryz.underlying57] at h2
  obtain ⟨l2, rfl, h2⟩ := h2
  obtain ⟨y2, rfl, k2, u2⟩ := RT.rd rt57 h2
  obtain ⟨L, hL⟩ := law_CheckpointBreaks y0 y1 y2 k0 k1 k2 (show bk_api_Program y0 + bk_api_World y1 + bk_Arr3_Int y2 ≤ 1048576 by omega)
  exact h7 L y0 y1 y2 true hL
set_option maxRecDepth 100000 in
theorem wit_row (os : Os) {H : Type} (enc : TypeId × Value → H) :
    (Rows.OpenSpec.upto Rows.checkpointBreaksSpec).preRow enc Tryz.prog Tryz.f7 Rows.checkpointBreaksUptoRow.domain false Rows.checkpointBreaksUptoRow.laid ((World.doorLaid Tryz.prog 400 os).forCall (fun _ _ => 0) ⟨#[], #[.agg #[.string ⟨#[]⟩, .slice none 0 0, .slice none 0 0], .agg #[.slice none 0 0], .agg #[.int .u8 0, .int .u8 0, .int .u8 0]], []⟩).memory #[.agg #[.string ⟨#[]⟩, .slice none 0 0, .slice none 0 0], .agg #[.slice none 0 0], .agg #[.int .u8 0, .int .u8 0, .int .u8 0]] := by
  have hw : (DataW.whole enc Tryz.prog ((World.doorLaid Tryz.prog 400 os).forCall (fun _ _ => 0) ⟨#[], #[.agg #[.string ⟨#[]⟩, .slice none 0 0, .slice none 0 0], .agg #[.slice none 0 0], .agg #[.int .u8 0, .int .u8 0, .int .u8 0]], []⟩).memory Tryz.f7.params.toList (Rows.OpenSpec.upto Rows.checkpointBreaksSpec).vars false #[.agg #[.string ⟨#[]⟩, .slice none 0 0, .slice none 0 0], .agg #[.slice none 0 0], .agg #[.int .u8 0, .int .u8 0, .int .u8 0]].toList 8).map (fun x => (x.1, x.2.1)) =
      some ([.agg [.lit (.string []), .nil, .nil], .agg [.nil], .agg [.lit (.int .u8 0), .lit (.int .u8 0), .lit (.int .u8 0)]], []) := by kernel_rfl
  obtain ⟨⟨x1, x2, x3⟩, hx, hx1⟩ := Option.map_eq_some_iff.1 hw
  simp only [Prod.mk.injEq] at hx1
  obtain ⟨rfl, rfl⟩ := hx1
  exact OpenSpec.preRow_of_cond 8 hx (by kernel_rfl) (fun k hk => by cases hk; rfl) (by kernel_rfl) (door_met os _)
theorem wit_ok (os : Os) : Input.okWideB Tryz.prog ((World.doorLaid Tryz.prog 400 os).forCall (fun _ _ => 0) ⟨#[], #[.agg #[.string ⟨#[]⟩, .slice none 0 0, .slice none 0 0], .agg #[.slice none 0 0], .agg #[.int .u8 0, .int .u8 0, .int .u8 0]], []⟩) 7 ⟨#[], #[.agg #[.string ⟨#[]⟩, .slice none 0 0, .slice none 0 0], .agg #[.slice none 0 0], .agg #[.int .u8 0, .int .u8 0, .int .u8 0]], []⟩ = true := by kernel_rfl
set_option maxRecDepth 100000 in
theorem lifted (os : Os) (started : os.Started) (H : Type) (enc : TypeId × Value → H) (F : Stop.Interp) :
    ReturnsInHanded {} Tryz.checked os 7 .any ((Rows.OpenSpec.upto Rows.checkpointBreaksSpec).preRow enc Tryz.prog Tryz.f7 Rows.checkpointBreaksUptoRow.domain false Rows.checkpointBreaksUptoRow.laid) (((Rows.OpenSpec.upto Rows.checkpointBreaksSpec).at F).post enc Tryz.prog Tryz.f7 false true false false) := by
  refine returnsInHanded_of_row (C := Tryz.checked) (s := Rows.OpenSpec.upto Rows.checkpointBreaksSpec) own started (by kernel_rfl) Tryz.func7
    ⟨World.doorLaid Tryz.prog 400 os, fun _ _ => 0, ⟨#[], #[.agg #[.string ⟨#[]⟩, .slice none 0 0, .slice none 0 0], .agg #[.slice none 0 0], .agg #[.int .u8 0, .int .u8 0, .int .u8 0]], []⟩, rfl, World.shaped_of_RefB (by kernel_rfl) (by kernel_rfl), (Input.okWide_of_okWideB (base := 0) (wit_ok os)).1, (Input.okWide_of_okWideB (wit_ok os)).2, wit_row os enc, by
      simp only [Assume.holds]
      exact ⟨by simp, by simp, (fun h => by cases h), by simp, by simp⟩⟩ ?_
  intro W base args ds gs before hval hW _ hk _ hL _ _
  refine law_contractB (P := Tryz.prog) (L := rdL) (tb := 4) rdOk rdMk (by kernel_rfl) (by kernel_rfl) rfl (by kernel_rfl) Tryz.underlying4 (fun ds hd => ?_) walk hval (gl_of_laid hL) hW (hk _ rfl)
  have h3 : ds.length = 3 := hd.trans (by kernel_rfl)
  rw [List.append_nil]
  match ds, h3 with
  | [d0, d1, d2], _ => rfl
theorem ab {a b : Bool} (h : a = true) (k : b = true) : (a && b) = true := by rw [h, k]; rfl
theorem k_a : (Rows.checkpointBreaksUptoRow.wf (OpenSpec.ofChange (Rows.OpenSpec.upto Rows.checkpointBreaksSpec).bare)) = true := by kernel_rfl
theorem k_b : (laidOutB Tryz.prog) = true := by kernel_rfl
theorem k_c : (mapsRowed Tryz.prog) = true := by kernel_rfl
theorem k_d : (Tryz.f7.params.all (Tryz.prog.readableRec ·)) = true := by kernel_rfl
theorem k_e : (namedTie Tryz.prog Rows.checkpointBreaksUptoRow.named (Rows.OpenSpec.upto Rows.checkpointBreaksSpec).bare.vars) = true := by kernel_rfl
theorem k_P : ((Tryz.prog.stops == [])) = true := by kernel_rfl
theorem k_Q : ((Tryz.prog.stopKnobs == [])) = true := by kernel_rfl
theorem k_f : ((Rows.checkpointBreaksUptoRow.inPlace == Tryz.prog.inPlace 7)) = true := by kernel_rfl
theorem k_g : ((Rows.checkpointBreaksUptoRow.unfollowed == Tryz.prog.unfollowed 7)) = true := by kernel_rfl
theorem k_h : ((Rows.checkpointBreaksUptoRow.recurses == Tryz.prog.recurses 7)) = true := by kernel_rfl
theorem k_i : ((Rows.checkpointBreaksUptoRow.named == Tryz.prog.varsNamed 7)) = true := by kernel_rfl
theorem k_j : ((Rows.checkpointBreaksUptoRow.maps == (Tryz.f7.params.toList ++ (Rows.OpenSpec.upto Rows.checkpointBreaksSpec).bare.plain.varTypes Tryz.prog).any (Tryz.prog.mapsRec ·))) = true := by kernel_rfl
theorem k_k : ((Rows.checkpointBreaksUptoRow.ifaces == (Tryz.f7.params.toList ++ (Rows.OpenSpec.upto Rows.checkpointBreaksSpec).bare.plain.varTypes Tryz.prog).any (Tryz.prog.ifacesRec ·))) = true := by kernel_rfl
theorem k_l : ((Rows.checkpointBreaksUptoRow.mapsOut == Tryz.prog.mapsAmong Tryz.f7.resultTypes.toList)) = true := by kernel_rfl
theorem k_m : ((Rows.checkpointBreaksUptoRow.loops == (Tryz.f7.params.toList ++ (Rows.OpenSpec.upto Rows.checkpointBreaksSpec).bare.plain.varTypes Tryz.prog).any (Tryz.prog.loopsFrom ·))) = true := by kernel_rfl
theorem k_n : ((Rows.checkpointBreaksUptoRow.wideKeys == (Tryz.f7.params.toList ++ (Rows.OpenSpec.upto Rows.checkpointBreaksSpec).bare.plain.varTypes Tryz.prog ++ Tryz.f7.resultTypes.toList).any (Tryz.prog.wideKeysFrom ·))) = true := by kernel_rfl
theorem k_o : (Tryz.f7.resultTypes.all (fun t => Tryz.prog.readableRec t && decide (t < Tryz.prog.types.size))) = true := by kernel_rfl
theorem k_p : ((Rows.checkpointBreaksUptoRow.ifacesOut == Tryz.f7.resultTypes.toList.any (Tryz.prog.ifacesRec ·))) = true := by kernel_rfl
theorem k_q : ((Rows.checkpointBreaksUptoRow.loopsOut == Tryz.f7.resultTypes.toList.any (Tryz.prog.loopsFrom ·))) = true := by kernel_rfl
theorem k_r : ((Rows.checkpointBreaksUptoRow.plainKeys == Tryz.prog.plainKeys)) = true := by kernel_rfl
theorem k_s : (Tryz.prog.stopsHeard) = true := by kernel_rfl
theorem k_t : (Tryz.prog.mayEnter) = true := by kernel_rfl
theorem k_u : ((Rows.checkpointBreaksUptoRow.lifted == Tryz.prog.liftsFinal)) = true := by kernel_rfl
theorem k_v : ((Tryz.prog.make == some Rows.checkpointBreaksUptoRow.make)) = true := by kernel_rfl
theorem k_w : ((Rows.checkpointBreaksUptoRow.veiled == (Tryz.f7.params.toList ++ (Rows.OpenSpec.upto Rows.checkpointBreaksSpec).bare.plain.varTypes Tryz.prog ++ Tryz.f7.resultTypes.toList).any (Tryz.prog.veiledRec ·))) = true := by kernel_rfl
theorem k_x : (Rows.checkpointBreaksUptoRow.veiledFits Tryz.prog Tryz.f7.params.toList (Tryz.f7.params.toList ++ (Rows.OpenSpec.upto Rows.checkpointBreaksSpec).bare.plain.varTypes Tryz.prog ++ Tryz.f7.resultTypes.toList)) = true := by kernel_rfl
theorem closed : joinedFacts Tryz.prog 7 Tryz.f7 (Rows.OpenSpec.upto Rows.checkpointBreaksSpec).bare Rows.checkpointBreaksUptoRow = true := by
  unfold joinedFacts
  exact (ab (ab (ab (ab (ab (ab (ab (ab (ab (ab (ab (ab (ab (ab (ab (ab (ab (ab (ab (ab (ab (ab (ab (ab (ab (ab (ab (ab (ab (ab (ab k_a k_b) k_c) k_d) k_e) (by kernel_rfl)) k_P) (by kernel_rfl)) k_Q) k_f) k_g) k_h) k_i) k_j) k_k) k_l) k_m) k_n) (by kernel_rfl)) k_o) k_p) k_q) k_r) (by kernel_rfl)) k_s) k_t) k_u) k_v) (by kernel_rfl)) (by kernel_rfl)) k_w) k_x)
theorem over : Rows.checkpointBreaksUptoRow.holds Tryz.pinned (Rows.OpenSpec.upto Rows.checkpointBreaksSpec) :=
  OpenClaim.holds_of_cond 7 Tryz.f7 rfl rfl rfl rfl rfl rfl rfl ⟨rfl, rfl, rfl, rfl, rfl⟩ rfl rfl rfl rfl rfl (by kernel_rfl) Tryz.func7 closed
    (of_decide_eq_true (by kernel_rfl)) (by unfold Func.isWrapper; first | (rw [if_pos (by decide +kernel)]; kernel_rfl) | (rw [if_neg (by decide +kernel)]; exact ⟨rfl, rfl⟩))
    (fun os started H enc _ F => by rw [OpenClaim.pre_eq_preRow]; exact lifted os started H enc F)
theorem z1 : Rows.checkpointBreaksUptoRow.wfByText (Rows.OpenSpec.upto Rows.checkpointBreaksSpec) = true := by kernel_rfl
theorem z2 : Tryz.pinned.checked.prog.mainIs = some (true, "9ad3c8d3ffb98d1314b2e06b0edd414977798c7ffab4958814599c17a852ba8a".toList) := by kernel_rfl
theorem z3 : false = Tryz.pinned.checked.prog.looks [] := by kernel_rfl
theorem z4 : false = Rows.checkpointBreaksUptoRow.goesBy Tryz.pinned.checked.prog := by kernel_rfl
theorem z5 : (Tryz.f7.params.toList.all fun u => !Tryz.prog.wantsStandIn u) = true := by kernel_rfl
theorem z6 : Tryz.prog.funcNamed Rows.checkpointBreaksUptoRow.func = some 7 := by kernel_rfl
theorem proved : Rows.CheckpointBreaksUptoCardSaid :=
  Claim7.holds_tied_plain_at .later [] [.data] true (true, "9ad3c8d3ffb98d1314b2e06b0edd414977798c7ffab4958814599c17a852ba8a") false
    over (fun _ h => by cases h) z1 (fun _ h => by cases h) checkpointBreaksUpto_row_tie rfl ⟨rfl, rfl⟩ z2 rfl
    (fun f fn hf hfn => by
      obtain rfl : f = 7 := Option.some.inj (z6.symm.trans hf) |>.symm
      obtain rfl : fn = Tryz.f7 := (Option.some.inj (Tryz.func7.symm.trans hfn)).symm
      refine ⟨z3, fun j t ht => ?_⟩
      have := List.all_eq_true.1 z5 t (by simpa using Array.mem_of_getElem? ht)
      exact (show Tryz.prog.wantsStandIn t = false by simpa using this))
    z4
end Go.Proofs.YtpdlcbmnmeihoaaGreatDoor.checkpointBreaks
