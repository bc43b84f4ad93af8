import Derived.Test.YtpdlcbmnmeihoaaGreatDoorBG1
import Derived.Test.YtpdlcbmnmeihoaaGreatDoorBG3
import Derived.Test.YtpdlcbmnmeihoaaGreatDoorBG4
import Derived.Test.YtpdlcbmnmeihoaaGreatDoorBG2
set_option maxRecDepth 100000
set_option maxHeartbeats 4000000
set_option linter.unusedVariables false
set_option linter.unusedSimpArgs false
set_option linter.unnecessarySimpa false
namespace Go.Proofs.YtpdlcbmnmeihoaaGreatDoor.Ev
open Go An
noncomputable section
variable {A : Type} (L n : Nat) (kk : KontV) (K : KontX) (k : KontP)
/-! ### simulator/checkpoint.Digest -/
def T_checkpoint_Digest [An A Int]  (a0 : api_World)   : A :=
 (cn (decide ((a0.Sites.length : Int) > 16))
 (lf 0)
 (bd (F_checkpoint_body L (⟨a0.Sites⟩ : api_World)) fun r1 =>
 (bd (F_codec_Sum L r1) fun r2 =>
 (lf r2))))
def F_checkpoint_Digest  (a0 : api_World) : Option Int := T_checkpoint_Digest L a0
def X12 : EnP := E1 I 12 ca_api_World (F_checkpoint_Digest L) fun a0 r h => hF Tryz.func12 (oS [X22 L, X24 L]) L (fun kk => eE (T_checkpoint_Digest  L a0  )) h
end
end Go.Proofs.YtpdlcbmnmeihoaaGreatDoor.Ev
namespace Go.Proofs.YtpdlcbmnmeihoaaGreatDoor.Ev
open Go An
noncomputable section
variable {A : Type} (L n : Nat) (kk : KontV) (K : KontX) (k : KontP)
/-! ### simulator/simulatorref45.Digest -/
def T_R45_Digest [An A Int]  (a0 : api_World)   : A :=
 (cn (decide ((a0.Sites.length : Int) > 16))
 (lf 0)
 (bd (F_R45_Body L (⟨a0.Sites⟩ : api_World)) fun r1 =>
 (bd (F_R06_Sum L r1) fun r2 =>
 (lf r2))))
def F_R45_Digest  (a0 : api_World) : Option Int := T_R45_Digest L a0
def X13 : EnP := E1 I 13 ca_api_World (F_R45_Digest L) fun a0 r h => hF Tryz.func13 (oS [X23 L, X25 L]) L (fun kk => eE (T_R45_Digest  L a0  )) h
end
end Go.Proofs.YtpdlcbmnmeihoaaGreatDoor.Ev
namespace Go.Proofs.YtpdlcbmnmeihoaaGreatDoor.Ev
open Go An
noncomputable section
variable {A : Type} (L n : Nat) (kk : KontV) (K : KontX) (k : KontP)
/-! ### L45_awake -/
def F_L45_awake (L : Nat) : Option Bool := some true
def oA8 : Oracle := orN [(24, X24 100), (10, X10 100), (12, X12 100)]
def iA8 : Nat → Bool := fun f => inL f [21, 22, 28, 29, 32, 33, 38, 39, 47, 48, 49, 50, 51, 52, 53, 54, 55, 56, 57, 58, 59, 60, 61, 62, 63, 64, 65, 68, 69, 70, 71, 72, 73, 74, 75, 87, 88, 90, 95, 96, 97, 98, 99, 100, 101, 102, 115, 116, 117, 118, 119, 143, 145, 149, 150, 151, 152, 155, 156, 201, 202, 203, 204, 205, 206, 207, 208, 209, 213, 214, 215, 216, 217, 218, 219, 220, 221, 222, 223, 224, 225, 226, 228, 229, 230, 232, 234, 235, 248, 249, 251, 254, 260, 261, 262, 263, 312, 313, 314, 315, 317, 318, 321, 322, 324, 325, 330, 331, 334, 335, 340, 355, 359, 360, 361, 362, 367, 368, 379, 382, 1102733639916, 1102733639919, 1105957421632, 1105957421633, 8796093022229]
def nA8 : Nat → Bool := fun f => inL f [24, 10, 12]
def X8 (L : Nat) : EnP := E0 B 8 (F_L45_awake L) fun r h => by
  injection h with h
  subst h
  exact holds_run (inl := iA8) (nb := nA8) (base := oA8) grwOK mixed (orN_sound _ (by kernel_rfl)) 100 9 40 (fun kk => by kernel_rfl)
/-! ### simulator/simulatorlaw45.CheckpointSaves -/
def c3 := CC Tryz.f3
def O3 : Oracle := oL [X8 L, X9 L, X10 L, X11 L, X12 L, X13 L]
def sh3_1 (a0 : api_World) (v : Tu3) : St := ⟨[(0, .any), (1, .loc 1 0), (2, B v.1), (3, I v.2), (4, .any), (5, .any), (6, .any), (7, .any)], [(1, [lv (.t38 a0.Sites)])], 0⟩
def lb_L45_CheckpointSaves_1 [An A (Nat × Tu3)]  (a0 : api_World) (rec : Bool → Int → A) (v1_0 : Bool) (v1_1 : Int) : A :=
 (lw v1_1 a0.Sites
 (bd (F_R30_Small L (gD a0.Sites v1_1)) fun r2 =>
 (cn (!r2)
 (bd (F_L45_awake L) fun r3 =>
 (lf (0, (r3, v1_1))))
 (rec v1_0 (w64 (v1_1 + 1)))))
 (lf (1, (v1_0, v1_1))))
def lp_L45_CheckpointSaves_1  (L : Nat) (a0 : api_World) : Nat → Bool → Int → Option (Nat × Tu3)
  | 0, _, _ => none
  | n + 1, v1_0, v1_1 => lb_L45_CheckpointSaves_1  L a0 (lp_L45_CheckpointSaves_1  L a0 n) v1_0 v1_1
theorem le3_1  (a0 : api_World) : LP (EV (O3 L) L 9 c3.w.l.u.l.l) [0, 1, 2, 3, 4, 5, 6, 7] [1] (sh3_1 a0) [.ret, .exit 0] (fun n v => lp_L45_CheckpointSaves_1  L a0 n v.1 v.2) K := lE (fun _ => rfl) fun n v ih => eE (lb_L45_CheckpointSaves_1  L a0 (fun v1_0 v1_1 => re (ih (v1_0, v1_1))) v.1 v.2)
def rx_L45_CheckpointSaves_1 [An A Bool]  (a0 : api_World)  (o4 : Nat × Tu3) : A :=
 (sl o4.1 [(lf o4.2.1),
 (bd (F_checkpoint_Save L (⟨a0.Sites⟩ : api_World)) fun r5 =>
 (bd (F_R45_Save L (⟨a0.Sites⟩ : api_World)) fun r6 =>
 (cn ((strOfNums r5.1).toList == (strOfNums r6.1).toList)
 (cn (r5.2 == r6.2)
 (bd (F_checkpoint_Digest L (⟨a0.Sites⟩ : api_World)) fun r7 =>
 (bd (F_R45_Digest L (⟨a0.Sites⟩ : api_World)) fun r8 =>
 (cn (r7 == r8)
 (bd (F_L45_awake L) fun r9 =>
 (lf r9))
 (lf false))))
 (lf false))
 (lf false))))])
def wx_L45_CheckpointSaves_1 [An A Bool]  (a0 : api_World)   (nx1 : A) : A :=
 (cn (decide ((a0.Sites.length : Int) > 20))
 (bd (F_L45_awake L) fun r1 =>
 (lf r1))
 nx1)
def T_L45_CheckpointSaves [An A Bool]  (a0 : api_World)   : A := wx_L45_CheckpointSaves_1  L a0   (bd (lp_L45_CheckpointSaves_1 L a0 L false 0) fun o4 => rx_L45_CheckpointSaves_1  L a0  o4)
def F_L45_CheckpointSaves  (a0 : api_World) : Option Bool := T_L45_CheckpointSaves L a0
theorem h3 (a0 : api_World) (r : Bool) (h : F_L45_CheckpointSaves L a0 = some r) : Holds Tryz.prog 3 [.agg [lv (.t38 a0.Sites)]] (B r) := (show Ho Tryz.prog 3 [.agg [lv (.t38 a0.Sites)]] B r from hF Tryz.func3 (C := O3 L) (oS _) L (fun kk => eE (wx_L45_CheckpointSaves_1  L a0   (hq (le3_1 L (KA (O3 L) L 9 c3 (rl [4, 1, 2, 1]) (KE Tryz.f3 kk)) a0 L (false, 0)) fun o4 => rx_L45_CheckpointSaves_1  L a0  o4))) h)
end
end Go.Proofs.YtpdlcbmnmeihoaaGreatDoor.Ev
namespace Go.Proofs.YtpdlcbmnmeihoaaGreatDoor.Ev
open Go An
noncomputable section
variable {A : Type} (L n : Nat) (kk : KontV) (K : KontX) (k : KontP)
def Sp46 (F : api_Expr → Int → Option Int) : Prop := ∀ y0 y1 r, F y0 y1 = some r → Ho Tryz.prog 46 [ca_api_Expr.en y0, (cI .i64).en y1] I r
/-! ### simulator/simulatorref30.nodes -/
def c46 := CC Tryz.f46
def O46 (rec46 : api_Expr → Int → Option Int) (L : Nat) : Oracle := (orc 46 (A2 I ca_api_Expr (cI .i64) rec46) (oL []))
theorem s46 (rec46 : api_Expr → Int → Option Int) (hr46 : Sp46 rec46) (L : Nat) : SoundC Tryz.prog (O46 rec46 L) := (orc_sound (a2 _ hr46) (oS []))
def sh46_1 (a0 : api_Expr) (v : (Int × Int)) : St := ⟨[(0, .any), (1, I v.1), (2, .loc 2 0), (4, I 0), (5, I v.2)], [(2, (enapi_Expr a0))], 0⟩
def lb_R30_nodes_1 [An A (Nat × (Int × Int))] (rec46 : api_Expr → Int → Option Int) (L : Nat) (a0 : api_Expr) (rec : Int → Int → A) (v1_0 : Int) (v1_2 : Int) : A :=
 (jp (.cn (decide (v1_2 < (a0.Kids.length : Int)))
 (.lf (decide (v1_0 ≥ 0)))
 (.lf false)) (fun b1 =>
 (cn b1
 (gi v1_2 a0.Kids
 (bd (rec46 (api_Expr.cp (gD a0.Kids v1_2)) v1_0) fun r2 =>
 (rec r2 (w64 (v1_2 + 1)))))
 (lf (0, (v1_0, v1_2))))))
def lp_R30_nodes_1 (rec46 : api_Expr → Int → Option Int) (L : Nat) (a0 : api_Expr) : Nat → Int → Int → Option (Nat × (Int × Int))
  | 0, _, _ => none
  | n + 1, v1_0, v1_2 => lb_R30_nodes_1 rec46 L a0 (lp_R30_nodes_1 rec46 L a0 n) v1_0 v1_2
theorem le46_1 (rec46 : api_Expr → Int → Option Int) (L : Nat) (K : KontX) (a0 : api_Expr) : LP (EV (O46 rec46 L) L 9 c46.w.l.u.l.l) [0, 1, 2, 4, 5] [2] (sh46_1 a0) [.exit 0] (fun n v => lp_R30_nodes_1 rec46 L a0 n v.1 v.2) K := lE (fun _ => rfl) fun n v ih => eE (lb_R30_nodes_1 rec46 L a0 (fun v1_0 v1_2 => re (ih (v1_0, v1_2))) v.1 v.2)
def rx_R30_nodes_1 [An A Int] (rec46 : api_Expr → Int → Option Int) (L : Nat)   (o3 : Nat × (Int × Int)) : A :=
 (sl o3.1 [(lf o3.2.1)])
def T_R30_nodes [An A Int] (rec46 : api_Expr → Int → Option Int) (L : Nat) (a0 : api_Expr) (a1 : Int)   : A := (bd (lp_R30_nodes_1 rec46 L a0 L (w64 (a1 - 1)) 0) fun o3 => rx_R30_nodes_1 rec46 L   o3)
def B_R30_nodes (rec46 : api_Expr → Int → Option Int) (L : Nat) (a0 : api_Expr) (a1 : Int) : Option Int := T_R30_nodes rec46 L a0 a1
theorem b46 (rec46 : api_Expr → Int → Option Int) (hr46 : Sp46 rec46) (L : Nat) : Sp46 (B_R30_nodes rec46 L) := fun a0 a1 r h => hF Tryz.func46 (s46 rec46 hr46 L) L (fun kk => eE ((hq (le46_1 rec46 L (KA (O46 rec46 L) L 9 c46 (rl [4, 1, 2, 1]) (KE Tryz.f46 kk)) a0 L ((w64 (a1 - 1)), 0)) fun o3 => rx_R30_nodes_1 rec46 L   o3))) h
def F_R30_nodes : Nat → api_Expr → Int → Option Int
  | 0, _, _ => none
  | L + 1, a0, a1 => B_R30_nodes (F_R30_nodes L) L a0 a1
theorem hall46 (L : Nat) : Sp46 (F_R30_nodes L) := by
  induction L with
  | zero => exact fun _ _ _ h => (by cases h)
  | succ L ih =>
    have i46 := ih
    exact b46 (F_R30_nodes L) i46 L
def X46 (L : Nat) : EnP := E2 I 46 ca_api_Expr (cI .i64) (F_R30_nodes L) (hall46 L)
/-! ### simulator/simulatorref30.light -/
def c26 := CC Tryz.f26
def O26 : Oracle := oL [X46 L]
def sh26_2 (v1_1 : Int) (a0 : api_Code) (v : Tu3) : St := ⟨[(0, .any), (1, .loc 1 0), (2, B v.1), (3, I v1_1), (4, .lst true (.t115 ([(api_Expr.cp ((gD a0.Instrs v1_1).E)), (api_Expr.cp ((gD a0.Instrs v1_1).F))] ++ (gD a0.Instrs v1_1).Args))), (5, I v.2)], [(1, (enapi_Code a0))], 0⟩
def lb_R30_light_2 [An A (Nat × Tu3)]  (v1_1 : Int) (a0 : api_Code) (rec : Bool → Int → A) (v2_0 : Bool) (v2_3 : Int) : A :=
 (cn (decide (v2_3 < (([(api_Expr.cp ((gD a0.Instrs v1_1).E)), (api_Expr.cp ((gD a0.Instrs v1_1).F))] ++ (gD a0.Instrs v1_1).Args).length : Int)))
 (jb (.cn (decide ((([(api_Expr.cp ((gD a0.Instrs v1_1).E)), (api_Expr.cp ((gD a0.Instrs v1_1).F))] ++ (gD a0.Instrs v1_1).Args).length : Int) > 12))
 (.lf true)
 (.gq ((0 : Int) ≤ v2_3)
 (.gq (v2_3 < ((([(api_Expr.cp ((gD a0.Instrs v1_1).E)), (api_Expr.cp ((gD a0.Instrs v1_1).F))] ++ (gD a0.Instrs v1_1).Args).length : Nat) : Int))
 (.bd (F_R30_nodes L (api_Expr.cp (gD ([(api_Expr.cp ((gD a0.Instrs v1_1).E)), (api_Expr.cp ((gD a0.Instrs v1_1).F))] ++ (gD a0.Instrs v1_1).Args) v2_3)) 60) fun r2 =>
 (.lf (decide (r2 < 0))))))) (fun b1 =>
 (cn b1
 (lf (0, (false, v2_3)))
 (rec v2_0 (w64 (v2_3 + 1))))))
 (lf (1, (v2_0, v2_3))))
def lp_R30_light_2  (L : Nat) (v1_1 : Int) (a0 : api_Code) : Nat → Bool → Int → Option (Nat × Tu3)
  | 0, _, _ => none
  | n + 1, v2_0, v2_3 => lb_R30_light_2  L v1_1 a0 (lp_R30_light_2  L v1_1 a0 n) v2_0 v2_3
theorem le26_2  (v1_1 : Int) (a0 : api_Code) : LP (EV (O26 L) L 9 c26.u.l.u.l.l.u.l.l.w.l.l) [0, 1, 2, 3, 4, 5] [1] (sh26_2 v1_1 a0) [.ret, .exit 2] (fun n v => lp_R30_light_2  L v1_1 a0 n v.1 v.2) K := lE (fun _ => rfl) fun n v ih => eE (lb_R30_light_2  L v1_1 a0 (fun v2_0 v2_3 => re (ih (v2_0, v2_3))) v.1 v.2)
def sh26_1 (a0 : api_Code) (v : Tu3) : St := ⟨[(0, .any), (1, .loc 1 0), (2, B v.1), (3, I v.2)], [(1, (enapi_Code a0))], 0⟩
def rx_R30_light_1 [An A (Nat × Tu3)]  (L : Nat) (v1_1 : Int) (rec : Bool → Int → A) (o3 : Nat × Tu3) : A :=
 (sl o3.1 [(lf (0, (o3.2.1, v1_1))),
 (rec o3.2.1 (w64 (v1_1 + 1)))])
def wx_R30_light_1 [An A (Nat × Tu3)]  (L : Nat) (a0 : api_Code) (rec : Bool → Int → A) (v1_0 : Bool) (v1_1 : Int) (nx1 : Int → Bool → A) : A :=
 (lw v1_1 a0.Instrs
 (gi v1_1 a0.Instrs
 (gi v1_1 a0.Instrs
 (gq (([(api_Expr.cp ((gD a0.Instrs v1_1).E)), (api_Expr.cp ((gD a0.Instrs v1_1).F))].length + ((gD a0.Instrs v1_1).Args).length) * 56 ≤ 140737488355328)
 (gq ([(api_Expr.cp ((gD a0.Instrs v1_1).E)), (api_Expr.cp ((gD a0.Instrs v1_1).F))].length + ((gD a0.Instrs v1_1).Args).length ≤ maxLen)
 (nx1 v1_1 v1_0)))))
 (lf (1, (v1_0, v1_1))))
def lb_R30_light_1 [An A (Nat × Tu3)]  (a0 : api_Code) (rec : Bool → Int → A) (v1_0 : Bool) (v1_1 : Int) : A := wx_R30_light_1  L a0 rec v1_0 v1_1 (fun v1_1 v1_0 => bd (lp_R30_light_2 L v1_1 a0 L v1_0 0) fun o3 => rx_R30_light_1  L v1_1 rec o3)
def lp_R30_light_1  (L : Nat) (a0 : api_Code) : Nat → Bool → Int → Option (Nat × Tu3)
  | 0, _, _ => none
  | n + 1, v1_0, v1_1 => lb_R30_light_1  L a0 (lp_R30_light_1  L a0 n) v1_0 v1_1
theorem le26_1  (a0 : api_Code) : LP (EV (O26 L) L 9 c26.u.l.u.l.l) [0, 1, 2, 3] [1] (sh26_1 a0) [.ret, .exit 0] (fun n v => lp_R30_light_1  L a0 n v.1 v.2) K := lE (fun _ => rfl) fun n v ih => eE (wx_R30_light_1  L a0 (fun v1_0 v1_1 => re (ih (v1_0, v1_1))) v.1 v.2 (fun v1_1 v1_0 => hq (le26_2 L (KA (O26 L) L 9 c26.u.l.u.l.l (rl [2, 2, 4, 1]) (kRound (loopN (EV (O26 L) L 9 c26.u.l.u.l.l) [0, 1, 2, 3] [1] n) [0, 1, 2, 3] [1] K)) v1_1 a0 L (v1_0, 0)) fun o3 => rx_R30_light_1  L v1_1 (fun v1_0 v1_1 => re (ih (v1_0, v1_1))) o3))
def rx_R30_light_2 [An A Bool]  (L : Nat)   (o4 : Nat × Tu3) : A :=
 (sl o4.1 [(lf o4.2.1),
 (lf true)])
def T_R30_light [An A Bool]  (a0 : api_Code)   : A := (bd (lp_R30_light_1 L a0 L false 0) fun o4 => rx_R30_light_2  L   o4)
def F_R30_light  (a0 : api_Code) : Option Bool := T_R30_light L a0
def X26 : EnP := E1 B 26 ca_api_Code (F_R30_light L) fun a0 r h => hF Tryz.func26 (C := O26 L) (oS _) L (fun kk => eE ((hq (le26_1 L (KA (O26 L) L 9 c26 (rl [2, 1, 2, 1]) (KE Tryz.f26 kk)) a0 L (false, 0)) fun o4 => rx_R30_light_2  L   o4))) h
/-! ### simulator/simulatorref30.SmallCode -/
def c14 := CC Tryz.f14
def O14 : Oracle := oL [X26 L]
def sh14_2 (v1_1 : Int) (a0 : api_Program) (v : Tu3) : St := ⟨[(0, .any), (1, .loc 1 0), (2, B v.1), (3, I v1_1), (4, .loc 4 0), (5, .loc 5 0), (6, I v.2)], [(1, (enapi_Program a0)), (4, [S ((gD a0.Sites v1_1).Decl).Name, lv (.t219 (((gD a0.Sites v1_1).Decl).Vars)), lv (.t296 (((gD a0.Sites v1_1).Decl).Resources)), lv (.t250 (((gD a0.Sites v1_1).Decl).Stores)), lv (.t253 (((gD a0.Sites v1_1).Decl).Belts)), lv (.t9 (((gD a0.Sites v1_1).Decl).Queues)), lv (.t9 (((gD a0.Sites v1_1).Decl).Streams)), lv (.t9 (((gD a0.Sites v1_1).Decl).Tallies)), lv (.t9 (((gD a0.Sites v1_1).Decl).Levels)), lv (.t9 (((gD a0.Sites v1_1).Decl).Counts)), lv (.t225 (((gD a0.Sites v1_1).Decl).Routines)), lv (.t266 (((gD a0.Sites v1_1).Decl).Starts)), lv (.t270 (((gD a0.Sites v1_1).Decl).Laws)), lv (.t86 ((gD a0.Sites v1_1).Routines))]), (5, (enapi_SiteDecl ((gD a0.Sites v1_1).Decl)))], 0⟩
def lb_R30_SmallCode_2 [An A (Nat × Tu3)]  (v1_1 : Int) (a0 : api_Program) (rec : Bool → Int → A) (v2_0 : Bool) (v2_2 : Int) : A :=
 (lw v2_2 ((gD a0.Sites v1_1).Routines)
 (jb (.cn (decide ((((gD ((gD a0.Sites v1_1).Routines) v2_2).Instrs).length : Int) > 80))
 (.lf true)
 (.gq ((0 : Int) ≤ v2_2)
 (.gq (v2_2 < ((((gD a0.Sites v1_1).Routines).length : Nat) : Int))
 (.bd (F_R30_light L (gD ((gD a0.Sites v1_1).Routines) v2_2)) fun r15 =>
 (.lf (!r15)))))) (fun b14 =>
 (cn b14
 (lf (0, (false, v2_2)))
 (rec v2_0 (w64 (v2_2 + 1))))))
 (lf (1, (v2_0, v2_2))))
def lp_R30_SmallCode_2  (L : Nat) (v1_1 : Int) (a0 : api_Program) : Nat → Bool → Int → Option (Nat × Tu3)
  | 0, _, _ => none
  | n + 1, v2_0, v2_2 => lb_R30_SmallCode_2  L v1_1 a0 (lp_R30_SmallCode_2  L v1_1 a0 n) v2_0 v2_2
theorem le14_2  (v1_1 : Int) (a0 : api_Program) : LP (EV (O14 L) L 9 c14.w.l.u.l.l.u.l.l.x.l.l) [0, 1, 2, 3, 4, 5, 6] [1, 4, 5] (sh14_2 v1_1 a0) [.ret, .exit 2] (fun n v => lp_R30_SmallCode_2  L v1_1 a0 n v.1 v.2) K := lE (fun _ => rfl) fun n v ih => eE (lb_R30_SmallCode_2  L v1_1 a0 (fun v2_0 v2_2 => re (ih (v2_0, v2_2))) v.1 v.2)
def sh14_1 (a0 : api_Program) (v : Tu3) : St := ⟨[(0, .any), (1, .loc 1 0), (2, B v.1), (3, I v.2)], [(1, (enapi_Program a0))], 0⟩
def rx_R30_SmallCode_1 [An A (Nat × Tu3)]  (L : Nat) (v1_1 : Int) (rec : Bool → Int → A) (o16 : Nat × Tu3) : A :=
 (sl o16.1 [(lf (0, (o16.2.1, v1_1))),
 (rec o16.2.1 (w64 (v1_1 + 1)))])
def wx_R30_SmallCode_1 [An A (Nat × Tu3)]  (L : Nat) (a0 : api_Program) (rec : Bool → Int → A) (v1_0 : Bool) (v1_1 : Int) (nx1 : Int → Bool → A) : A :=
 (lw v1_1 a0.Sites
 (jp (.cn (decide ((((gD a0.Sites v1_1).Routines).length : Int) > 6))
 (.lf true)
 (.lf (decide (((((gD a0.Sites v1_1).Decl).Routines).length : Int) > 6)))) (fun b2 =>
 (jp (.cn b2
 (.lf true)
 (.lf (decide (((((gD a0.Sites v1_1).Decl).Starts).length : Int) > 8)))) (fun b3 =>
 (jp (.cn b3
 (.lf true)
 (.lf (decide (((((gD a0.Sites v1_1).Decl).Vars).length : Int) > 12)))) (fun b4 =>
 (jp (.cn b4
 (.lf true)
 (.lf (decide (((((gD a0.Sites v1_1).Decl).Resources).length : Int) > 6)))) (fun b5 =>
 (jp (.cn b5
 (.lf true)
 (.lf (decide (((((gD a0.Sites v1_1).Decl).Stores).length : Int) > 6)))) (fun b6 =>
 (jp (.cn b6
 (.lf true)
 (.lf (decide (((((gD a0.Sites v1_1).Decl).Belts).length : Int) > 6)))) (fun b7 =>
 (jp (.cn b7
 (.lf true)
 (.lf (decide (((((gD a0.Sites v1_1).Decl).Queues).length : Int) > 6)))) (fun b8 =>
 (jp (.cn b8
 (.lf true)
 (.lf (decide (((((gD a0.Sites v1_1).Decl).Streams).length : Int) > 6)))) (fun b9 =>
 (jp (.cn b9
 (.lf true)
 (.lf (decide (((((gD a0.Sites v1_1).Decl).Tallies).length : Int) > 6)))) (fun b10 =>
 (jp (.cn b10
 (.lf true)
 (.lf (decide (((((gD a0.Sites v1_1).Decl).Levels).length : Int) > 6)))) (fun b11 =>
 (jp (.cn b11
 (.lf true)
 (.lf (decide (((((gD a0.Sites v1_1).Decl).Counts).length : Int) > 6)))) (fun b12 =>
 (jp (.cn b12
 (.lf true)
 (.lf (decide (((((gD a0.Sites v1_1).Decl).Laws).length : Int) > 6)))) (fun b13 =>
 (cn b13
 (lf (0, (false, v1_1)))
 (nx1 v1_1 v1_0))))))))))))))))))))))))))
 (lf (1, (v1_0, v1_1))))
def lb_R30_SmallCode_1 [An A (Nat × Tu3)]  (a0 : api_Program) (rec : Bool → Int → A) (v1_0 : Bool) (v1_1 : Int) : A := wx_R30_SmallCode_1  L a0 rec v1_0 v1_1 (fun v1_1 v1_0 => bd (lp_R30_SmallCode_2 L v1_1 a0 L v1_0 0) fun o16 => rx_R30_SmallCode_1  L v1_1 rec o16)
def lp_R30_SmallCode_1  (L : Nat) (a0 : api_Program) : Nat → Bool → Int → Option (Nat × Tu3)
  | 0, _, _ => none
  | n + 1, v1_0, v1_1 => lb_R30_SmallCode_1  L a0 (lp_R30_SmallCode_1  L a0 n) v1_0 v1_1
theorem le14_1  (a0 : api_Program) : LP (EV (O14 L) L 9 c14.w.l.u.l.l) [0, 1, 2, 3] [1] (sh14_1 a0) [.ret, .exit 0] (fun n v => lp_R30_SmallCode_1  L a0 n v.1 v.2) K := lE (fun _ => rfl) fun n v ih => eE (wx_R30_SmallCode_1  L a0 (fun v1_0 v1_1 => re (ih (v1_0, v1_1))) v.1 v.2 (fun v1_1 v1_0 => hq (le14_2 L (KA (O14 L) L 9 c14.w.l.u.l.l (rl [2, 2, 8, 1]) (kRound (loopN (EV (O14 L) L 9 c14.w.l.u.l.l) [0, 1, 2, 3] [1] n) [0, 1, 2, 3] [1] K)) v1_1 a0 L (v1_0, 0)) fun o16 => rx_R30_SmallCode_1  L v1_1 (fun v1_0 v1_1 => re (ih (v1_0, v1_1))) o16))
def rx_R30_SmallCode_2 [An A Bool]  (L : Nat)   (o17 : Nat × Tu3) : A :=
 (sl o17.1 [(lf o17.2.1),
 (lf true)])
def wx_R30_SmallCode_2 [An A Bool]  (L : Nat) (a0 : api_Program)   (nx2 : A) : A :=
 (jp (.cn (decide ((a0.Sites.length : Int) > 4))
 (.lf true)
 (.lf (decide ((a0.Links.length : Int) > 12)))) (fun b1 =>
 (cn b1
 (lf false)
 nx2)))
def T_R30_SmallCode [An A Bool]  (a0 : api_Program)   : A := wx_R30_SmallCode_2  L a0   (bd (lp_R30_SmallCode_1 L a0 L false 0) fun o17 => rx_R30_SmallCode_2  L   o17)
def F_R30_SmallCode  (a0 : api_Program) : Option Bool := T_R30_SmallCode L a0
def X14 : EnP := E1 B 14 ca_api_Program (F_R30_SmallCode L) fun a0 r h => hF Tryz.func14 (C := O14 L) (oS _) L (fun kk => eE (wx_R30_SmallCode_2  L a0   (hq (le14_1 L (KA (O14 L) L 9 c14 (rl [4, 1, 2, 1]) (KE Tryz.f14 kk)) a0 L (false, 0)) fun o17 => rx_R30_SmallCode_2  L   o17))) h
/-! ### simulator/simulatorref32.Small -/
def c35 := CC Tryz.f35
def O35 : Oracle := oL [X9 L]
def sh35_1 (a0 : api_World) (v : Tu3) : St := ⟨[(0, .any), (1, .loc 1 0), (2, B v.1), (3, I v.2)], [(1, [lv (.t38 a0.Sites)])], 0⟩
def lb_R32_Small_1 [An A (Nat × Tu3)]  (a0 : api_World) (rec : Bool → Int → A) (v1_0 : Bool) (v1_1 : Int) : A :=
 (jp (.cn (decide (v1_1 < (a0.Sites.length : Int)))
 (.lf (decide (v1_1 < 5)))
 (.lf false)) (fun b1 =>
 (cn b1
 (gi v1_1 a0.Sites
 (bd (F_R30_Small L (gD a0.Sites v1_1)) fun r2 =>
 (cn (!r2)
 (lf (0, (false, v1_1)))
 (rec v1_0 (w64 (v1_1 + 1))))))
 (lf (1, (v1_0, v1_1))))))
def lp_R32_Small_1  (L : Nat) (a0 : api_World) : Nat → Bool → Int → Option (Nat × Tu3)
  | 0, _, _ => none
  | n + 1, v1_0, v1_1 => lb_R32_Small_1  L a0 (lp_R32_Small_1  L a0 n) v1_0 v1_1
theorem le35_1  (a0 : api_World) : LP (EV (O35 L) L 9 c35.u.l.u.l.l) [0, 1, 2, 3] [1] (sh35_1 a0) [.ret, .exit 0] (fun n v => lp_R32_Small_1  L a0 n v.1 v.2) K := lE (fun _ => rfl) fun n v ih => eE (lb_R32_Small_1  L a0 (fun v1_0 v1_1 => re (ih (v1_0, v1_1))) v.1 v.2)
def rx_R32_Small_1 [An A Bool]  (L : Nat) (a0 : api_World)  (o3 : Nat × Tu3) : A :=
 (sl o3.1 [(lf o3.2.1),
 (lf (decide ((a0.Sites.length : Int) ≤ 4)))])
def T_R32_Small [An A Bool]  (a0 : api_World)   : A := (bd (lp_R32_Small_1 L a0 L false 0) fun o3 => rx_R32_Small_1  L a0  o3)
def F_R32_Small  (a0 : api_World) : Option Bool := T_R32_Small L a0
def X35 : EnP := E1 B 35 ca_api_World (F_R32_Small L) fun a0 r h => hF Tryz.func35 (C := O35 L) (oS _) L (fun kk => eE ((hq (le35_1 L (KA (O35 L) L 9 c35 (rl [2, 1, 2, 1]) (KE Tryz.f35 kk)) a0 L (false, 0)) fun o3 => rx_R32_Small_1  L a0  o3))) h
end
end Go.Proofs.YtpdlcbmnmeihoaaGreatDoor.Ev
namespace Go.Proofs.YtpdlcbmnmeihoaaGreatDoor.Ev
open Go An
noncomputable section
variable {A : Type} (L n : Nat) (kk : KontV) (K : KontX) (k : KontP)
/-! ### simulator/simulatorlaw45.few -/
def T_L45_few [An A Bool]  (a0 : api_Program) (a1 : api_World)   : A :=
 (bd (F_R30_SmallCode L (⟨a0.Name, a0.Sites, a0.Links⟩ : api_Program)) fun r1 =>
 (jb (.cn r1
 (.bd (F_R32_Small L (⟨a1.Sites⟩ : api_World)) fun r3 =>
 (.lf r3))
 (.lf false)) (fun b2 =>
 (lf b2))))
def F_L45_few  (a0 : api_Program) (a1 : api_World) : Option Bool := T_L45_few L a0 a1
def X19 : EnP := E2 B 19 ca_api_Program ca_api_World (F_L45_few L) fun a0 a1 r h => hF Tryz.func19 (oS [X14 L, X35 L]) L (fun kk => eE (T_L45_few  L a0 a1  )) h
/-! ### bytes.Equal -/
def T_bytes_Equal [An A Bool]  (L : Nat) (a0 : (List Int)) (a1 : (List Int))   : A :=
 (lf ((strOfNums a0).toList == (strOfNums a1).toList))
def F_bytes_Equal  (a0 : (List Int)) (a1 : (List Int)) : Option Bool := T_bytes_Equal L a0 a1
def X27 : EnP := E2 B 27 cl5 cl5 (F_bytes_Equal L) fun a0 a1 r h => hF Tryz.func27 (oS []) L (fun kk => eE (T_bytes_Equal  L a0 a1  )) h
/-! ### (*simulator/checkpoint.reader).int: not asked -/
def F_checkpoint_reader_int (L : Nat) (a0 : checkpoint_reader) : Option (Int × checkpoint_reader) := none
def X47 (L : Nat) : EnP := E1 (fun (x : (Int × checkpoint_reader)) => .tup [I x.1, .agg (encheckpoint_reader x.2)]) 47 ct_checkpoint_reader (F_checkpoint_reader_int L) fun a0 r h => by cases h
/-! ### (*simulator/checkpoint.reader).state: not asked -/
def F_checkpoint_reader_state (L : Nat) (a0 : checkpoint_reader) : Option (api_State × checkpoint_reader) := none
def X29 (L : Nat) : EnP := E1 (fun (x : (api_State × checkpoint_reader)) => .tup [.agg (enapi_State x.1), .agg (encheckpoint_reader x.2)]) 29 ct_checkpoint_reader (F_checkpoint_reader_state L) fun a0 r h => by cases h
/-! ### simulator/world.Check: not asked -/
def F_world_Check (L : Nat) (a0 : api_Program) (a1 : api_World) : Option Int := none
def X30 (L : Nat) : EnP := E2 I 30 ca_api_Program ca_api_World (F_world_Check L) fun a0 a1 r h => by cases h
def c28 := CC Tryz.f28
/-! ### simulator/checkpoint.Load -/
def c15 := CC Tryz.f15
def O15 : Oracle := oL [X10 L, X24 L, X27 L, X29 L, X30 L, X47 L]
def sh15_1 (r3 : (Int × checkpoint_reader)) (a0 : api_Program) (v : (List api_State × Int × List Int × Bool)) : St := ⟨[(0, .loc 34 0), (1, .clo 29 0 []), (4, .lst true (.t38 [])), (5, I r3.1), (6, .lst true (.t38 v.1)), (7, I v.2.1)], [(2, (enapi_Program a0)), (4, [.lst true (.t38 [])]), (34, [lv (.t5 v.2.2.1), B v.2.2.2])], 1035⟩
def lb_checkpoint_Load_1 [An A (Nat × (List api_State × Int × List Int × Bool))]  (r3 : (Int × checkpoint_reader)) (a0 : api_Program) (rec : List api_State → Int → List Int → Bool → A) (v1_2 : List api_State) (v1_3 : Int) (v1_8 : List Int) (v1_9 : Bool) : A :=
 (jp (.cn (decide (v1_3 < r3.1))
 (.lf (!v1_9))
 (.lf false)) (fun b5 =>
 (cn b5
 (bd (F_checkpoint_reader_state L (⟨v1_8, v1_9⟩ : checkpoint_reader)) fun r6 =>
 (gq ((v1_2.length + [r6.1].length) * 352 ≤ 140737488355328)
 (gq (v1_2.length + [r6.1].length ≤ maxLen)
 (rec (v1_2 ++ [r6.1]) (w64 (v1_3 + 1)) r6.2.u_b r6.2.u_bad))))
 (lf (0, (v1_2, v1_3, v1_8, v1_9))))))
def lp_checkpoint_Load_1  (L : Nat) (r3 : (Int × checkpoint_reader)) (a0 : api_Program) : Nat → List api_State → Int → List Int → Bool → Option (Nat × (List api_State × Int × List Int × Bool))
  | 0, _, _, _, _ => none
  | n + 1, v1_2, v1_3, v1_8, v1_9 => lb_checkpoint_Load_1  L r3 a0 (lp_checkpoint_Load_1  L r3 a0 n) v1_2 v1_3 v1_8 v1_9
theorem le15_1  (r3 : (Int × checkpoint_reader)) (a0 : api_Program) : LP (EV (O15 L) L 8 c28.x.l.u.l.l) [0, 1, 4, 5, 6, 7] [2, 4, 34] (sh15_1 r3 a0) [.exit 0] (fun n v => lp_checkpoint_Load_1  L r3 a0 n v.1 v.2.1 v.2.2.1 v.2.2.2) K := lE (fun _ => rfl) fun n v ih => eE (lb_checkpoint_Load_1  L r3 a0 (fun v1_2 v1_3 v1_8 v1_9 => re (ih (v1_2, v1_3, v1_8, v1_9))) v.1 v.2.1 v.2.2.1 v.2.2.2)
def rx_checkpoint_Load_1 [An A (api_World × Int)]  (a1 : (List Int)) (a0 : api_Program)  (o7 : Nat × (List api_State × Int × List Int × Bool)) : A :=
 (sl o7.1 [(bd (F_checkpoint_Save L (⟨o7.2.1⟩ : api_World)) fun r8 =>
 (jp (.cn o7.2.2.2.2
 (.lf true)
 (.lf (r8.2 != 0))) (fun b9 =>
 (jb (.cn b9
 (.lf true)
 (.bd (F_bytes_Equal L r8.1 a1) fun r11 =>
 (.lf (!r11)))) (fun b10 =>
 (cn b10
 (lf ((⟨[]⟩ : api_World), 8))
 (bd (F_world_Check L (⟨a0.Name, a0.Sites, a0.Links⟩ : api_Program) (⟨o7.2.1⟩ : api_World)) fun r12 =>
 (cn (r12 != 0)
 (lf ((⟨[]⟩ : api_World), r12))
 (lf ((⟨o7.2.1⟩ : api_World), 0))))))))))])
def rx_checkpoint_Load_2 [An A (api_World × Int)]  (a1 : (List Int)) (a0 : api_Program)  (o13 : Nat × (List api_State × Int × List Int × Bool)) : A :=
 (sl o13.1 [(bd (F_checkpoint_Save L (⟨o13.2.1⟩ : api_World)) fun r14 =>
 (jp (.cn o13.2.2.2.2
 (.lf true)
 (.lf (r14.2 != 0))) (fun b15 =>
 (jb (.cn b15
 (.lf true)
 (.bd (F_bytes_Equal L r14.1 a1) fun r17 =>
 (.lf (!r17)))) (fun b16 =>
 (cn b16
 (lf ((⟨[]⟩ : api_World), 8))
 (bd (F_world_Check L (⟨a0.Name, a0.Sites, a0.Links⟩ : api_Program) (⟨o13.2.1⟩ : api_World)) fun r18 =>
 (cn (r18 != 0)
 (lf ((⟨[]⟩ : api_World), r18))
 (lf ((⟨o13.2.1⟩ : api_World), 0))))))))))])
def wx_checkpoint_Load_1 [An A (api_World × Int)]  (a0 : api_Program) (a1 : (List Int))   (nx1 : (Int × checkpoint_reader) → A) (nx2 : (Int × checkpoint_reader) → A) : A :=
 (cn (decide ((a1.length : Int) < 4))
 (lf ((⟨[]⟩ : api_World), 7))
 (gq ((0 : Int) ≤ 0)
 (gq ((0 : Int) ≤ (w64 ((a1.length : Int) - 4)))
 (gq (((w64 ((a1.length : Int) - 4)) : Int) ≤ (a1.length : Int))
 (gq (((a1.length : Int) : Int) ≤ (a1.length : Int))
 (gq ((0 : Int) ≤ 0)
 (gq ((0 : Int) ≤ (((a1.take (Int.toNat (w64 ((a1.length : Int) - 4)))).drop 0).length : Int))
 (gq (((((a1.take (Int.toNat (w64 ((a1.length : Int) - 4)))).drop 0).length : Int) : Int) ≤ (((a1.take (Int.toNat (w64 ((a1.length : Int) - 4)))).drop 0).length : Int))
 (gq (((((a1.take (Int.toNat (w64 ((a1.length : Int) - 4)))).drop 0).length : Int) : Int) ≤ (((a1.take (Int.toNat (w64 ((a1.length : Int) - 4)))).drop 0).length : Int))
 (gq (((((a1.take (Int.toNat (w64 ((a1.length : Int) - 4)))).drop 0).length : Int) : Int) ≤ (((a1.take (Int.toNat (w64 ((a1.length : Int) - 4)))).drop 0).length : Int))
 (bd (F_codec_Sum L ((((a1.take (Int.toNat (w64 ((a1.length : Int) - 4)))).drop 0).take (Int.toNat (((a1.take (Int.toNat (w64 ((a1.length : Int) - 4)))).drop 0).length : Int))).drop 0)) fun r1 =>
 (gq ((((((a1.take (Int.toNat (w64 ((a1.length : Int) - 4)))).drop 0).take (Int.toNat (((a1.take (Int.toNat (w64 ((a1.length : Int) - 4)))).drop 0).length : Int))).drop 0).length + [(IntKind.wrap .u8 ((IntKind.wrap .u32 (r1)))), (IntKind.wrap .u8 ((Int.fdiv (IntKind.wrap .u32 (r1)) (2 ^ 8)))), (IntKind.wrap .u8 ((Int.fdiv (IntKind.wrap .u32 (r1)) (2 ^ 16)))), (IntKind.wrap .u8 ((Int.fdiv (IntKind.wrap .u32 (r1)) (2 ^ 24))))].length) * 1 ≤ 140737488355328)
 (gq (((((a1.take (Int.toNat (w64 ((a1.length : Int) - 4)))).drop 0).take (Int.toNat (((a1.take (Int.toNat (w64 ((a1.length : Int) - 4)))).drop 0).length : Int))).drop 0).length + [(IntKind.wrap .u8 ((IntKind.wrap .u32 (r1)))), (IntKind.wrap .u8 ((Int.fdiv (IntKind.wrap .u32 (r1)) (2 ^ 8)))), (IntKind.wrap .u8 ((Int.fdiv (IntKind.wrap .u32 (r1)) (2 ^ 16)))), (IntKind.wrap .u8 ((Int.fdiv (IntKind.wrap .u32 (r1)) (2 ^ 24))))].length ≤ maxLen)
 (bd (F_bytes_Equal L (((((a1.take (Int.toNat (w64 ((a1.length : Int) - 4)))).drop 0).take (Int.toNat (((a1.take (Int.toNat (w64 ((a1.length : Int) - 4)))).drop 0).length : Int))).drop 0) ++ [(IntKind.wrap .u8 ((IntKind.wrap .u32 (r1)))), (IntKind.wrap .u8 ((Int.fdiv (IntKind.wrap .u32 (r1)) (2 ^ 8)))), (IntKind.wrap .u8 ((Int.fdiv (IntKind.wrap .u32 (r1)) (2 ^ 16)))), (IntKind.wrap .u8 ((Int.fdiv (IntKind.wrap .u32 (r1)) (2 ^ 24))))]) a1) fun r2 =>
 (cn (!r2)
 (lf ((⟨[]⟩ : api_World), 14))
 (bd (F_checkpoint_reader_int L (⟨((a1.take (Int.toNat (w64 ((a1.length : Int) - 4)))).drop 0), false⟩ : checkpoint_reader)) fun r3 =>
 (jp (.cn (decide (r3.1 < 0))
 (.lf true)
 (.lf (decide (r3.1 > (r3.2.u_b.length : Int))))) (fun b4 =>
 (cn b4
 (nx1 r3)
 (nx2 r3))))))))))))))))))))
def T_checkpoint_Load [An A (api_World × Int)]  (a0 : api_Program) (a1 : (List Int))   : A := wx_checkpoint_Load_1  L a0 a1   (fun r3 => bd (lp_checkpoint_Load_1 L r3 a0 L [] 0 r3.2.u_b true) fun o7 => rx_checkpoint_Load_1  L a1 a0  o7) (fun r3 => bd (lp_checkpoint_Load_1 L r3 a0 L [] 0 r3.2.u_b r3.2.u_bad) fun o13 => rx_checkpoint_Load_2  L a1 a0  o13)
def F_checkpoint_Load  (a0 : api_Program) (a1 : (List Int)) : Option (api_World × Int) := T_checkpoint_Load L a0 a1
def X15 : EnP := E2 (fun (x : (api_World × Int)) => .tup [.agg [lv (.t38 x.1.Sites)], I x.2]) 15 ca_api_Program cl5 (F_checkpoint_Load L) fun a0 a1 r h => hF Tryz.func15 (C := O15 L) (oS _) L (fun kk => eE (wx_checkpoint_Load_1  L a0 a1   (fun r3 => hq (le15_1 L (KA (O15 L) L 8 c28 (rl [8, 1, 2, 1]) (KJ Tryz.f28 (KCS (O15 L) L 9 3 2 c15.x.u.l ⟨[(35, .loc 34 0), (1, lv (.t5 a1)), (2, .loc 2 0), (4, .loc 4 0), (5, I 0), (7, .loc 34 0)], [(2, (enapi_Program a0)), (4, [.lst true (.t38 [])]), (34, [lv (.t5 ((a1.take (Int.toNat (w64 ((a1.length : Int) - 4)))).drop 0)), B false])], 0⟩ (some 36) (kN (KA (O15 L) L 9 c15 (rl [10, 1]) (KE Tryz.f15 kk)))))) r3 a0 L ([], 0, r3.2.u_b, true)) fun o7 => rx_checkpoint_Load_1  L a1 a0  o7) (fun r3 => hq (le15_1 L (KA (O15 L) L 8 c28 (rl [8, 1, 2, 1]) (KJ Tryz.f28 (KCS (O15 L) L 9 3 2 c15.x.u.l ⟨[(35, .loc 34 0), (1, lv (.t5 a1)), (2, .loc 2 0), (4, .loc 4 0), (5, I 0), (7, .loc 34 0)], [(2, (enapi_Program a0)), (4, [.lst true (.t38 [])]), (34, [lv (.t5 ((a1.take (Int.toNat (w64 ((a1.length : Int) - 4)))).drop 0)), B false])], 0⟩ (some 36) (kN (KA (O15 L) L 9 c15 (rl [10, 1]) (KE Tryz.f15 kk)))))) r3 a0 L ([], 0, r3.2.u_b, r3.2.u_bad)) fun o13 => rx_checkpoint_Load_2  L a1 a0  o13))) h
/-! ### simulator/simulatorlaw45.CheckpointBreaks -/
def T_L45_CheckpointBreaks [An A Bool]  (a0 : api_Program) (a1 : api_World) (a2 : Arr3_Int)   : A :=
 (bd (F_L45_few L (⟨a0.Name, a0.Sites, a0.Links⟩ : api_Program) (⟨a1.Sites⟩ : api_World)) fun r1 =>
 (jp (.cn (!r1)
 (.lf true)
 (.lf (a2.a2 == 0))) (fun b2 =>
 (cn b2
 (bd (F_L45_awake L) fun r3 =>
 (lf r3))
 (bd (F_checkpoint_Save L (⟨a1.Sites⟩ : api_World)) fun r4 =>
 (jp (.cn (r4.2 != 0)
 (.lf true)
 (.lf (decide ((r4.1.length : Int) < 5)))) (fun b5 =>
 (cn b5
 (lf false)
 (cn (Nat.beq r4.1.length 0)
 fl
 (gq (r4.1.length * 1 ≤ 140737488355328)
 (gq (r4.1.length ≤ maxLen)
 (cn (!decide ((r4.1.length : Int) = 0))
 (gi (Int.tmod (w64 ((w64 (256 * (w64 (a2.a0)))) + (w64 (a2.a1)))) (r4.1.length : Int)) r4.1
 (gi (Int.tmod (w64 ((w64 (256 * (w64 (a2.a0)))) + (w64 (a2.a1)))) (r4.1.length : Int)) r4.1
 (bd (F_checkpoint_Load L (⟨a0.Name, a0.Sites, a0.Links⟩ : api_Program) (r4.1.set (Int.toNat (Int.tmod (w64 ((w64 (256 * (w64 (a2.a0)))) + (w64 (a2.a1)))) (r4.1.length : Int))) (IntKind.wrap .u8 (((BitVec.ofInt 8 (gD r4.1 (Int.tmod (w64 ((w64 (256 * (w64 (a2.a0)))) + (w64 (a2.a1)))) (r4.1.length : Int))) ^^^ BitVec.ofInt 8 a2.a2).toNat : Int))))) fun r6 =>
 (jp (.cn (r6.2 == 14)
 (.lf ((r6.1.Sites.length : Int) == 0))
 (.lf false)) (fun b7 =>
 (jb (.cn b7
 (.bd (F_L45_awake L) fun r9 =>
 (.lf r9))
 (.lf false)) (fun b8 =>
 (lf b8))))))))
 fl))))))))))))
def F_L45_CheckpointBreaks  (a0 : api_Program) (a1 : api_World) (a2 : Arr3_Int) : Option Bool := T_L45_CheckpointBreaks L a0 a1 a2
theorem h7 (a0 : api_Program) (a1 : api_World) (a2 : Arr3_Int) (r : Bool) (h : F_L45_CheckpointBreaks L a0 a1 a2 = some r) : Holds Tryz.prog 7 [.agg (enapi_Program a0), .agg [lv (.t38 a1.Sites)], .agg (enArr3_Int a2)] (B r) := (show Ho Tryz.prog 7 [.agg (enapi_Program a0), .agg [lv (.t38 a1.Sites)], .agg (enArr3_Int a2)] B r from hF Tryz.func7 (oS [X8 L, X10 L, X15 L, X19 L]) L (fun kk => eE (T_L45_CheckpointBreaks  L a0 a1 a2  )) h)
end
end Go.Proofs.YtpdlcbmnmeihoaaGreatDoor.Ev
