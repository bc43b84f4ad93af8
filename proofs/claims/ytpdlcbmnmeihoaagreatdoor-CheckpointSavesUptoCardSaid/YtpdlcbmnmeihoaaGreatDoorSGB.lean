import Derived.Test.YtpdlcbmnmeihoaaGreatDoorSG1
import Derived.Test.YtpdlcbmnmeihoaaGreatDoorSG3
import Derived.Test.YtpdlcbmnmeihoaaGreatDoorSG4
import Derived.Test.YtpdlcbmnmeihoaaGreatDoorSG2
set_option maxRecDepth 100000
set_option maxHeartbeats 4000000
set_option linter.unusedVariables false
set_option linter.unusedSimpArgs false
set_option linter.unnecessarySimpa false
namespace Go.Proofs.YtpdlcbmnmeihoaaGreatDoor.Ev
open Go An
noncomputable section
variable {A : Type} (L n : Nat) (kk : KontV) (K : KontX) (k : KontP)
/-! ### simulator/checkpoint.Digest -/
def T_checkpoint_Digest [An A Int]  (a0 : api_World)   : A :=
 (cn (decide ((a0.Sites.length : Int) > 16))
 (lf 0)
 (bd (F_checkpoint_body L (⟨a0.Sites⟩ : api_World)) fun r1 =>
 (bd (F_codec_Sum L r1) fun r2 =>
 (lf r2))))
def F_checkpoint_Digest  (a0 : api_World) : Option Int := T_checkpoint_Digest L a0
def X12 : EnP := E1 I 12 ca_api_World (F_checkpoint_Digest L) fun a0 r h => hF Tryz.func12 (oS [X22 L, X24 L]) L (fun kk => eE (T_checkpoint_Digest  L a0  )) h
end
end Go.Proofs.YtpdlcbmnmeihoaaGreatDoor.Ev
namespace Go.Proofs.YtpdlcbmnmeihoaaGreatDoor.Ev
open Go An
noncomputable section
variable {A : Type} (L n : Nat) (kk : KontV) (K : KontX) (k : KontP)
/-! ### simulator/simulatorref45.Digest -/
def T_R45_Digest [An A Int]  (a0 : api_World)   : A :=
 (cn (decide ((a0.Sites.length : Int) > 16))
 (lf 0)
 (bd (F_R45_Body L (⟨a0.Sites⟩ : api_World)) fun r1 =>
 (bd (F_R06_Sum L r1) fun r2 =>
 (lf r2))))
def F_R45_Digest  (a0 : api_World) : Option Int := T_R45_Digest L a0
def X13 : EnP := E1 I 13 ca_api_World (F_R45_Digest L) fun a0 r h => hF Tryz.func13 (oS [X23 L, X25 L]) L (fun kk => eE (T_R45_Digest  L a0  )) h
end
end Go.Proofs.YtpdlcbmnmeihoaaGreatDoor.Ev
namespace Go.Proofs.YtpdlcbmnmeihoaaGreatDoor.Ev
open Go An
noncomputable section
variable {A : Type} (L n : Nat) (kk : KontV) (K : KontX) (k : KontP)
/-! ### L45_awake -/
def F_L45_awake (L : Nat) : Option Bool := some true
def oA8 : Oracle := orN [(24, X24 100), (10, X10 100), (12, X12 100)]
def iA8 : Nat → Bool := fun f => inL f [21, 22, 28, 29, 32, 33, 38, 39, 47, 48, 49, 50, 51, 52, 53, 54, 55, 56, 57, 58, 59, 60, 61, 62, 63, 64, 65, 68, 69, 70, 71, 72, 73, 74, 75, 87, 88, 90, 95, 96, 97, 98, 99, 100, 101, 102, 115, 116, 117, 118, 119, 143, 145, 149, 150, 151, 152, 155, 156, 201, 202, 203, 204, 205, 206, 207, 208, 209, 213, 214, 215, 216, 217, 218, 219, 220, 221, 222, 223, 224, 225, 226, 228, 229, 230, 232, 234, 235, 248, 249, 251, 254, 260, 261, 262, 263, 312, 313, 314, 315, 317, 318, 321, 322, 324, 325, 330, 331, 334, 335, 340, 355, 359, 360, 361, 362, 367, 368, 379, 382, 1102733639916, 1102733639919, 8796093022229]
def nA8 : Nat → Bool := fun f => inL f [24, 10, 12]
def X8 (L : Nat) : EnP := E0 B 8 (F_L45_awake L) fun r h => by
  injection h with h
  subst h
  exact holds_run (inl := iA8) (nb := nA8) (base := oA8) grwOK mixed (orN_sound _ (by kernel_rfl)) 100 9 40 (fun kk => by kernel_rfl)
/-! ### simulator/simulatorlaw45.CheckpointSaves -/
def c3 := CC Tryz.f3
def O3 : Oracle := oL [X8 L, X9 L, X10 L, X11 L, X12 L, X13 L]
def sh3_1 (a0 : api_World) (v : (Bool × Int)) : St := ⟨[(0, .any), (1, .loc 1 0), (2, B v.1), (3, I v.2), (4, .any), (5, .any), (6, .any), (7, .any)], [(1, [lv (.t38 a0.Sites)])], 0⟩
def lb_L45_CheckpointSaves_1 [An A (Nat × (Bool × Int))]  (a0 : api_World) (rec : Bool → Int → A) (v1_0 : Bool) (v1_1 : Int) : A :=
 (lw v1_1 a0.Sites
 (bd (F_R30_Small L (gD a0.Sites v1_1)) fun r2 =>
 (cn (!r2)
 (bd (F_L45_awake L) fun r3 =>
 (lf (0, (r3, v1_1))))
 (rec v1_0 (w64 (v1_1 + 1)))))
 (lf (1, (v1_0, v1_1))))
def lp_L45_CheckpointSaves_1  (L : Nat) (a0 : api_World) : Nat → Bool → Int → Option (Nat × (Bool × Int))
  | 0, _, _ => none
  | n + 1, v1_0, v1_1 => lb_L45_CheckpointSaves_1  L a0 (lp_L45_CheckpointSaves_1  L a0 n) v1_0 v1_1
theorem le3_1  (a0 : api_World) : LP (EV (O3 L) L 9 c3.w.l.u.l.l) [0, 1, 2, 3, 4, 5, 6, 7] [1] (sh3_1 a0) [.ret, .exit 0] (fun n v => lp_L45_CheckpointSaves_1  L a0 n v.1 v.2) K := lE (fun _ => rfl) fun n v ih => eE (lb_L45_CheckpointSaves_1  L a0 (fun v1_0 v1_1 => re (ih (v1_0, v1_1))) v.1 v.2)
def rx_L45_CheckpointSaves_1 [An A Bool]  (a0 : api_World)  (o4 : Nat × (Bool × Int)) : A :=
 (sl o4.1 [(lf o4.2.1),
 (bd (F_checkpoint_Save L (⟨a0.Sites⟩ : api_World)) fun r5 =>
 (bd (F_R45_Save L (⟨a0.Sites⟩ : api_World)) fun r6 =>
 (cn ((strOfNums r5.1).toList == (strOfNums r6.1).toList)
 (cn (r5.2 == r6.2)
 (bd (F_checkpoint_Digest L (⟨a0.Sites⟩ : api_World)) fun r7 =>
 (bd (F_R45_Digest L (⟨a0.Sites⟩ : api_World)) fun r8 =>
 (cn (r7 == r8)
 (bd (F_L45_awake L) fun r9 =>
 (lf r9))
 (lf false))))
 (lf false))
 (lf false))))])
def wx_L45_CheckpointSaves_1 [An A Bool]  (a0 : api_World)   (nx1 : A) : A :=
 (cn (decide ((a0.Sites.length : Int) > 20))
 (bd (F_L45_awake L) fun r1 =>
 (lf r1))
 nx1)
def T_L45_CheckpointSaves [An A Bool]  (a0 : api_World)   : A := wx_L45_CheckpointSaves_1  L a0   (bd (lp_L45_CheckpointSaves_1 L a0 L false 0) fun o4 => rx_L45_CheckpointSaves_1  L a0  o4)
def F_L45_CheckpointSaves  (a0 : api_World) : Option Bool := T_L45_CheckpointSaves L a0
theorem h3 (a0 : api_World) (r : Bool) (h : F_L45_CheckpointSaves L a0 = some r) : Holds Tryz.prog 3 [.agg [lv (.t38 a0.Sites)]] (B r) := (show Ho Tryz.prog 3 [.agg [lv (.t38 a0.Sites)]] B r from hF Tryz.func3 (C := O3 L) (oS _) L (fun kk => eE (wx_L45_CheckpointSaves_1  L a0   (hq (le3_1 L (KA (O3 L) L 9 c3 (rl [4, 1, 2, 1]) (KE Tryz.f3 kk)) a0 L (false, 0)) fun o4 => rx_L45_CheckpointSaves_1  L a0  o4))) h)
end
end Go.Proofs.YtpdlcbmnmeihoaaGreatDoor.Ev
