import Derived.Test.YtpdlcbmnmeihoaaGreatDoorBG0
set_option maxRecDepth 100000
set_option maxHeartbeats 4000000
set_option linter.unusedVariables false
set_option linter.unusedSimpArgs false
set_option linter.unnecessarySimpa false
namespace Go.Proofs.YtpdlcbmnmeihoaaGreatDoor.Ev
open Go An
noncomputable section
variable {A : Type} (L n : Nat) (kk : KontV) (K : KontX) (k : KontP)
/-! ### simulator/simulatorref30.Small -/
def c9 := CC Tryz.f9
def O9 (L : Nat) : Oracle := oL []
def sh9_1 (a0 : api_State) (v : Tu3) : St := ⟨[(0, .any), (1, .loc 1 0), (2, B v.1), (3, I v.2), (4, .any), (5, .any), (6, .any)], [(1, (enapi_State a0))], 0⟩
def lb_R30_Small_1 [An A (Nat × Tu3)]  (L : Nat) (a0 : api_State) (rec : Bool → Int → A) (v1_0 : Bool) (v1_1 : Int) : A :=
 (lw v1_1 a0.Resources
 (gi v1_1 a0.Resources
 (cn (decide ((w64 ((((gD a0.Resources v1_1).Holders).length : Int) + (((gD a0.Resources v1_1).Queue).length : Int))) > 60))
 (lf (0, (false, v1_1)))
 (rec v1_0 (w64 (v1_1 + 1)))))
 (lf (1, (v1_0, v1_1))))
def lp_R30_Small_1  (L : Nat) (a0 : api_State) : Nat → Bool → Int → Option (Nat × Tu3)
  | 0, _, _ => none
  | n + 1, v1_0, v1_1 => lb_R30_Small_1  L a0 (lp_R30_Small_1  L a0 n) v1_0 v1_1
theorem le9_1  (a0 : api_State) : LP (EV (O9 L) L 9 c9.w.l.u.l.l) [0, 1, 2, 3, 4, 5, 6] [1] (sh9_1 a0) [.ret, .exit 0] (fun n v => lp_R30_Small_1  L a0 n v.1 v.2) K := lE (fun _ => rfl) fun n v ih => eE (lb_R30_Small_1  L a0 (fun v1_0 v1_1 => re (ih (v1_0, v1_1))) v.1 v.2)
def sh9_2 (a0 : api_State) (v : Tu3) : St := ⟨[(0, .any), (1, .loc 1 0), (2, B v.1), (3, .any), (4, I v.2), (5, .any), (6, .any)], [(1, (enapi_State a0))], 0⟩
def lb_R30_Small_2 [An A (Nat × Tu3)]  (L : Nat) (a0 : api_State) (rec : Bool → Int → A) (v2_0 : Bool) (v2_1 : Int) : A :=
 (lw v2_1 a0.Stores
 (gi v2_1 a0.Stores
 (gi v2_1 a0.Stores
 (cn (decide ((w64 ((w64 ((((gD a0.Stores v2_1).Items).length : Int) + (((gD a0.Stores v2_1).Putters).length : Int))) + (((gD a0.Stores v2_1).Getters).length : Int))) > 100))
 (lf (0, (false, v2_1)))
 (rec v2_0 (w64 (v2_1 + 1))))))
 (lf (1, (v2_0, v2_1))))
def lp_R30_Small_2  (L : Nat) (a0 : api_State) : Nat → Bool → Int → Option (Nat × Tu3)
  | 0, _, _ => none
  | n + 1, v2_0, v2_1 => lb_R30_Small_2  L a0 (lp_R30_Small_2  L a0 n) v2_0 v2_1
theorem le9_2  (a0 : api_State) : LP (EV (O9 L) L 9 c9.w.u.l.u.l.l) [0, 1, 2, 3, 4, 5, 6] [1] (sh9_2 a0) [.ret, .exit 2] (fun n v => lp_R30_Small_2  L a0 n v.1 v.2) K := lE (fun _ => rfl) fun n v ih => eE (lb_R30_Small_2  L a0 (fun v2_0 v2_1 => re (ih (v2_0, v2_1))) v.1 v.2)
def sh9_3 (a0 : api_State) (v : Tu3) : St := ⟨[(0, .any), (1, .loc 1 0), (2, B v.1), (3, .any), (4, .any), (5, I v.2), (6, .any)], [(1, (enapi_State a0))], 0⟩
def lb_R30_Small_3 [An A (Nat × Tu3)]  (L : Nat) (a0 : api_State) (rec : Bool → Int → A) (v3_0 : Bool) (v3_1 : Int) : A :=
 (lw v3_1 a0.Belts
 (cn (decide ((((gD a0.Belts v3_1).Riders).length : Int) > 60))
 (lf (0, (false, v3_1)))
 (rec v3_0 (w64 (v3_1 + 1))))
 (lf (1, (v3_0, v3_1))))
def lp_R30_Small_3  (L : Nat) (a0 : api_State) : Nat → Bool → Int → Option (Nat × Tu3)
  | 0, _, _ => none
  | n + 1, v3_0, v3_1 => lb_R30_Small_3  L a0 (lp_R30_Small_3  L a0 n) v3_0 v3_1
theorem le9_3  (a0 : api_State) : LP (EV (O9 L) L 9 c9.x.l.u.l.l) [0, 1, 2, 3, 4, 5, 6] [1] (sh9_3 a0) [.ret, .exit 4] (fun n v => lp_R30_Small_3  L a0 n v.1 v.2) K := lE (fun _ => rfl) fun n v ih => eE (lb_R30_Small_3  L a0 (fun v3_0 v3_1 => re (ih (v3_0, v3_1))) v.1 v.2)
def sh9_4 (a0 : api_State) (v : Tu3) : St := ⟨[(0, .any), (1, .loc 1 0), (2, B v.1), (3, .any), (4, .any), (5, .any), (6, I v.2)], [(1, (enapi_State a0))], 0⟩
def lb_R30_Small_4 [An A (Nat × Tu3)]  (L : Nat) (a0 : api_State) (rec : Bool → Int → A) (v4_0 : Bool) (v4_1 : Int) : A :=
 (lw v4_1 a0.Queues
 (cn (decide (((gD a0.Queues v4_1).length : Int) > 60))
 (lf (0, (false, v4_1)))
 (rec v4_0 (w64 (v4_1 + 1))))
 (lf (1, (v4_0, v4_1))))
def lp_R30_Small_4  (L : Nat) (a0 : api_State) : Nat → Bool → Int → Option (Nat × Tu3)
  | 0, _, _ => none
  | n + 1, v4_0, v4_1 => lb_R30_Small_4  L a0 (lp_R30_Small_4  L a0 n) v4_0 v4_1
theorem le9_4  (a0 : api_State) : LP (EV (O9 L) L 9 c9.x.u.l.u.l.l) [0, 1, 2, 3, 4, 5, 6] [1] (sh9_4 a0) [.ret, .exit 6] (fun n v => lp_R30_Small_4  L a0 n v.1 v.2) K := lE (fun _ => rfl) fun n v ih => eE (lb_R30_Small_4  L a0 (fun v4_0 v4_1 => re (ih (v4_0, v4_1))) v.1 v.2)
def rx_R30_Small_4 [An A Bool]  (L : Nat)   (o15 : Nat × Tu3) : A :=
 (sl o15.1 [(lf o15.2.1),
 (lf true)])
def wx_R30_Small_4 [An A Bool]  (L : Nat) (a0 : api_State)  (o14 : Nat × Tu3) (nx4 : (Nat × Tu3) → A) : A :=
 (sl o14.1 [(lf o14.2.1),
 (nx4 o14)])
def rx_R30_Small_3 [An A Bool]  (a0 : api_State)  (o14 : Nat × Tu3) : A := wx_R30_Small_4  L a0  o14 (fun o14 => bd (lp_R30_Small_4 L a0 L o14.2.1 0) fun o15 => rx_R30_Small_4  L   o15)
def wx_R30_Small_3 [An A Bool]  (L : Nat) (a0 : api_State)  (o13 : Nat × Tu3) (nx3 : (Nat × Tu3) → A) : A :=
 (sl o13.1 [(lf o13.2.1),
 (nx3 o13)])
def rx_R30_Small_2 [An A Bool]  (a0 : api_State)  (o13 : Nat × Tu3) : A := wx_R30_Small_3  L a0  o13 (fun o13 => bd (lp_R30_Small_3 L a0 L o13.2.1 0) fun o14 => rx_R30_Small_3  L a0  o14)
def wx_R30_Small_2 [An A Bool]  (L : Nat) (a0 : api_State)  (o12 : Nat × Tu3) (nx2 : (Nat × Tu3) → A) : A :=
 (sl o12.1 [(lf o12.2.1),
 (nx2 o12)])
def rx_R30_Small_1 [An A Bool]  (a0 : api_State)  (o12 : Nat × Tu3) : A := wx_R30_Small_2  L a0  o12 (fun o12 => bd (lp_R30_Small_2 L a0 L o12.2.1 0) fun o13 => rx_R30_Small_2  L a0  o13)
def kc9_1  : KontX := (KA (O9 L) L 9 c9 (rl [4, 1, 2, 1]) (KE Tryz.f9 kk))
theorem q9_1  (a0 : api_State)  (o12 : Nat × Tu3) : kX [.ret, .exit 0] (sh9_1 a0) (kc9_1  L kk ) o12 = ob (rx_R30_Small_1  L a0  o12) (kQ B kk) := eE (wx_R30_Small_2  L a0  o12 (fun o12 => hq (le9_2 L (KA (O9 L) L 9 c9 (rl [6, 1, 2, 1]) (KE Tryz.f9 kk)) a0 L (o12.2.1, 0)) fun o13 => wx_R30_Small_3  L a0  o13 (fun o13 => hq (le9_3 L (KA (O9 L) L 9 c9 (rl [8, 1, 2, 1]) (KE Tryz.f9 kk)) a0 L (o13.2.1, 0)) fun o14 => wx_R30_Small_4  L a0  o14 (fun o14 => hq (le9_4 L (KA (O9 L) L 9 c9 (rl [10, 1, 2, 1]) (KE Tryz.f9 kk)) a0 L (o14.2.1, 0)) fun o15 => rx_R30_Small_4  L   o15))))
def wx_R30_Small_1 [An A Bool]  (L : Nat) (a0 : api_State)   (nx1 : A) : A :=
 (jp (.cn (decide ((a0.Agenda.length : Int) > 60))
 (.lf true)
 (.lf (decide ((a0.Procs.length : Int) > 40)))) (fun b1 =>
 (jp (.cn b1
 (.lf true)
 (.lf (decide ((a0.Resources.length : Int) > 6)))) (fun b2 =>
 (jp (.cn b2
 (.lf true)
 (.lf (decide ((a0.Stores.length : Int) > 6)))) (fun b3 =>
 (jp (.cn b3
 (.lf true)
 (.lf (decide ((a0.Belts.length : Int) > 6)))) (fun b4 =>
 (jp (.cn b4
 (.lf true)
 (.lf (decide ((a0.Queues.length : Int) > 6)))) (fun b5 =>
 (jp (.cn b5
 (.lf true)
 (.lf (decide ((a0.Streams.length : Int) > 6)))) (fun b6 =>
 (jp (.cn b6
 (.lf true)
 (.lf (decide ((a0.Tallies.length : Int) > 6)))) (fun b7 =>
 (jp (.cn b7
 (.lf true)
 (.lf (decide ((a0.Levels.length : Int) > 6)))) (fun b8 =>
 (jp (.cn b8
 (.lf true)
 (.lf (decide ((a0.Counts.length : Int) > 6)))) (fun b9 =>
 (jp (.cn b9
 (.lf true)
 (.lf (decide ((a0.Vars.length : Int) > 12)))) (fun b10 =>
 (jp (.cn b10
 (.lf true)
 (.lf (decide ((a0.Created.length : Int) > 6)))) (fun b11 =>
 (cn b11
 (lf false)
 nx1)))))))))))))))))))))))
def T_R30_Small [An A Bool]  (a0 : api_State)   : A := wx_R30_Small_1  L a0   (bd (lp_R30_Small_1 L a0 L false 0) fun o12 => rx_R30_Small_1  L a0  o12)
def F_R30_Small  (a0 : api_State) : Option Bool := T_R30_Small L a0
def X9 : EnP := E1 B 9 ca_api_State (F_R30_Small L) fun a0 r h => hF Tryz.func9 (C := O9 L) (oS _) L (fun kk => eE (wx_R30_Small_1  L a0   (ho (le9_1 L (kc9_1  L kk ) a0 L (false, 0)) fun o12 => q9_1  L kk a0  o12))) h
end
end Go.Proofs.YtpdlcbmnmeihoaaGreatDoor.Ev
