import Derived.Test.YtpdlcbmnmeihoaaGreatDoorBG0
set_option maxRecDepth 100000
set_option maxHeartbeats 4000000
set_option linter.unusedVariables false
set_option linter.unusedSimpArgs false
set_option linter.unnecessarySimpa false
namespace Go.Proofs.YtpdlcbmnmeihoaaGreatDoor.Ev
open Go An
noncomputable section
variable {A : Type} (L n : Nat) (kk : KontV) (K : KontX) (k : KontP)
/-! ### simulator/simulatorref06.number -/
def T_R06_number [An A Int]  (L : Nat) (a0 : Int)   : A :=
 (cn (decide (a0 < 0))
 (lf (IntKind.wrap .u64 ((IntKind.wrap .u64 (2 * (IntKind.wrap .u64 ((w64 (0 - (w64 (a0 + 1)))))))) + 1)))
 (lf (IntKind.wrap .u64 (2 * (IntKind.wrap .u64 (a0))))))
def F_R06_number  (a0 : Int) : Option Int := T_R06_number L a0
def X91 : EnP := E1 (fun (x : Int) => V .u64 x) 91 (cI .i64) (F_R06_number L) fun a0 r h => hF Tryz.func91 (oS []) L (fun kk => eE (T_R06_number  L a0  )) h
/-! ### simulator/simulatorref06.PutInt -/
def c40 := CC Tryz.f40
def O40 : Oracle := oL [X91 L]
def sh40_1  (v : Tu1) : St := ⟨[(0, .any), (1, .any), (4, .lst true (.t5 [])), (5, .lst true (.t5 v.1)), (6, V .u64 v.2)], [], 0⟩
def lb_R06_PutInt_1 [An A (Nat × Tu1)]  (L : Nat)  (rec : List Int → Int → A) (v1_1 : List Int) (v1_2 : Int) : A :=
 (cn (decide (v1_2 ≥ 128))
 (gq ((v1_1.length + [(IntKind.wrap .u8 ((IntKind.wrap .u8 ((Int.tmod v1_2 128))) + 128))].length) * 1 ≤ 140737488355328)
 (gq (v1_1.length + [(IntKind.wrap .u8 ((IntKind.wrap .u8 ((Int.tmod v1_2 128))) + 128))].length ≤ maxLen)
 (rec (v1_1 ++ [(IntKind.wrap .u8 ((IntKind.wrap .u8 ((Int.tmod v1_2 128))) + 128))]) (IntKind.wrap .u64 (Int.tdiv v1_2 128)))))
 (lf (0, (v1_1, v1_2))))
def lp_R06_PutInt_1  (L : Nat)  : Nat → List Int → Int → Option (Nat × Tu1)
  | 0, _, _ => none
  | n + 1, v1_1, v1_2 => lb_R06_PutInt_1  L  (lp_R06_PutInt_1  L  n) v1_1 v1_2
theorem le40_1  : LP (EV (O40 L) L 9 c40.w.u.l.l.l) [0, 1, 4, 5, 6] [] (sh40_1 ) [.exit 0] (fun n v => lp_R06_PutInt_1  L  n v.1 v.2) K := lE (fun _ => rfl) fun n v ih => eE (lb_R06_PutInt_1  L  (fun v1_1 v1_2 => re (ih (v1_1, v1_2))) v.1 v.2)
def rx_R06_PutInt_1 [An A (List Int)]  (L : Nat)   (o2 : Nat × Tu1) : A :=
 (sl o2.1 [(gq ((o2.2.1.length + [(IntKind.wrap .u8 (o2.2.2))].length) * 1 ≤ 140737488355328)
 (gq (o2.2.1.length + [(IntKind.wrap .u8 (o2.2.2))].length ≤ maxLen)
 (lf (o2.2.1 ++ [(IntKind.wrap .u8 (o2.2.2))]))))])
def wx_R06_PutInt_1 [An A (List Int)]  (a0 : (List Int)) (a1 : Int)   (nx1 : Int → A) : A :=
 (gq ((0 + a0.length) * 1 ≤ 140737488355328)
 (gq (0 + a0.length ≤ maxLen)
 (bd (F_R06_number L a1) fun r1 =>
 (nx1 r1))))
def T_R06_PutInt [An A (List Int)]  (a0 : (List Int)) (a1 : Int)   : A := wx_R06_PutInt_1  L a0 a1   (fun r1 => bd (lp_R06_PutInt_1 L L a0 r1) fun o2 => rx_R06_PutInt_1  L   o2)
def F_R06_PutInt  (a0 : (List Int)) (a1 : Int) : Option (List Int) := T_R06_PutInt L a0 a1
def X40 : EnP := E2 (fun (x : (List Int)) => lv (.t5 x)) 40 cl5 (cI .i64) (F_R06_PutInt L) fun a0 a1 r h => hF Tryz.func40 (C := O40 L) (oS _) L (fun kk => eE (wx_R06_PutInt_1  L a0 a1   (fun r1 => hq (le40_1 L (KA (O40 L) L 9 c40 (rl [6, 2]) (KE Tryz.f40 kk)) L (a0, r1)) fun o2 => rx_R06_PutInt_1  L   o2))) h
/-! ### simulator/simulatorref45.ints -/
def c42 := CC Tryz.f42
def O42 : Oracle := oL [X40 L]
def sh42_1 (a1 : (List Int)) (v : Tu1) : St := ⟨[(0, lv (.t5 v.1)), (1, lv (.t3 a1)), (4, .lst true (.t5 [])), (5, I v.2)], [], 0⟩
def lb_R45_ints_1 [An A (Nat × Tu1)]  (a1 : (List Int)) (rec : List Int → Int → A) (v1_0 : List Int) (v1_3 : Int) : A :=
 (lw v1_3 a1
 (bd (F_R06_PutInt L v1_0 (gD a1 v1_3)) fun r1 =>
 (rec r1 (w64 (v1_3 + 1))))
 (lf (0, (v1_0, v1_3))))
def lp_R45_ints_1  (L : Nat) (a1 : (List Int)) : Nat → List Int → Int → Option (Nat × Tu1)
  | 0, _, _ => none
  | n + 1, v1_0, v1_3 => lb_R45_ints_1  L a1 (lp_R45_ints_1  L a1 n) v1_0 v1_3
theorem le42_1  (a1 : (List Int)) : LP (EV (O42 L) L 9 c42.u.l.u.l.l) [0, 1, 4, 5] [] (sh42_1 a1) [.exit 0] (fun n v => lp_R45_ints_1  L a1 n v.1 v.2) K := lE (fun _ => rfl) fun n v ih => eE (lb_R45_ints_1  L a1 (fun v1_0 v1_3 => re (ih (v1_0, v1_3))) v.1 v.2)
def rx_R45_ints_1 [An A (List Int)]  (L : Nat)   (o2 : Nat × Tu1) : A :=
 (sl o2.1 [(lf o2.2.1)])
def T_R45_ints [An A (List Int)]  (a0 : (List Int)) (a1 : (List Int))   : A := (bd (lp_R45_ints_1 L a1 L a0 0) fun o2 => rx_R45_ints_1  L   o2)
def F_R45_ints  (a0 : (List Int)) (a1 : (List Int)) : Option (List Int) := T_R45_ints L a0 a1
def X42 : EnP := E2 (fun (x : (List Int)) => lv (.t5 x)) 42 cl5 cl3 (F_R45_ints L) fun a0 a1 r h => hF Tryz.func42 (C := O42 L) (oS _) L (fun kk => eE ((hq (le42_1 L (KA (O42 L) L 9 c42 (rl [2, 1, 2, 1]) (KE Tryz.f42 kk)) a1 L (a0, 0)) fun o2 => rx_R45_ints_1  L   o2))) h
/-! ### simulator/simulatorref06.PutInts -/
def c43 := CC Tryz.f43
def O43 : Oracle := oL [X40 L]
def sh43_1 (a1 : (List Int)) (v : Tu1) : St := ⟨[(0, .any), (1, lv (.t3 a1)), (4, .lst true (.t5 [])), (5, lv (.t5 v.1)), (6, I v.2)], [], 0⟩
def lb_R06_PutInts_1 [An A (Nat × Tu1)]  (a1 : (List Int)) (rec : List Int → Int → A) (v1_2 : List Int) (v1_3 : Int) : A :=
 (lw v1_3 a1
 (bd (F_R06_PutInt L v1_2 (gD a1 v1_3)) fun r2 =>
 (rec r2 (w64 (v1_3 + 1))))
 (lf (0, (v1_2, v1_3))))
def lp_R06_PutInts_1  (L : Nat) (a1 : (List Int)) : Nat → List Int → Int → Option (Nat × Tu1)
  | 0, _, _ => none
  | n + 1, v1_2, v1_3 => lb_R06_PutInts_1  L a1 (lp_R06_PutInts_1  L a1 n) v1_2 v1_3
theorem le43_1  (a1 : (List Int)) : LP (EV (O43 L) L 9 c43.w.l.u.l.l) [0, 1, 4, 5, 6] [] (sh43_1 a1) [.exit 0] (fun n v => lp_R06_PutInts_1  L a1 n v.1 v.2) K := lE (fun _ => rfl) fun n v ih => eE (lb_R06_PutInts_1  L a1 (fun v1_2 v1_3 => re (ih (v1_2, v1_3))) v.1 v.2)
def rx_R06_PutInts_1 [An A (List Int)]  (L : Nat)   (o3 : Nat × Tu1) : A :=
 (sl o3.1 [(lf o3.2.1)])
def wx_R06_PutInts_1 [An A (List Int)]  (a0 : (List Int)) (a1 : (List Int))   (nx1 : (List Int) → A) : A :=
 (bd (F_R06_PutInt L a0 (a1.length : Int)) fun r1 =>
 (nx1 r1))
def T_R06_PutInts [An A (List Int)]  (a0 : (List Int)) (a1 : (List Int))   : A := wx_R06_PutInts_1  L a0 a1   (fun r1 => bd (lp_R06_PutInts_1 L a1 L r1 0) fun o3 => rx_R06_PutInts_1  L   o3)
def F_R06_PutInts  (a0 : (List Int)) (a1 : (List Int)) : Option (List Int) := T_R06_PutInts L a0 a1
def X43 : EnP := E2 (fun (x : (List Int)) => lv (.t5 x)) 43 cl5 cl3 (F_R06_PutInts L) fun a0 a1 r h => hF Tryz.func43 (C := O43 L) (oS _) L (fun kk => eE (wx_R06_PutInts_1  L a0 a1   (fun r1 => hq (le43_1 L (KA (O43 L) L 9 c43 (rl [4, 1, 2, 1]) (KE Tryz.f43 kk)) a1 L (r1, 0)) fun o3 => rx_R06_PutInts_1  L   o3))) h
/-! ### simulator/simulatorref45.dynamic -/
def c41 := CC Tryz.f41
def O41 : Oracle := oL [X40 L, X42 L, X43 L]
def sh41_1 (a1 : api_State) (v : Tu1) : St := ⟨[(0, lv (.t5 v.1)), (1, .any), (3, .loc 3 0), (4, .lst true (.t5 [])), (5, I v.2), (7, .any), (8, .any)], [(3, (enapi_State a1))], 0⟩
def lb_R45_dynamic_1 [An A (Nat × Tu1)]  (a1 : api_State) (rec : List Int → Int → A) (v1_0 : List Int) (v1_2 : Int) : A :=
 (lw v1_2 a1.Agenda
 (bd (F_R45_ints L v1_0 [(gD a1.Agenda v1_2).Time, (gD a1.Agenda v1_2).Prio, (gD a1.Agenda v1_2).From, (gD a1.Agenda v1_2).Seq, (gD a1.Agenda v1_2).Site, (gD a1.Agenda v1_2).Kind, (gD a1.Agenda v1_2).A, (gD a1.Agenda v1_2).B]) fun r2 =>
 (bd (F_R06_PutInts L r2 ((gD a1.Agenda v1_2).Args)) fun r3 =>
 (rec r3 (w64 (v1_2 + 1)))))
 (lf (0, (v1_0, v1_2))))
def lp_R45_dynamic_1  (L : Nat) (a1 : api_State) : Nat → List Int → Int → Option (Nat × Tu1)
  | 0, _, _ => none
  | n + 1, v1_0, v1_2 => lb_R45_dynamic_1  L a1 (lp_R45_dynamic_1  L a1 n) v1_0 v1_2
theorem le41_1  (a1 : api_State) : LP (EV (O41 L) L 9 c41.w.l.u.l.l) [0, 1, 3, 4, 5, 7, 8] [3] (sh41_1 a1) [.exit 0] (fun n v => lp_R45_dynamic_1  L a1 n v.1 v.2) K := lE (fun _ => rfl) fun n v ih => eE (lb_R45_dynamic_1  L a1 (fun v1_0 v1_2 => re (ih (v1_0, v1_2))) v.1 v.2)
def sh41_2 (a1 : api_State) (v : Tu1) : St := ⟨[(0, lv (.t5 v.1)), (1, .any), (3, .loc 3 0), (4, .lst true (.t5 [])), (5, .any), (6, .any), (7, I v.2)], [(3, (enapi_State a1))], 0⟩
def lb_R45_dynamic_2 [An A (Nat × Tu1)]  (a1 : api_State) (rec : List Int → Int → A) (v2_0 : List Int) (v2_2 : Int) : A :=
 (lw v2_2 a1.Procs
 (bd (F_R45_ints L v2_0 [(gD a1.Procs v2_2).Id, (gD a1.Procs v2_2).Routine, (gD a1.Procs v2_2).Pc]) fun r6 =>
 (bd (F_R06_PutInts L r6 ((gD a1.Procs v2_2).Slots)) fun r7 =>
 (bd (F_R45_ints L r7 [(gD a1.Procs v2_2).Status, (gD a1.Procs v2_2).Born, (gD a1.Procs v2_2).Left]) fun r8 =>
 (rec r8 (w64 (v2_2 + 1))))))
 (lf (0, (v2_0, v2_2))))
def lp_R45_dynamic_2  (L : Nat) (a1 : api_State) : Nat → List Int → Int → Option (Nat × Tu1)
  | 0, _, _ => none
  | n + 1, v2_0, v2_2 => lb_R45_dynamic_2  L a1 (lp_R45_dynamic_2  L a1 n) v2_0 v2_2
theorem le41_2  (a1 : api_State) : LP (EV (O41 L) L 9 c41.x.l.u.l.l) [0, 1, 3, 4, 5, 6, 7] [3] (sh41_2 a1) [.exit 2] (fun n v => lp_R45_dynamic_2  L a1 n v.1 v.2) K := lE (fun _ => rfl) fun n v ih => eE (lb_R45_dynamic_2  L a1 (fun v2_0 v2_2 => re (ih (v2_0, v2_2))) v.1 v.2)
def rx_R45_dynamic_2 [An A (List Int)]  (L : Nat)   (o9 : Nat × Tu1) : A :=
 (sl o9.1 [(lf o9.2.1)])
def wx_R45_dynamic_2 [An A (List Int)]  (a1 : api_State)  (o4 : Nat × Tu1) (nx2 : (List Int) → A) : A :=
 (sl o4.1 [(bd (F_R06_PutInt L o4.2.1 (a1.Procs.length : Int)) fun r5 =>
 (nx2 r5))])
def rx_R45_dynamic_1 [An A (List Int)]  (a1 : api_State)  (o4 : Nat × Tu1) : A := wx_R45_dynamic_2  L a1  o4 (fun r5 => bd (lp_R45_dynamic_2 L a1 L r5 0) fun o9 => rx_R45_dynamic_2  L   o9)
def wx_R45_dynamic_1 [An A (List Int)]  (a0 : (List Int)) (a1 : api_State)   (nx1 : (List Int) → A) : A :=
 (bd (F_R06_PutInt L a0 (a1.Agenda.length : Int)) fun r1 =>
 (nx1 r1))
def T_R45_dynamic [An A (List Int)]  (a0 : (List Int)) (a1 : api_State)   : A := wx_R45_dynamic_1  L a0 a1   (fun r1 => bd (lp_R45_dynamic_1 L a1 L r1 0) fun o4 => rx_R45_dynamic_1  L a1  o4)
def F_R45_dynamic  (a0 : (List Int)) (a1 : api_State) : Option (List Int) := T_R45_dynamic L a0 a1
def X41 : EnP := E2 (fun (x : (List Int)) => lv (.t5 x)) 41 cl5 ca_api_State (F_R45_dynamic L) fun a0 a1 r h => hF Tryz.func41 (C := O41 L) (oS _) L (fun kk => eE (wx_R45_dynamic_1  L a0 a1   (fun r1 => hq (le41_1 L (KA (O41 L) L 9 c41 (rl [4, 1, 2, 1]) (KE Tryz.f41 kk)) a1 L (r1, 0)) fun o4 => wx_R45_dynamic_2  L a1  o4 (fun r5 => hq (le41_2 L (KA (O41 L) L 9 c41 (rl [8, 1, 2, 1]) (KE Tryz.f41 kk)) a1 L (r5, 0)) fun o9 => rx_R45_dynamic_2  L   o9)))) h
/-! ### simulator/simulatorref45.bit -/
def T_R45_bit [An A Int]  (L : Nat) (a0 : Bool)   : A :=
 (cn a0
 (lf 1)
 (lf 0))
def F_R45_bit  (a0 : Bool) : Option Int := T_R45_bit L a0
def X92 : EnP := E1 I 92 cB (F_R45_bit L) fun a0 r h => hF Tryz.func92 (oS []) L (fun kk => eE (T_R45_bit  L a0  )) h
/-! ### simulator/simulatorref45.claims -/
def c93 := CC Tryz.f93
def O93 : Oracle := oL [X40 L, X42 L, X92 L]
def sh93_1 (a1 : (List api_Claim)) (v : Tu1) : St := ⟨[(0, lv (.t5 v.1)), (1, lv (.t190 a1)), (4, .lst true (.t5 [])), (5, I v.2)], [], 0⟩
def lb_R45_claims_1 [An A (Nat × Tu1)]  (a1 : (List api_Claim)) (rec : List Int → Int → A) (v1_0 : List Int) (v1_3 : Int) : A :=
 (lw v1_3 a1
 (gi v1_3 a1
 (gi v1_3 a1
 (gi v1_3 a1
 (gi v1_3 a1
 (bd (F_R45_bit L ((gD a1 v1_3).Preempt)) fun r2 =>
 (bd (F_R45_ints L v1_0 [(gD a1 v1_3).Proc, (gD a1 v1_3).Units, (gD a1 v1_3).Prio, (gD a1 v1_3).Seq, r2]) fun r3 =>
 (rec r3 (w64 (v1_3 + 1)))))))))
 (lf (0, (v1_0, v1_3))))
def lp_R45_claims_1  (L : Nat) (a1 : (List api_Claim)) : Nat → List Int → Int → Option (Nat × Tu1)
  | 0, _, _ => none
  | n + 1, v1_0, v1_3 => lb_R45_claims_1  L a1 (lp_R45_claims_1  L a1 n) v1_0 v1_3
theorem le93_1  (a1 : (List api_Claim)) : LP (EV (O93 L) L 9 c93.w.l.u.l.l) [0, 1, 4, 5] [] (sh93_1 a1) [.exit 0] (fun n v => lp_R45_claims_1  L a1 n v.1 v.2) K := lE (fun _ => rfl) fun n v ih => eE (lb_R45_claims_1  L a1 (fun v1_0 v1_3 => re (ih (v1_0, v1_3))) v.1 v.2)
def rx_R45_claims_1 [An A (List Int)]  (L : Nat)   (o4 : Nat × Tu1) : A :=
 (sl o4.1 [(lf o4.2.1)])
def wx_R45_claims_1 [An A (List Int)]  (a0 : (List Int)) (a1 : (List api_Claim))   (nx1 : (List Int) → A) : A :=
 (bd (F_R06_PutInt L a0 (a1.length : Int)) fun r1 =>
 (nx1 r1))
def T_R45_claims [An A (List Int)]  (a0 : (List Int)) (a1 : (List api_Claim))   : A := wx_R45_claims_1  L a0 a1   (fun r1 => bd (lp_R45_claims_1 L a1 L r1 0) fun o4 => rx_R45_claims_1  L   o4)
def F_R45_claims  (a0 : (List Int)) (a1 : (List api_Claim)) : Option (List Int) := T_R45_claims L a0 a1
def X93 : EnP := E2 (fun (x : (List Int)) => lv (.t5 x)) 93 cl5 cl190 (F_R45_claims L) fun a0 a1 r h => hF Tryz.func93 (C := O93 L) (oS _) L (fun kk => eE (wx_R45_claims_1  L a0 a1   (fun r1 => hq (le93_1 L (KA (O93 L) L 9 c93 (rl [4, 1, 2, 1]) (KE Tryz.f93 kk)) a1 L (r1, 0)) fun o4 => rx_R45_claims_1  L   o4))) h
/-! ### simulator/simulatorref45.objects -/
def c45 := CC Tryz.f45
def O45 : Oracle := oL [X40 L, X42 L, X43 L, X92 L, X93 L]
def kq45 : (List Int) → Prop := fun x => kk ((fun (x : (List Int)) => lv (.t5 x)) x)
def sh45_1 (a1 : api_State) (v : Tu1) : St := ⟨[(0, lv (.t5 v.1)), (1, .any), (3, .loc 3 0), (4, .lst true (.t5 [])), (5, I v.2), (7, .any), (8, .any), (9, .any), (10, .any), (11, .any), (12, .any), (13, .any)], [(3, (enapi_State a1))], 0⟩
def lb_R45_objects_1 [An A (Nat × Tu1)]  (a1 : api_State) (rec : List Int → Int → A) (v1_0 : List Int) (v1_2 : Int) : A :=
 (lw v1_2 a1.Resources
 (bd (F_R45_bit L ((gD a1.Resources v1_2).Down)) fun r2 =>
 (bd (F_R45_ints L v1_0 [(gD a1.Resources v1_2).Units, r2]) fun r3 =>
 (bd (F_R45_claims L r3 ((gD a1.Resources v1_2).Holders)) fun r4 =>
 (bd (F_R45_claims L r4 ((gD a1.Resources v1_2).Queue)) fun r5 =>
 (bd (F_R06_PutInt L r5 ((gD a1.Resources v1_2).Next)) fun r6 =>
 (rec r6 (w64 (v1_2 + 1))))))))
 (lf (0, (v1_0, v1_2))))
def lp_R45_objects_1  (L : Nat) (a1 : api_State) : Nat → List Int → Int → Option (Nat × Tu1)
  | 0, _, _ => none
  | n + 1, v1_0, v1_2 => lb_R45_objects_1  L a1 (lp_R45_objects_1  L a1 n) v1_0 v1_2
theorem le45_1  (a1 : api_State) : LP (EV (O45 L) L 9 c45.w.l.u.l.l) [0, 1, 3, 4, 5, 7, 8, 9, 10, 11, 12, 13] [3] (sh45_1 a1) [.exit 0] (fun n v => lp_R45_objects_1  L a1 n v.1 v.2) K := lE (fun _ => rfl) fun n v ih => eE (lb_R45_objects_1  L a1 (fun v1_0 v1_2 => re (ih (v1_0, v1_2))) v.1 v.2)
def sh45_3 (v2_2 : Int) (a1 : api_State) (v : Tu1) : St := ⟨[(0, lv (.t5 v.1)), (1, .any), (3, .loc 3 0), (4, .lst true (.t5 [])), (5, .any), (6, .any), (7, I v2_2), (8, .loc 8 0), (9, I v.2), (10, .any), (11, .any), (12, .any), (13, .any)], [(3, (enapi_State a1)), (8, (enapi_Store (gD a1.Stores v2_2)))], 0⟩
def lb_R45_objects_3 [An A (Nat × Tu1)]  (v2_2 : Int) (a1 : api_State) (rec : List Int → Int → A) (v3_0 : List Int) (v3_3 : Int) : A :=
 (lw v3_3 ((gD a1.Stores v2_2).Putters)
 (gi v3_3 ((gD a1.Stores v2_2).Putters)
 (bd (F_R45_ints L v3_0 [(gD ((gD a1.Stores v2_2).Putters) v3_3).Proc, (gD ((gD a1.Stores v2_2).Putters) v3_3).Item]) fun r12 =>
 (rec r12 (w64 (v3_3 + 1)))))
 (lf (0, (v3_0, v3_3))))
def lp_R45_objects_3  (L : Nat) (v2_2 : Int) (a1 : api_State) : Nat → List Int → Int → Option (Nat × Tu1)
  | 0, _, _ => none
  | n + 1, v3_0, v3_3 => lb_R45_objects_3  L v2_2 a1 (lp_R45_objects_3  L v2_2 a1 n) v3_0 v3_3
theorem le45_3  (v2_2 : Int) (a1 : api_State) : LP (EV (O45 L) L 9 c45.x.l.u.l.l.u.l.l.w.u.l.u.l.l) [0, 1, 3, 4, 5, 6, 7, 8, 9, 10, 11, 12, 13] [3, 8] (sh45_3 v2_2 a1) [.exit 4] (fun n v => lp_R45_objects_3  L v2_2 a1 n v.1 v.2) K := lE (fun _ => rfl) fun n v ih => eE (lb_R45_objects_3  L v2_2 a1 (fun v3_0 v3_3 => re (ih (v3_0, v3_3))) v.1 v.2)
def sh45_2 (a1 : api_State) (v : Tu1) : St := ⟨[(0, lv (.t5 v.1)), (1, .any), (3, .loc 3 0), (4, .lst true (.t5 [])), (5, .any), (6, .any), (7, I v.2), (10, .any), (11, .any), (12, .any), (13, .any)], [(3, (enapi_State a1))], 0⟩
def rx_R45_objects_2 [An A (Nat × Tu1)]  (a1 : api_State) (v2_2 : Int) (rec : List Int → Int → A) (o13 : Nat × Tu1) : A :=
 (sl o13.1 [(bd (F_R06_PutInts L o13.2.1 ((gD a1.Stores v2_2).Getters)) fun r14 =>
 (bd (F_R45_ints L r14 [(gD a1.Stores v2_2).In, (gD a1.Stores v2_2).Out]) fun r15 =>
 (rec r15 (w64 (v2_2 + 1)))))])
def wx_R45_objects_2 [An A (Nat × Tu1)]  (a1 : api_State) (rec : List Int → Int → A) (v2_0 : List Int) (v2_2 : Int) (nx2 : Int → (List Int) → A) : A :=
 (lw v2_2 a1.Stores
 (bd (F_R45_ints L v2_0 [(gD a1.Stores v2_2).Room, (gD a1.Stores v2_2).Policy]) fun r9 =>
 (bd (F_R06_PutInts L r9 ((gD a1.Stores v2_2).Items)) fun r10 =>
 (bd (F_R06_PutInt L r10 (((gD a1.Stores v2_2).Putters).length : Int)) fun r11 =>
 (nx2 v2_2 r11))))
 (lf (0, (v2_0, v2_2))))
def lb_R45_objects_2 [An A (Nat × Tu1)]  (a1 : api_State) (rec : List Int → Int → A) (v2_0 : List Int) (v2_2 : Int) : A := wx_R45_objects_2  L a1 rec v2_0 v2_2 (fun v2_2 r11 => bd (lp_R45_objects_3 L v2_2 a1 L r11 0) fun o13 => rx_R45_objects_2  L a1 v2_2 rec o13)
def lp_R45_objects_2  (L : Nat) (a1 : api_State) : Nat → List Int → Int → Option (Nat × Tu1)
  | 0, _, _ => none
  | n + 1, v2_0, v2_2 => lb_R45_objects_2  L a1 (lp_R45_objects_2  L a1 n) v2_0 v2_2
theorem le45_2  (a1 : api_State) : LP (EV (O45 L) L 9 c45.x.l.u.l.l) [0, 1, 3, 4, 5, 6, 7, 10, 11, 12, 13] [3] (sh45_2 a1) [.exit 2] (fun n v => lp_R45_objects_2  L a1 n v.1 v.2) K := lE (fun _ => rfl) fun n v ih => eE (wx_R45_objects_2  L a1 (fun v2_0 v2_2 => re (ih (v2_0, v2_2))) v.1 v.2 (fun v2_2 r11 => hq (le45_3 L (KA (O45 L) L 9 c45.x.l.u.l.l (rl [2, 2, 6, 1, 2, 1]) (kRound (loopN (EV (O45 L) L 9 c45.x.l.u.l.l) [0, 1, 3, 4, 5, 6, 7, 10, 11, 12, 13] [3] n) [0, 1, 3, 4, 5, 6, 7, 10, 11, 12, 13] [3] K)) v2_2 a1 L (r11, 0)) fun o13 => rx_R45_objects_2  L a1 v2_2 (fun v2_0 v2_2 => re (ih (v2_0, v2_2))) o13))
def sh45_5 (v4_2 : Int) (a1 : api_State) (v : Tu1) : St := ⟨[(0, lv (.t5 v.1)), (1, .any), (3, .loc 3 0), (4, .lst true (.t5 [])), (5, .any), (6, .any), (7, .any), (8, .any), (9, .any), (10, I v4_2), (11, .loc 11 0), (12, I v.2), (13, .any)], [(3, (enapi_State a1)), (11, (enapi_Belt (gD a1.Belts v4_2)))], 0⟩
def lb_R45_objects_5 [An A (Nat × Tu1)]  (v4_2 : Int) (a1 : api_State) (rec : List Int → Int → A) (v5_0 : List Int) (v5_3 : Int) : A :=
 (lw v5_3 ((gD a1.Belts v4_2).Riders)
 (gi v5_3 ((gD a1.Belts v4_2).Riders)
 (gi v5_3 ((gD a1.Belts v4_2).Riders)
 (bd (F_R45_ints L v5_0 [(gD ((gD a1.Belts v4_2).Riders) v5_3).Proc, (gD ((gD a1.Belts v4_2).Riders) v5_3).Entry, (gD ((gD a1.Belts v4_2).Riders) v5_3).Exit]) fun r19 =>
 (rec r19 (w64 (v5_3 + 1))))))
 (lf (0, (v5_0, v5_3))))
def lp_R45_objects_5  (L : Nat) (v4_2 : Int) (a1 : api_State) : Nat → List Int → Int → Option (Nat × Tu1)
  | 0, _, _ => none
  | n + 1, v5_0, v5_3 => lb_R45_objects_5  L v4_2 a1 (lp_R45_objects_5  L v4_2 a1 n) v5_0 v5_3
theorem le45_5  (v4_2 : Int) (a1 : api_State) : LP (EV (O45 L) L 9 c45.x.w.l.u.l.l.u.l.l.w.l.u.l.l) [0, 1, 3, 4, 5, 6, 7, 8, 9, 10, 11, 12, 13] [3, 11] (sh45_5 v4_2 a1) [.exit 8] (fun n v => lp_R45_objects_5  L v4_2 a1 n v.1 v.2) K := lE (fun _ => rfl) fun n v ih => eE (lb_R45_objects_5  L v4_2 a1 (fun v5_0 v5_3 => re (ih (v5_0, v5_3))) v.1 v.2)
def sh45_4 (a1 : api_State) (v : Tu1) : St := ⟨[(0, lv (.t5 v.1)), (1, .any), (3, .loc 3 0), (4, .lst true (.t5 [])), (5, .any), (6, .any), (7, .any), (8, .any), (9, .any), (10, I v.2), (13, .any)], [(3, (enapi_State a1))], 0⟩
def rx_R45_objects_4 [An A (Nat × Tu1)]  (a1 : api_State) (v4_2 : Int) (rec : List Int → Int → A) (o20 : Nat × Tu1) : A :=
 (sl o20.1 [(bd (F_R06_PutInt L o20.2.1 ((gD a1.Belts v4_2).Last)) fun r21 =>
 (rec r21 (w64 (v4_2 + 1))))])
def wx_R45_objects_4 [An A (Nat × Tu1)]  (a1 : api_State) (rec : List Int → Int → A) (v4_0 : List Int) (v4_2 : Int) (nx4 : Int → (List Int) → A) : A :=
 (lw v4_2 a1.Belts
 (bd (F_R45_ints L v4_0 [(gD a1.Belts v4_2).Length, (gD a1.Belts v4_2).Step, (((gD a1.Belts v4_2).Riders).length : Int)]) fun r18 =>
 (nx4 v4_2 r18))
 (lf (0, (v4_0, v4_2))))
def lb_R45_objects_4 [An A (Nat × Tu1)]  (a1 : api_State) (rec : List Int → Int → A) (v4_0 : List Int) (v4_2 : Int) : A := wx_R45_objects_4  L a1 rec v4_0 v4_2 (fun v4_2 r18 => bd (lp_R45_objects_5 L v4_2 a1 L r18 0) fun o20 => rx_R45_objects_4  L a1 v4_2 rec o20)
def lp_R45_objects_4  (L : Nat) (a1 : api_State) : Nat → List Int → Int → Option (Nat × Tu1)
  | 0, _, _ => none
  | n + 1, v4_0, v4_2 => lb_R45_objects_4  L a1 (lp_R45_objects_4  L a1 n) v4_0 v4_2
theorem le45_4  (a1 : api_State) : LP (EV (O45 L) L 9 c45.x.w.l.u.l.l) [0, 1, 3, 4, 5, 6, 7, 8, 9, 10, 13] [3] (sh45_4 a1) [.exit 6] (fun n v => lp_R45_objects_4  L a1 n v.1 v.2) K := lE (fun _ => rfl) fun n v ih => eE (wx_R45_objects_4  L a1 (fun v4_0 v4_2 => re (ih (v4_0, v4_2))) v.1 v.2 (fun v4_2 r18 => hq (le45_5 L (KA (O45 L) L 9 c45.x.w.l.u.l.l (rl [2, 2, 4, 1, 2, 1]) (kRound (loopN (EV (O45 L) L 9 c45.x.w.l.u.l.l) [0, 1, 3, 4, 5, 6, 7, 8, 9, 10, 13] [3] n) [0, 1, 3, 4, 5, 6, 7, 8, 9, 10, 13] [3] K)) v4_2 a1 L (r18, 0)) fun o20 => rx_R45_objects_4  L a1 v4_2 (fun v4_0 v4_2 => re (ih (v4_0, v4_2))) o20))
def sh45_6 (a1 : api_State) (v : Tu1) : St := ⟨[(0, lv (.t5 v.1)), (1, .any), (3, .loc 3 0), (4, .lst true (.t5 [])), (5, .any), (6, .any), (7, .any), (8, .any), (9, .any), (10, .any), (11, .any), (12, .any), (13, I v.2)], [(3, (enapi_State a1))], 0⟩
def lb_R45_objects_6 [An A (Nat × Tu1)]  (a1 : api_State) (rec : List Int → Int → A) (v6_0 : List Int) (v6_2 : Int) : A :=
 (lw v6_2 a1.Queues
 (bd (F_R06_PutInts L v6_0 (gD a1.Queues v6_2)) fun r24 =>
 (rec r24 (w64 (v6_2 + 1))))
 (lf (0, (v6_0, v6_2))))
def lp_R45_objects_6  (L : Nat) (a1 : api_State) : Nat → List Int → Int → Option (Nat × Tu1)
  | 0, _, _ => none
  | n + 1, v6_0, v6_2 => lb_R45_objects_6  L a1 (lp_R45_objects_6  L a1 n) v6_0 v6_2
theorem le45_6  (a1 : api_State) : LP (EV (O45 L) L 9 c45.x.x.l.u.l.l) [0, 1, 3, 4, 5, 6, 7, 8, 9, 10, 11, 12, 13] [3] (sh45_6 a1) [.exit 10] (fun n v => lp_R45_objects_6  L a1 n v.1 v.2) K := lE (fun _ => rfl) fun n v ih => eE (lb_R45_objects_6  L a1 (fun v6_0 v6_2 => re (ih (v6_0, v6_2))) v.1 v.2)
def rx_R45_objects_6 [An A (List Int)]  (L : Nat)   (o25 : Nat × Tu1) : A :=
 (sl o25.1 [(lf o25.2.1)])
def wx_R45_objects_6 [An A (List Int)]  (a1 : api_State)  (o22 : Nat × Tu1) (nx6 : (List Int) → A) : A :=
 (sl o22.1 [(bd (F_R06_PutInt L o22.2.1 (a1.Queues.length : Int)) fun r23 =>
 (nx6 r23))])
def rx_R45_objects_5 [An A (List Int)]  (a1 : api_State)  (o22 : Nat × Tu1) : A := wx_R45_objects_6  L a1  o22 (fun r23 => bd (lp_R45_objects_6 L a1 L r23 0) fun o25 => rx_R45_objects_6  L   o25)
def wx_R45_objects_5 [An A (List Int)]  (a1 : api_State)  (o16 : Nat × Tu1) (nx5 : (List Int) → A) : A :=
 (sl o16.1 [(bd (F_R06_PutInt L o16.2.1 (a1.Belts.length : Int)) fun r17 =>
 (nx5 r17))])
def rx_R45_objects_3 [An A (List Int)]  (a1 : api_State)  (o16 : Nat × Tu1) : A := wx_R45_objects_5  L a1  o16 (fun r17 => bd (lp_R45_objects_4 L a1 L r17 0) fun o22 => rx_R45_objects_5  L a1  o22)
def wx_R45_objects_3 [An A (List Int)]  (a1 : api_State)  (o7 : Nat × Tu1) (nx3 : (List Int) → A) : A :=
 (sl o7.1 [(bd (F_R06_PutInt L o7.2.1 (a1.Stores.length : Int)) fun r8 =>
 (nx3 r8))])
def rx_R45_objects_1 [An A (List Int)]  (a1 : api_State)  (o7 : Nat × Tu1) : A := wx_R45_objects_3  L a1  o7 (fun r8 => bd (lp_R45_objects_2 L a1 L r8 0) fun o16 => rx_R45_objects_3  L a1  o16)
def kc45_1  : KontX := (KA (O45 L) L 9 c45 (rl [4, 1, 2, 1]) (KE Tryz.f45 kk))
theorem q45_1  (a1 : api_State)  (o7 : Nat × Tu1) : kX [.exit 0] (sh45_1 a1) (kc45_1  L kk ) o7 = ob (rx_R45_objects_1  L a1  o7) (kq45 kk) := eE (wx_R45_objects_3  L a1  o7 (fun r8 => hq (le45_2 L (KA (O45 L) L 9 c45 (rl [8, 1, 2, 1]) (KE Tryz.f45 kk)) a1 L (r8, 0)) fun o16 => wx_R45_objects_5  L a1  o16 (fun r17 => hq (le45_4 L (KA (O45 L) L 9 c45 (rl [12, 1, 2, 1]) (KE Tryz.f45 kk)) a1 L (r17, 0)) fun o22 => wx_R45_objects_6  L a1  o22 (fun r23 => hq (le45_6 L (KA (O45 L) L 9 c45 (rl [16, 1, 2, 1]) (KE Tryz.f45 kk)) a1 L (r23, 0)) fun o25 => rx_R45_objects_6  L   o25))))
def wx_R45_objects_1 [An A (List Int)]  (a0 : (List Int)) (a1 : api_State)   (nx1 : (List Int) → A) : A :=
 (bd (F_R06_PutInt L a0 (a1.Resources.length : Int)) fun r1 =>
 (nx1 r1))
def T_R45_objects [An A (List Int)]  (a0 : (List Int)) (a1 : api_State)   : A := wx_R45_objects_1  L a0 a1   (fun r1 => bd (lp_R45_objects_1 L a1 L r1 0) fun o7 => rx_R45_objects_1  L a1  o7)
def F_R45_objects  (a0 : (List Int)) (a1 : api_State) : Option (List Int) := T_R45_objects L a0 a1
def X45 : EnP := E2 (fun (x : (List Int)) => lv (.t5 x)) 45 cl5 ca_api_State (F_R45_objects L) fun a0 a1 r h => hF Tryz.func45 (C := O45 L) (oS _) L (fun kk => eE (wx_R45_objects_1  L a0 a1   (fun r1 => ho (le45_1 L (kc45_1  L kk ) a1 L (r1, 0)) fun o7 => q45_1  L kk a1  o7))) h
/-! ### simulator/simulatorref45.statistics -/
def c44 := CC Tryz.f44
def O44 : Oracle := oL [X40 L, X42 L, X43 L, X92 L]
def kq44 : (List Int) → Prop := fun x => kk ((fun (x : (List Int)) => lv (.t5 x)) x)
def sh44_1 (a1 : api_State) (v : Tu1) : St := ⟨[(0, lv (.t5 v.1)), (1, .any), (3, .loc 3 0), (4, .lst true (.t5 [])), (5, I v.2), (7, .any), (8, .any), (9, .any), (10, .any)], [(3, (enapi_State a1))], 0⟩
def lb_R45_statistics_1 [An A (Nat × Tu1)]  (a1 : api_State) (rec : List Int → Int → A) (v1_0 : List Int) (v1_2 : Int) : A :=
 (lw v1_2 a1.Streams
 (bd (F_R45_bit L ((gD a1.Streams v1_2).Anti)) fun r2 =>
 (bd (F_R45_ints L v1_0 [(w64 ((Int.fdiv ((gD a1.Streams v1_2).Key) (2 ^ 32)))), (w64 ((IntKind.wrap .u64 (((BitVec.ofInt 64 ((gD a1.Streams v1_2).Key) &&& BitVec.ofInt 64 4294967295).toNat : Int))))), (gD a1.Streams v1_2).Pos, r2]) fun r3 =>
 (rec r3 (w64 (v1_2 + 1)))))
 (lf (0, (v1_0, v1_2))))
def lp_R45_statistics_1  (L : Nat) (a1 : api_State) : Nat → List Int → Int → Option (Nat × Tu1)
  | 0, _, _ => none
  | n + 1, v1_0, v1_2 => lb_R45_statistics_1  L a1 (lp_R45_statistics_1  L a1 n) v1_0 v1_2
theorem le44_1  (a1 : api_State) : LP (EV (O44 L) L 9 c44.w.l.u.l.l) [0, 1, 3, 4, 5, 7, 8, 9, 10] [3] (sh44_1 a1) [.exit 0] (fun n v => lp_R45_statistics_1  L a1 n v.1 v.2) K := lE (fun _ => rfl) fun n v ih => eE (lb_R45_statistics_1  L a1 (fun v1_0 v1_2 => re (ih (v1_0, v1_2))) v.1 v.2)
def sh44_2 (a1 : api_State) (v : Tu1) : St := ⟨[(0, lv (.t5 v.1)), (1, .any), (3, .loc 3 0), (4, .lst true (.t5 [])), (5, .any), (6, .any), (7, I v.2), (9, .any), (10, .any)], [(3, (enapi_State a1))], 0⟩
def lb_R45_statistics_2 [An A (Nat × Tu1)]  (a1 : api_State) (rec : List Int → Int → A) (v2_0 : List Int) (v2_2 : Int) : A :=
 (lw v2_2 a1.Tallies
 (bd (F_R45_ints L v2_0 [(gD a1.Tallies v2_2).N, (gD a1.Tallies v2_2).Sum, (gD a1.Tallies v2_2).Squares, (gD a1.Tallies v2_2).Min, (gD a1.Tallies v2_2).Max]) fun r6 =>
 (rec r6 (w64 (v2_2 + 1))))
 (lf (0, (v2_0, v2_2))))
def lp_R45_statistics_2  (L : Nat) (a1 : api_State) : Nat → List Int → Int → Option (Nat × Tu1)
  | 0, _, _ => none
  | n + 1, v2_0, v2_2 => lb_R45_statistics_2  L a1 (lp_R45_statistics_2  L a1 n) v2_0 v2_2
theorem le44_2  (a1 : api_State) : LP (EV (O44 L) L 9 c44.x.l.u.l.l) [0, 1, 3, 4, 5, 6, 7, 9, 10] [3] (sh44_2 a1) [.exit 2] (fun n v => lp_R45_statistics_2  L a1 n v.1 v.2) K := lE (fun _ => rfl) fun n v ih => eE (lb_R45_statistics_2  L a1 (fun v2_0 v2_2 => re (ih (v2_0, v2_2))) v.1 v.2)
def sh44_3 (a1 : api_State) (v : Tu1) : St := ⟨[(0, lv (.t5 v.1)), (1, .any), (3, .loc 3 0), (4, .lst true (.t5 [])), (5, .any), (6, .any), (7, .any), (8, .any), (9, I v.2)], [(3, (enapi_State a1))], 0⟩
def lb_R45_statistics_3 [An A (Nat × Tu1)]  (a1 : api_State) (rec : List Int → Int → A) (v3_0 : List Int) (v3_2 : Int) : A :=
 (lw v3_2 a1.Levels
 (bd (F_R45_ints L v3_0 [(gD a1.Levels v3_2).Value, (gD a1.Levels v3_2).Since, (gD a1.Levels v3_2).Begin, (gD a1.Levels v3_2).Area, (gD a1.Levels v3_2).Min, (gD a1.Levels v3_2).Max]) fun r9 =>
 (rec r9 (w64 (v3_2 + 1))))
 (lf (0, (v3_0, v3_2))))
def lp_R45_statistics_3  (L : Nat) (a1 : api_State) : Nat → List Int → Int → Option (Nat × Tu1)
  | 0, _, _ => none
  | n + 1, v3_0, v3_2 => lb_R45_statistics_3  L a1 (lp_R45_statistics_3  L a1 n) v3_0 v3_2
theorem le44_3  (a1 : api_State) : LP (EV (O44 L) L 9 c44.x.w.l.u.l.l) [0, 1, 3, 4, 5, 6, 7, 8, 9] [3] (sh44_3 a1) [.exit 4] (fun n v => lp_R45_statistics_3  L a1 n v.1 v.2) K := lE (fun _ => rfl) fun n v ih => eE (lb_R45_statistics_3  L a1 (fun v3_0 v3_2 => re (ih (v3_0, v3_2))) v.1 v.2)
def rx_R45_statistics_3 [An A (List Int)]  (a1 : api_State)  (o10 : Nat × Tu1) : A :=
 (sl o10.1 [(bd (F_R06_PutInts L o10.2.1 a1.Counts) fun r11 =>
 (bd (F_R06_PutInts L r11 a1.Created) fun r12 =>
 (bd (F_R06_PutInts L r12 a1.Ended) fun r13 =>
 (bd (F_R06_PutInt L r13 a1.Dropped) fun r14 =>
 (lf r14)))))])
def wx_R45_statistics_3 [An A (List Int)]  (a1 : api_State)  (o7 : Nat × Tu1) (nx3 : (List Int) → A) : A :=
 (sl o7.1 [(bd (F_R06_PutInt L o7.2.1 (a1.Levels.length : Int)) fun r8 =>
 (nx3 r8))])
def rx_R45_statistics_2 [An A (List Int)]  (a1 : api_State)  (o7 : Nat × Tu1) : A := wx_R45_statistics_3  L a1  o7 (fun r8 => bd (lp_R45_statistics_3 L a1 L r8 0) fun o10 => rx_R45_statistics_3  L a1  o10)
def wx_R45_statistics_2 [An A (List Int)]  (a1 : api_State)  (o4 : Nat × Tu1) (nx2 : (List Int) → A) : A :=
 (sl o4.1 [(bd (F_R06_PutInt L o4.2.1 (a1.Tallies.length : Int)) fun r5 =>
 (nx2 r5))])
def rx_R45_statistics_1 [An A (List Int)]  (a1 : api_State)  (o4 : Nat × Tu1) : A := wx_R45_statistics_2  L a1  o4 (fun r5 => bd (lp_R45_statistics_2 L a1 L r5 0) fun o7 => rx_R45_statistics_2  L a1  o7)
def kc44_1  : KontX := (KA (O44 L) L 9 c44 (rl [4, 1, 2, 1]) (KE Tryz.f44 kk))
theorem q44_1  (a1 : api_State)  (o4 : Nat × Tu1) : kX [.exit 0] (sh44_1 a1) (kc44_1  L kk ) o4 = ob (rx_R45_statistics_1  L a1  o4) (kq44 kk) := eE (wx_R45_statistics_2  L a1  o4 (fun r5 => hq (le44_2 L (KA (O44 L) L 9 c44 (rl [8, 1, 2, 1]) (KE Tryz.f44 kk)) a1 L (r5, 0)) fun o7 => wx_R45_statistics_3  L a1  o7 (fun r8 => hq (le44_3 L (KA (O44 L) L 9 c44 (rl [12, 1, 2, 1]) (KE Tryz.f44 kk)) a1 L (r8, 0)) fun o10 => rx_R45_statistics_3  L a1  o10)))
def wx_R45_statistics_1 [An A (List Int)]  (a0 : (List Int)) (a1 : api_State)   (nx1 : (List Int) → A) : A :=
 (bd (F_R06_PutInt L a0 (a1.Streams.length : Int)) fun r1 =>
 (nx1 r1))
def T_R45_statistics [An A (List Int)]  (a0 : (List Int)) (a1 : api_State)   : A := wx_R45_statistics_1  L a0 a1   (fun r1 => bd (lp_R45_statistics_1 L a1 L r1 0) fun o4 => rx_R45_statistics_1  L a1  o4)
def F_R45_statistics  (a0 : (List Int)) (a1 : api_State) : Option (List Int) := T_R45_statistics L a0 a1
def X44 : EnP := E2 (fun (x : (List Int)) => lv (.t5 x)) 44 cl5 ca_api_State (F_R45_statistics L) fun a0 a1 r h => hF Tryz.func44 (C := O44 L) (oS _) L (fun kk => eE (wx_R45_statistics_1  L a0 a1   (fun r1 => ho (le44_1 L (kc44_1  L kk ) a1 L (r1, 0)) fun o4 => q44_1  L kk a1  o4))) h
/-! ### simulator/simulatorref45.Body -/
def c23 := CC Tryz.f23
def O23 : Oracle := oL [X40 L, X41 L, X42 L, X43 L, X44 L, X45 L]
def sh23_1 (a0 : api_World) (v : Tu1) : St := ⟨[(0, .any), (1, .loc 1 0), (2, .lst true (.t5 [])), (3, lv (.t5 v.1)), (4, I v.2)], [(1, [lv (.t38 a0.Sites)])], 0⟩
def lb_R45_Body_1 [An A (Nat × Tu1)]  (a0 : api_World) (rec : List Int → Int → A) (v1_1 : List Int) (v1_2 : Int) : A :=
 (lw v1_2 a0.Sites
 (bd (F_R45_ints L v1_1 [(gD a0.Sites v1_2).Site, (gD a0.Sites v1_2).Now, (gD a0.Sites v1_2).Seq]) fun r2 =>
 (bd (F_R45_dynamic L r2 (gD a0.Sites v1_2)) fun r3 =>
 (bd (F_R06_PutInt L r3 ((gD a0.Sites v1_2).NextProc)) fun r4 =>
 (bd (F_R06_PutInts L r4 ((gD a0.Sites v1_2).Vars)) fun r5 =>
 (bd (F_R45_objects L r5 (gD a0.Sites v1_2)) fun r6 =>
 (bd (F_R45_statistics L r6 (gD a0.Sites v1_2)) fun r7 =>
 (rec r7 (w64 (v1_2 + 1)))))))))
 (lf (0, (v1_1, v1_2))))
def lp_R45_Body_1  (L : Nat) (a0 : api_World) : Nat → List Int → Int → Option (Nat × Tu1)
  | 0, _, _ => none
  | n + 1, v1_1, v1_2 => lb_R45_Body_1  L a0 (lp_R45_Body_1  L a0 n) v1_1 v1_2
theorem le23_1  (a0 : api_World) : LP (EV (O23 L) L 9 c23.w.l.u.l.l) [0, 1, 2, 3, 4] [1] (sh23_1 a0) [.exit 0] (fun n v => lp_R45_Body_1  L a0 n v.1 v.2) K := lE (fun _ => rfl) fun n v ih => eE (lb_R45_Body_1  L a0 (fun v1_1 v1_2 => re (ih (v1_1, v1_2))) v.1 v.2)
def rx_R45_Body_1 [An A (List Int)]  (L : Nat)   (o8 : Nat × Tu1) : A :=
 (sl o8.1 [(lf o8.2.1)])
def wx_R45_Body_1 [An A (List Int)]  (a0 : api_World)   (nx1 : (List Int) → A) : A :=
 (bd (F_R06_PutInt L [] (a0.Sites.length : Int)) fun r1 =>
 (nx1 r1))
def T_R45_Body [An A (List Int)]  (a0 : api_World)   : A := wx_R45_Body_1  L a0   (fun r1 => bd (lp_R45_Body_1 L a0 L r1 0) fun o8 => rx_R45_Body_1  L   o8)
def F_R45_Body  (a0 : api_World) : Option (List Int) := T_R45_Body L a0
def X23 : EnP := E1 (fun (x : (List Int)) => lv (.t5 x)) 23 ca_api_World (F_R45_Body L) fun a0 r h => hF Tryz.func23 (C := O23 L) (oS _) L (fun kk => eE (wx_R45_Body_1  L a0   (fun r1 => hq (le23_1 L (KA (O23 L) L 9 c23 (rl [4, 1, 2, 1]) (KE Tryz.f23 kk)) a0 L (r1, 0)) fun o8 => rx_R45_Body_1  L   o8))) h
/-! ### simulator/simulatorref06.Sum -/
def c25 := CC Tryz.f25
def O25 (L : Nat) : Oracle := oL []
def sh25_2 (a0 : (List Int)) (v1_3 : Int) (v : (Int × Int)) : St := ⟨[(0, lv (.t5 a0)), (2, I 0), (3, V .u32 v.1), (4, I v1_3), (5, I v.2)], [], 0⟩
def lb_R06_Sum_2 [An A (Nat × (Int × Int))]  (L : Nat) (a0 : (List Int)) (v1_3 : Int) (rec : Int → Int → A) (v2_2 : Int) (v2_4 : Int) : A :=
 (cn (decide (v2_4 < 8))
 (cn ((Int.tmod v2_2 2) == 1)
 (rec (IntKind.wrap .u32 (((BitVec.ofInt 32 (IntKind.wrap .u32 (Int.tdiv v2_2 2)) ^^^ BitVec.ofInt 32 2197175160).toNat : Int))) (w64 (v2_4 + 1)))
 (rec (IntKind.wrap .u32 (Int.tdiv v2_2 2)) (w64 (v2_4 + 1))))
 (lf (0, (v2_2, v2_4))))
def lp_R06_Sum_2  (L : Nat) (a0 : (List Int)) (v1_3 : Int) : Nat → Int → Int → Option (Nat × (Int × Int))
  | 0, _, _ => none
  | n + 1, v2_2, v2_4 => lb_R06_Sum_2  L a0 v1_3 (lp_R06_Sum_2  L a0 v1_3 n) v2_2 v2_4
theorem le25_2  (a0 : (List Int)) (v1_3 : Int) : LP (EV (O25 L) L 9 c25.w.l.u.l.l.u.l.l.w.l.l) [0, 2, 3, 4, 5] [] (sh25_2 a0 v1_3) [.exit 2] (fun n v => lp_R06_Sum_2  L a0 v1_3 n v.1 v.2) K := lE (fun _ => rfl) fun n v ih => eE (lb_R06_Sum_2  L a0 v1_3 (fun v2_2 v2_4 => re (ih (v2_2, v2_4))) v.1 v.2)
def sh25_1 (a0 : (List Int)) (v : (Int × Int)) : St := ⟨[(0, lv (.t5 a0)), (2, I 0), (3, V .u32 v.1), (4, I v.2)], [], 0⟩
def rx_R06_Sum_1 [An A (Nat × (Int × Int))]  (L : Nat) (v1_3 : Int) (rec : Int → Int → A) (o1 : Nat × (Int × Int)) : A :=
 (sl o1.1 [(rec o1.2.1 (w64 (v1_3 + 1)))])
def wx_R06_Sum_1 [An A (Nat × (Int × Int))]  (L : Nat) (a0 : (List Int)) (rec : Int → Int → A) (v1_2 : Int) (v1_3 : Int) (nx1 : Int → Int → A) : A :=
 (lw v1_3 a0
 (nx1 v1_3 v1_2)
 (lf (0, (v1_2, v1_3))))
def lb_R06_Sum_1 [An A (Nat × (Int × Int))]  (a0 : (List Int)) (rec : Int → Int → A) (v1_2 : Int) (v1_3 : Int) : A := wx_R06_Sum_1  L a0 rec v1_2 v1_3 (fun v1_3 v1_2 => bd (lp_R06_Sum_2 L a0 v1_3 L (IntKind.wrap .u32 (((BitVec.ofInt 32 v1_2 ^^^ BitVec.ofInt 32 (IntKind.wrap .u32 ((gD a0 v1_3)))).toNat : Int))) 0) fun o1 => rx_R06_Sum_1  L v1_3 rec o1)
def lp_R06_Sum_1  (L : Nat) (a0 : (List Int)) : Nat → Int → Int → Option (Nat × (Int × Int))
  | 0, _, _ => none
  | n + 1, v1_2, v1_3 => lb_R06_Sum_1  L a0 (lp_R06_Sum_1  L a0 n) v1_2 v1_3
theorem le25_1  (a0 : (List Int)) : LP (EV (O25 L) L 9 c25.w.l.u.l.l) [0, 2, 3, 4] [] (sh25_1 a0) [.exit 0] (fun n v => lp_R06_Sum_1  L a0 n v.1 v.2) K := lE (fun _ => rfl) fun n v ih => eE (wx_R06_Sum_1  L a0 (fun v1_2 v1_3 => re (ih (v1_2, v1_3))) v.1 v.2 (fun v1_3 v1_2 => hq (le25_2 L (KA (O25 L) L 9 c25.w.l.u.l.l (rl [2, 2, 4, 1]) (kRound (loopN (EV (O25 L) L 9 c25.w.l.u.l.l) [0, 2, 3, 4] [] n) [0, 2, 3, 4] [] K)) a0 v1_3 L ((IntKind.wrap .u32 (((BitVec.ofInt 32 v1_2 ^^^ BitVec.ofInt 32 (IntKind.wrap .u32 ((gD a0 v1_3)))).toNat : Int))), 0)) fun o1 => rx_R06_Sum_1  L v1_3 (fun v1_2 v1_3 => re (ih (v1_2, v1_3))) o1))
def rx_R06_Sum_2 [An A Int]  (L : Nat)   (o2 : Nat × (Int × Int)) : A :=
 (sl o2.1 [(lf (w64 ((IntKind.wrap .u32 (((BitVec.ofInt 32 o2.2.1 ^^^ BitVec.ofInt 32 4294967295).toNat : Int))))))])
def T_R06_Sum [An A Int]  (a0 : (List Int))   : A := (bd (lp_R06_Sum_1 L a0 L 4294967295 0) fun o2 => rx_R06_Sum_2  L   o2)
def F_R06_Sum  (a0 : (List Int)) : Option Int := T_R06_Sum L a0
def X25 : EnP := E1 I 25 cl5 (F_R06_Sum L) fun a0 r h => hF Tryz.func25 (C := O25 L) (oS _) L (fun kk => eE ((hq (le25_1 L (KA (O25 L) L 9 c25 (rl [4, 1, 2, 1]) (KE Tryz.f25 kk)) a0 L (4294967295, 0)) fun o2 => rx_R06_Sum_2  L   o2))) h
/-! ### simulator/simulatorref45.Sealed -/
def T_R45_Sealed [An A (List Int)]  (a0 : (List Int))   : A :=
 (bd (F_R06_Sum L a0) fun r1 =>
 (gq ((0 + a0.length) * 1 ≤ 140737488355328)
 (gq (0 + a0.length ≤ maxLen)
 (gq ((a0.length + [(IntKind.wrap .u8 (r1)), (IntKind.wrap .u8 ((Int.fdiv r1 (2 ^ 8)))), (IntKind.wrap .u8 ((Int.fdiv r1 (2 ^ 16)))), (IntKind.wrap .u8 ((Int.fdiv r1 (2 ^ 24))))].length) * 1 ≤ 140737488355328)
 (gq (a0.length + [(IntKind.wrap .u8 (r1)), (IntKind.wrap .u8 ((Int.fdiv r1 (2 ^ 8)))), (IntKind.wrap .u8 ((Int.fdiv r1 (2 ^ 16)))), (IntKind.wrap .u8 ((Int.fdiv r1 (2 ^ 24))))].length ≤ maxLen)
 (lf (a0 ++ [(IntKind.wrap .u8 (r1)), (IntKind.wrap .u8 ((Int.fdiv r1 (2 ^ 8)))), (IntKind.wrap .u8 ((Int.fdiv r1 (2 ^ 16)))), (IntKind.wrap .u8 ((Int.fdiv r1 (2 ^ 24))))])))))))
def F_R45_Sealed  (a0 : (List Int)) : Option (List Int) := T_R45_Sealed L a0
def X18 : EnP := E1 (fun (x : (List Int)) => lv (.t5 x)) 18 cl5 (F_R45_Sealed L) fun a0 r h => hF Tryz.func18 (oS [X25 L]) L (fun kk => eE (T_R45_Sealed  L a0  )) h
/-! ### simulator/simulatorref45.Save -/
def T_R45_Save [An A ((List Int) × Int)]  (a0 : api_World)   : A :=
 (cn (decide ((a0.Sites.length : Int) > 16))
 (lf ([], 2))
 (bd (F_R45_Body L (⟨a0.Sites⟩ : api_World)) fun r1 =>
 (bd (F_R45_Sealed L r1) fun r2 =>
 (lf (r2, 0)))))
def F_R45_Save  (a0 : api_World) : Option ((List Int) × Int) := T_R45_Save L a0
def X11 : EnP := E1 (fun (x : ((List Int) × Int)) => .tup [lv (.t5 x.1), I x.2]) 11 ca_api_World (F_R45_Save L) fun a0 r h => hF Tryz.func11 (oS [X18 L, X23 L]) L (fun kk => eE (T_R45_Save  L a0  )) h
end
end Go.Proofs.YtpdlcbmnmeihoaaGreatDoor.Ev
