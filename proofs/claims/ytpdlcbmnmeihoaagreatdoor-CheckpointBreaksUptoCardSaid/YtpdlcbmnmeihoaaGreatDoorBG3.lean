import Derived.Test.YtpdlcbmnmeihoaaGreatDoorBG1
import Derived.Test.YtpdlcbmnmeihoaaGreatDoorBJe
set_option maxRecDepth 100000
set_option maxHeartbeats 4000000
set_option linter.unusedVariables false
set_option linter.unusedSimpArgs false
set_option linter.unnecessarySimpa false
namespace Go.Proofs.YtpdlcbmnmeihoaaGreatDoor.Ev
open Go An
noncomputable section
variable {A : Type} (L n : Nat) (kk : KontV) (K : KontX) (k : KontP)
/-! ### codec.encoded -/
def F_codec_encoded (L : Nat) (a0 : Int) : Option (List Int) := if -9223372036854775808 ≤ a0 ∧ a0 ≤ 9223372036854775807 then some (eB a0) else none
def X144 (L : Nat) : EnP := E1 (fun (x : (List Int)) => lv (.t5 x)) 144 (cI .i64) (F_codec_encoded L) fun a0 r h => by
  unfold F_codec_encoded at h
  split at h
  · rename_i hn
    injection h with h
    subst h
    exact encoded_holds a0 hn.1 hn.2
  · cases h
/-! ### codec.joined -/
def F_codec_joined (L : Nat) (a0 a1 : List Int) : Option (List Int) := if a0.length + a1.length ≤ 1099511627776 then some (a0 ++ a1) else none
def X143 (L : Nat) : EnP := E3 (fun (x : (List Int)) => lv (.t5 x)) 143 cO cl5 cl5 (fun _ a0 a1 => F_codec_joined L a0 a1) fun _ a0 a1 r h => by
  unfold F_codec_joined at h
  split at h
  · rename_i hn
    injection h with h
    subst h
    exact .inr ⟨rfl, joined_own a0 a1 hn⟩
  · cases h
/-! ### simulator/codec.PutInt -/
def T_codec_PutInt [An A (List Int)]  (a0 : (List Int)) (a1 : Int)   : A :=
 (bd (F_codec_encoded L a1) fun r1 =>
 (bd (F_codec_joined L a0 r1) fun r2 =>
 (lf r2)))
def F_codec_PutInt  (a0 : (List Int)) (a1 : Int) : Option (List Int) := T_codec_PutInt L a0 a1
def X87 : EnP := E3 (fun (x : (List Int)) => lv (.t5 x)) 87 cO cl5 (cI .i64) (fun _ a0 a1 => F_codec_PutInt L a0 a1) fun _ a0 a1 r h => hFO Tryz.func87 (oS [X143 L, X144 L]) L (fun kk => eE (T_codec_PutInt  L a0 a1  )) h
/-! ### (*simulator/checkpoint.writer).ints -/
def c38 := CC Tryz.f38
def O38 : Oracle := oL [X87 L]
def sh38_1 (a1 : (List Int)) (v : Tu2) : St := ⟨[(0, .loc 0 0), (1, .any), (6, lv (.t3 a1)), (7, I (a1.length : Int)), (8, I v.1)], [(0, [.lst true (.t5 v.2)])], 1001⟩
def lb_checkpoint_writer_ints_1 [An A (Nat × Tu2)]  (a1 : (List Int)) (rec : Int → List Int → A) (v1_2 : Int) (v1_3 : List Int) : A :=
 (lw v1_2 a1
 (bd (F_codec_PutInt L v1_3 (gD a1 v1_2)) fun r1 =>
 (rec (w64 (v1_2 + 1)) r1))
 (lf (0, (v1_2, v1_3))))
def lp_checkpoint_writer_ints_1  (L : Nat) (a1 : (List Int)) : Nat → Int → List Int → Option (Nat × Tu2)
  | 0, _, _ => none
  | n + 1, v1_2, v1_3 => lb_checkpoint_writer_ints_1  L a1 (lp_checkpoint_writer_ints_1  L a1 n) v1_2 v1_3
theorem le38_1  (a1 : (List Int)) : LP (EV (O38 L) L 9 c38.u.l.l) [0, 1, 6, 7, 8] [0] (sh38_1 a1) [.exit 0] (fun n v => lp_checkpoint_writer_ints_1  L a1 n v.1 v.2) K := lE (fun _ => rfl) fun n v ih => eE (lb_checkpoint_writer_ints_1  L a1 (fun v1_2 v1_3 => re (ih (v1_2, v1_3))) v.1 v.2)
def rx_checkpoint_writer_ints_1 [An A Tu4]  (L : Nat)   (o2 : Nat × Tu2) : A :=
 (sl o2.1 [(lf ((), (⟨o2.2.2⟩ : checkpoint_writer)))])
def T_checkpoint_writer_ints [An A Tu4]  (a0 : checkpoint_writer) (a1 : (List Int))   : A := (bd (lp_checkpoint_writer_ints_1 L a1 L 0 a0.u_b) fun o2 => rx_checkpoint_writer_ints_1  L   o2)
def F_checkpoint_writer_ints  (a0 : checkpoint_writer) (a1 : (List Int)) : Option Tu4 := T_checkpoint_writer_ints L a0 a1
def X38 : EnP := E2 (fun (x : Tu4) => .tup [.tup [], .agg [.lst true (.t5 x.2.u_b)]]) 38 ct_checkpoint_writer cl3 (F_checkpoint_writer_ints L) fun a0 a1 r h => hFS Tryz.func38 (C := O38 L) (oS _) L (fun kk => eE ((hq (le38_1 L (KA (O38 L) L 9 c38 (rl [2, 1]) (KJ Tryz.f38 (kSt [.lst true (.t5 a0.u_b)] kk))) a1 L (0, a0.u_b)) fun o2 => rx_checkpoint_writer_ints_1  L   o2))) h
/-! ### codec.PutInts -/
def F_codec_PutInts (L : Nat) (a0 a1 : List Int) : Option (List Int) := if a0.length + 10 * (a1.length + 1) ≤ 1099511627776 ∧ ∀ x ∈ a1, -9223372036854775808 ≤ x ∧ x ≤ 9223372036854775807 then some (a0 ++ zB a1 a1.length) else none
def X145 (L : Nat) : EnP := E3 (fun (x : (List Int)) => lv (.t5 x)) 145 cO cl5 cl3 (fun _ a0 a1 => F_codec_PutInts L a0 a1) fun _ a0 a1 r h => by
  unfold F_codec_PutInts at h
  split at h
  · rename_i hn
    injection h with h
    subst h
    exact .inr ⟨rfl, PutInts_own a0 a1 hn.1 hn.2⟩
  · cases h
/-! ### (*simulator/checkpoint.writer).list -/
def T_checkpoint_writer_list [An A Tu4]  (a0 : checkpoint_writer) (a1 : (List Int))   : A :=
 (bd (F_codec_PutInts L a0.u_b a1) fun r1 =>
 (lf ((), (⟨r1⟩ : checkpoint_writer))))
def F_checkpoint_writer_list  (a0 : checkpoint_writer) (a1 : (List Int)) : Option Tu4 := T_checkpoint_writer_list L a0 a1
def X88 : EnP := E2 (fun (x : Tu4) => .tup [.tup [], .agg [.lst true (.t5 x.2.u_b)]]) 88 ct_checkpoint_writer cl3 (F_checkpoint_writer_list L) fun a0 a1 r h => hFS Tryz.func88 (oS [X145 L]) L (fun kk => eE (T_checkpoint_writer_list  L a0 a1  )) h
/-! ### simulator/checkpoint.bit -/
def T_checkpoint_bit [An A Int]  (L : Nat) (a0 : Bool)   : A :=
 (cn a0
 (lf 1)
 (lf 0))
def F_checkpoint_bit  (a0 : Bool) : Option Int := T_checkpoint_bit L a0
def X89 : EnP := E1 I 89 cB (F_checkpoint_bit L) fun a0 r h => hF Tryz.func89 (oS []) L (fun kk => eE (T_checkpoint_bit  L a0  )) h
/-! ### (*simulator/checkpoint.writer).claims -/
def c90 := CC Tryz.f90
def O90 : Oracle := oL [X38 L, X89 L]
def sh90_1 (a1 : (List api_Claim)) (v : Tu2) : St := ⟨[(0, .loc 0 0), (1, .any), (11, lv (.t190 a1)), (12, I (a1.length : Int)), (13, I v.1)], [(0, [.lst true (.t5 v.2)])], 1001⟩
def lb_checkpoint_writer_claims_1 [An A (Nat × Tu2)]  (a1 : (List api_Claim)) (rec : Int → List Int → A) (v1_2 : Int) (v1_3 : List Int) : A :=
 (lw v1_2 a1
 (bd (F_checkpoint_bit L ((gD a1 v1_2).Preempt)) fun r2 =>
 (bd (F_checkpoint_writer_ints L (⟨v1_3⟩ : checkpoint_writer) [(gD a1 v1_2).Proc, (gD a1 v1_2).Units, (gD a1 v1_2).Prio, (gD a1 v1_2).Seq, r2]) fun r3 =>
 (rec (w64 (v1_2 + 1)) r3.2.u_b)))
 (lf (0, (v1_2, v1_3))))
def lp_checkpoint_writer_claims_1  (L : Nat) (a1 : (List api_Claim)) : Nat → Int → List Int → Option (Nat × Tu2)
  | 0, _, _ => none
  | n + 1, v1_2, v1_3 => lb_checkpoint_writer_claims_1  L a1 (lp_checkpoint_writer_claims_1  L a1 n) v1_2 v1_3
theorem le90_1  (a1 : (List api_Claim)) : LP (EV (O90 L) L 9 c90.w.l.l) [0, 1, 11, 12, 13] [0] (sh90_1 a1) [.exit 0] (fun n v => lp_checkpoint_writer_claims_1  L a1 n v.1 v.2) K := lE (fun _ => rfl) fun n v ih => eE (lb_checkpoint_writer_claims_1  L a1 (fun v1_2 v1_3 => re (ih (v1_2, v1_3))) v.1 v.2)
def rx_checkpoint_writer_claims_1 [An A Tu4]  (L : Nat)   (o4 : Nat × Tu2) : A :=
 (sl o4.1 [(lf ((), (⟨o4.2.2⟩ : checkpoint_writer)))])
def wx_checkpoint_writer_claims_1 [An A Tu4]  (a0 : checkpoint_writer) (a1 : (List api_Claim))   (nx1 : Tu4 → A) : A :=
 (bd (F_checkpoint_writer_ints L (⟨a0.u_b⟩ : checkpoint_writer) [(a1.length : Int)]) fun r1 =>
 (nx1 r1))
def T_checkpoint_writer_claims [An A Tu4]  (a0 : checkpoint_writer) (a1 : (List api_Claim))   : A := wx_checkpoint_writer_claims_1  L a0 a1   (fun r1 => bd (lp_checkpoint_writer_claims_1 L a1 L 0 r1.2.u_b) fun o4 => rx_checkpoint_writer_claims_1  L   o4)
def F_checkpoint_writer_claims  (a0 : checkpoint_writer) (a1 : (List api_Claim)) : Option Tu4 := T_checkpoint_writer_claims L a0 a1
def X90 : EnP := E2 (fun (x : Tu4) => .tup [.tup [], .agg [.lst true (.t5 x.2.u_b)]]) 90 ct_checkpoint_writer cl190 (F_checkpoint_writer_claims L) fun a0 a1 r h => hFS Tryz.func90 (C := O90 L) (oS _) L (fun kk => eE (wx_checkpoint_writer_claims_1  L a0 a1   (fun r1 => hq (le90_1 L (KA (O90 L) L 9 c90 (rl [4, 1]) (KJ Tryz.f90 (kSt [.lst true (.t5 a0.u_b)] kk))) a1 L (0, r1.2.u_b)) fun o4 => rx_checkpoint_writer_claims_1  L   o4))) h
/-! ### (*simulator/checkpoint.writer).state -/
def c39 := CC Tryz.f39
def O39 : Oracle := oL [X38 L, X88 L, X89 L, X90 L]
def kq39 : Tu4 → Prop := fun x => kk ((fun (x : Tu4) => .tup [.tup [], .agg [.lst true (.t5 x.2.u_b)]]) x)
def sh39_1 (a1 : api_State) (v : Tu2) : St := ⟨[(0, .loc 0 0), (1, .any), (3, .loc 1004 0), (7, .any), (9, .any), (11, .any), (13, .any), (15, .any), (17, .any), (19, .any), (21, .any), (23, .any), (25, .any), (39, lv (.t125 a1.Agenda)), (40, I (a1.Agenda.length : Int)), (41, I v.1), (78, .any), (123, .any), (158, .any), (182, .any), (215, .any), (232, .any), (261, .any), (278, .any), (308, .any), (335, .any)], [(0, [.lst true (.t5 v.2)]), (1004, (enapi_State a1))], 1001⟩
def lb_checkpoint_writer_state_1 [An A (Nat × Tu2)]  (a1 : api_State) (rec : Int → List Int → A) (v1_2 : Int) (v1_3 : List Int) : A :=
 (lw v1_2 a1.Agenda
 (bd (F_checkpoint_writer_ints L (⟨v1_3⟩ : checkpoint_writer) [(gD a1.Agenda v1_2).Time, (gD a1.Agenda v1_2).Prio, (gD a1.Agenda v1_2).From, (gD a1.Agenda v1_2).Seq, (gD a1.Agenda v1_2).Site, (gD a1.Agenda v1_2).Kind, (gD a1.Agenda v1_2).A, (gD a1.Agenda v1_2).B]) fun r2 =>
 (bd (F_checkpoint_writer_list L (⟨r2.2.u_b⟩ : checkpoint_writer) ((gD a1.Agenda v1_2).Args)) fun r3 =>
 (rec (w64 (v1_2 + 1)) r3.2.u_b)))
 (lf (0, (v1_2, v1_3))))
def lp_checkpoint_writer_state_1  (L : Nat) (a1 : api_State) : Nat → Int → List Int → Option (Nat × Tu2)
  | 0, _, _ => none
  | n + 1, v1_2, v1_3 => lb_checkpoint_writer_state_1  L a1 (lp_checkpoint_writer_state_1  L a1 n) v1_2 v1_3
theorem le39_1  (a1 : api_State) : LP (EV (O39 L) L 9 c39.w.l.u.l.l) [0, 1, 3, 7, 9, 11, 13, 15, 17, 19, 21, 23, 25, 39, 40, 41, 78, 123, 158, 182, 215, 232, 261, 278, 308, 335] [0, 1004] (sh39_1 a1) [.exit 0] (fun n v => lp_checkpoint_writer_state_1  L a1 n v.1 v.2) K := lE (fun _ => rfl) fun n v ih => eE (lb_checkpoint_writer_state_1  L a1 (fun v1_2 v1_3 => re (ih (v1_2, v1_3))) v.1 v.2)
def sh39_2 (a1 : api_State) (v : Tu2) : St := ⟨[(0, .loc 0 0), (1, .any), (3, .loc 1004 0), (5, .any), (9, .any), (11, .any), (13, .any), (15, .any), (17, .any), (19, .any), (21, .any), (23, .any), (25, .any), (41, .any), (76, lv (.t131 a1.Procs)), (77, I (a1.Procs.length : Int)), (78, I v.1), (123, .any), (158, .any), (182, .any), (215, .any), (232, .any), (261, .any), (278, .any), (308, .any), (335, .any)], [(0, [.lst true (.t5 v.2)]), (1004, (enapi_State a1))], 1001⟩
def lb_checkpoint_writer_state_2 [An A (Nat × Tu2)]  (a1 : api_State) (rec : Int → List Int → A) (v2_2 : Int) (v2_3 : List Int) : A :=
 (lw v2_2 a1.Procs
 (bd (F_checkpoint_writer_ints L (⟨v2_3⟩ : checkpoint_writer) [(gD a1.Procs v2_2).Id, (gD a1.Procs v2_2).Routine, (gD a1.Procs v2_2).Pc]) fun r6 =>
 (bd (F_checkpoint_writer_list L (⟨r6.2.u_b⟩ : checkpoint_writer) ((gD a1.Procs v2_2).Slots)) fun r7 =>
 (bd (F_checkpoint_writer_ints L (⟨r7.2.u_b⟩ : checkpoint_writer) [(gD a1.Procs v2_2).Status, (gD a1.Procs v2_2).Born, (gD a1.Procs v2_2).Left]) fun r8 =>
 (rec (w64 (v2_2 + 1)) r8.2.u_b))))
 (lf (0, (v2_2, v2_3))))
def lp_checkpoint_writer_state_2  (L : Nat) (a1 : api_State) : Nat → Int → List Int → Option (Nat × Tu2)
  | 0, _, _ => none
  | n + 1, v2_2, v2_3 => lb_checkpoint_writer_state_2  L a1 (lp_checkpoint_writer_state_2  L a1 n) v2_2 v2_3
theorem le39_2  (a1 : api_State) : LP (EV (O39 L) L 9 c39.x.l.u.l.l) [0, 1, 3, 5, 9, 11, 13, 15, 17, 19, 21, 23, 25, 41, 76, 77, 78, 123, 158, 182, 215, 232, 261, 278, 308, 335] [0, 1004] (sh39_2 a1) [.exit 2] (fun n v => lp_checkpoint_writer_state_2  L a1 n v.1 v.2) K := lE (fun _ => rfl) fun n v ih => eE (lb_checkpoint_writer_state_2  L a1 (fun v2_2 v2_3 => re (ih (v2_2, v2_3))) v.1 v.2)
def sh39_3 (a1 : api_State) (v : Tu2) : St := ⟨[(0, .loc 0 0), (1, .any), (3, .loc 1004 0), (5, .any), (7, .any), (11, .any), (13, .any), (15, .any), (17, .any), (19, .any), (21, .any), (23, .any), (25, .any), (41, .any), (78, .any), (121, lv (.t61 a1.Resources)), (122, I (a1.Resources.length : Int)), (123, I v.1), (158, .any), (182, .any), (215, .any), (232, .any), (261, .any), (278, .any), (308, .any), (335, .any)], [(0, [.lst true (.t5 v.2)]), (1004, (enapi_State a1))], 1001⟩
def lb_checkpoint_writer_state_3 [An A (Nat × Tu2)]  (a1 : api_State) (rec : Int → List Int → A) (v3_2 : Int) (v3_3 : List Int) : A :=
 (lw v3_2 a1.Resources
 (bd (F_checkpoint_bit L ((gD a1.Resources v3_2).Down)) fun r13 =>
 (bd (F_checkpoint_writer_ints L (⟨v3_3⟩ : checkpoint_writer) [(gD a1.Resources v3_2).Units, r13]) fun r14 =>
 (bd (F_checkpoint_writer_claims L (⟨r14.2.u_b⟩ : checkpoint_writer) ((gD a1.Resources v3_2).Holders)) fun r15 =>
 (bd (F_checkpoint_writer_claims L (⟨r15.2.u_b⟩ : checkpoint_writer) ((gD a1.Resources v3_2).Queue)) fun r16 =>
 (bd (F_checkpoint_writer_ints L (⟨r16.2.u_b⟩ : checkpoint_writer) [(gD a1.Resources v3_2).Next]) fun r17 =>
 (rec (w64 (v3_2 + 1)) r17.2.u_b))))))
 (lf (0, (v3_2, v3_3))))
def lp_checkpoint_writer_state_3  (L : Nat) (a1 : api_State) : Nat → Int → List Int → Option (Nat × Tu2)
  | 0, _, _ => none
  | n + 1, v3_2, v3_3 => lb_checkpoint_writer_state_3  L a1 (lp_checkpoint_writer_state_3  L a1 n) v3_2 v3_3
theorem le39_3  (a1 : api_State) : LP (EV (O39 L) L 9 c39.x.x.l.u.l.l) [0, 1, 3, 5, 7, 11, 13, 15, 17, 19, 21, 23, 25, 41, 78, 121, 122, 123, 158, 182, 215, 232, 261, 278, 308, 335] [0, 1004] (sh39_3 a1) [.exit 4] (fun n v => lp_checkpoint_writer_state_3  L a1 n v.1 v.2) K := lE (fun _ => rfl) fun n v ih => eE (lb_checkpoint_writer_state_3  L a1 (fun v3_2 v3_3 => re (ih (v3_2, v3_3))) v.1 v.2)
def sh39_5 (a1 : api_State) (v4_2 : Int) (v : Tu2) : St := ⟨[(0, .loc 0 0), (1, .any), (3, .loc 1004 0), (5, .any), (7, .any), (9, .any), (11, .loc 1012 0), (15, .any), (17, .any), (19, .any), (21, .any), (23, .any), (25, .any), (41, .any), (78, .any), (123, .any), (156, lv (.t65 a1.Stores)), (157, I (a1.Stores.length : Int)), (158, I v4_2), (180, lv (.t179 ((gD a1.Stores v4_2).Putters))), (181, I (((gD a1.Stores v4_2).Putters).length : Int)), (182, I v.1), (215, .any), (232, .any), (261, .any), (278, .any), (308, .any), (335, .any)], [(0, [.lst true (.t5 v.2)]), (1004, (enapi_State a1)), (1012, (enapi_Store (gD a1.Stores v4_2)))], 1001⟩
def lb_checkpoint_writer_state_5 [An A (Nat × Tu2)]  (a1 : api_State) (v4_2 : Int) (rec : Int → List Int → A) (v5_5 : Int) (v5_6 : List Int) : A :=
 (lw v5_5 ((gD a1.Stores v4_2).Putters)
 (bd (F_checkpoint_writer_ints L (⟨v5_6⟩ : checkpoint_writer) [(gD ((gD a1.Stores v4_2).Putters) v5_5).Proc, (gD ((gD a1.Stores v4_2).Putters) v5_5).Item]) fun r23 =>
 (rec (w64 (v5_5 + 1)) r23.2.u_b))
 (lf (0, (v5_5, v5_6))))
def lp_checkpoint_writer_state_5  (L : Nat) (a1 : api_State) (v4_2 : Int) : Nat → Int → List Int → Option (Nat × Tu2)
  | 0, _, _ => none
  | n + 1, v5_5, v5_6 => lb_checkpoint_writer_state_5  L a1 v4_2 (lp_checkpoint_writer_state_5  L a1 v4_2 n) v5_5 v5_6
theorem le39_5  (a1 : api_State) (v4_2 : Int) : LP (EV (O39 L) L 9 c39.x.x.w.l.u.l.l.w.l.l.x.l.u.l.l) [0, 1, 3, 5, 7, 9, 11, 15, 17, 19, 21, 23, 25, 41, 78, 123, 156, 157, 158, 180, 181, 182, 215, 232, 261, 278, 308, 335] [0, 1004, 1012] (sh39_5 a1 v4_2) [.exit 8] (fun n v => lp_checkpoint_writer_state_5  L a1 v4_2 n v.1 v.2) K := lE (fun _ => rfl) fun n v ih => eE (lb_checkpoint_writer_state_5  L a1 v4_2 (fun v5_5 v5_6 => re (ih (v5_5, v5_6))) v.1 v.2)
def sh39_4 (a1 : api_State) (v : Tu2) : St := ⟨[(0, .loc 0 0), (1, .any), (3, .loc 1004 0), (5, .any), (7, .any), (9, .any), (15, .any), (17, .any), (19, .any), (21, .any), (23, .any), (25, .any), (41, .any), (78, .any), (123, .any), (156, lv (.t65 a1.Stores)), (157, I (a1.Stores.length : Int)), (158, I v.1), (215, .any), (232, .any), (261, .any), (278, .any), (308, .any), (335, .any)], [(0, [.lst true (.t5 v.2)]), (1004, (enapi_State a1))], 1001⟩
def rx_checkpoint_writer_state_4 [An A (Nat × Tu2)]  (a1 : api_State) (v4_2 : Int) (rec : Int → List Int → A) (o24 : Nat × Tu2) : A :=
 (sl o24.1 [(bd (F_checkpoint_writer_list L (⟨o24.2.2⟩ : checkpoint_writer) ((gD a1.Stores v4_2).Getters)) fun r25 =>
 (bd (F_checkpoint_writer_ints L (⟨r25.2.u_b⟩ : checkpoint_writer) [(gD a1.Stores v4_2).In, (gD a1.Stores v4_2).Out]) fun r26 =>
 (rec (w64 (v4_2 + 1)) r26.2.u_b)))])
def wx_checkpoint_writer_state_4 [An A (Nat × Tu2)]  (a1 : api_State) (rec : Int → List Int → A) (v4_2 : Int) (v4_3 : List Int) (nx4 : Int → Tu4 → A) : A :=
 (lw v4_2 a1.Stores
 (bd (F_checkpoint_writer_ints L (⟨v4_3⟩ : checkpoint_writer) [(gD a1.Stores v4_2).Room, (gD a1.Stores v4_2).Policy]) fun r20 =>
 (bd (F_checkpoint_writer_list L (⟨r20.2.u_b⟩ : checkpoint_writer) ((gD a1.Stores v4_2).Items)) fun r21 =>
 (bd (F_checkpoint_writer_ints L (⟨r21.2.u_b⟩ : checkpoint_writer) [(((gD a1.Stores v4_2).Putters).length : Int)]) fun r22 =>
 (nx4 v4_2 r22))))
 (lf (0, (v4_2, v4_3))))
def lb_checkpoint_writer_state_4 [An A (Nat × Tu2)]  (a1 : api_State) (rec : Int → List Int → A) (v4_2 : Int) (v4_3 : List Int) : A := wx_checkpoint_writer_state_4  L a1 rec v4_2 v4_3 (fun v4_2 r22 => bd (lp_checkpoint_writer_state_5 L a1 v4_2 L 0 r22.2.u_b) fun o24 => rx_checkpoint_writer_state_4  L a1 v4_2 rec o24)
def lp_checkpoint_writer_state_4  (L : Nat) (a1 : api_State) : Nat → Int → List Int → Option (Nat × Tu2)
  | 0, _, _ => none
  | n + 1, v4_2, v4_3 => lb_checkpoint_writer_state_4  L a1 (lp_checkpoint_writer_state_4  L a1 n) v4_2 v4_3
theorem le39_4  (a1 : api_State) : LP (EV (O39 L) L 9 c39.x.x.w.l.u.l.l) [0, 1, 3, 5, 7, 9, 15, 17, 19, 21, 23, 25, 41, 78, 123, 156, 157, 158, 215, 232, 261, 278, 308, 335] [0, 1004] (sh39_4 a1) [.exit 6] (fun n v => lp_checkpoint_writer_state_4  L a1 n v.1 v.2) K := lE (fun _ => rfl) fun n v ih => eE (wx_checkpoint_writer_state_4  L a1 (fun v4_2 v4_3 => re (ih (v4_2, v4_3))) v.1 v.2 (fun v4_2 r22 => hq (le39_5 L (KA (O39 L) L 9 c39.x.x.w.l.u.l.l (rl [4, 2, 8, 1, 2, 1]) (kRound (loopN (EV (O39 L) L 9 c39.x.x.w.l.u.l.l) [0, 1, 3, 5, 7, 9, 15, 17, 19, 21, 23, 25, 41, 78, 123, 156, 157, 158, 215, 232, 261, 278, 308, 335] [0, 1004] n) [0, 1, 3, 5, 7, 9, 15, 17, 19, 21, 23, 25, 41, 78, 123, 156, 157, 158, 215, 232, 261, 278, 308, 335] [0, 1004] K)) a1 v4_2 L (0, r22.2.u_b)) fun o24 => rx_checkpoint_writer_state_4  L a1 v4_2 (fun v4_2 v4_3 => re (ih (v4_2, v4_3))) o24))
def sh39_7 (a1 : api_State) (v6_2 : Int) (v : Tu2) : St := ⟨[(0, .loc 0 0), (1, .any), (3, .loc 1004 0), (5, .any), (7, .any), (9, .any), (11, .any), (13, .any), (15, .loc 1016 0), (19, .any), (21, .any), (23, .any), (25, .any), (41, .any), (78, .any), (123, .any), (158, .any), (182, .any), (213, lv (.t68 a1.Belts)), (214, I (a1.Belts.length : Int)), (215, I v6_2), (230, lv (.t181 ((gD a1.Belts v6_2).Riders))), (231, I (((gD a1.Belts v6_2).Riders).length : Int)), (232, I v.1), (261, .any), (278, .any), (308, .any), (335, .any)], [(0, [.lst true (.t5 v.2)]), (1004, (enapi_State a1)), (1016, (enapi_Belt (gD a1.Belts v6_2)))], 1001⟩
def lb_checkpoint_writer_state_7 [An A (Nat × Tu2)]  (a1 : api_State) (v6_2 : Int) (rec : Int → List Int → A) (v7_5 : Int) (v7_6 : List Int) : A :=
 (lw v7_5 ((gD a1.Belts v6_2).Riders)
 (bd (F_checkpoint_writer_ints L (⟨v7_6⟩ : checkpoint_writer) [(gD ((gD a1.Belts v6_2).Riders) v7_5).Proc, (gD ((gD a1.Belts v6_2).Riders) v7_5).Entry, (gD ((gD a1.Belts v6_2).Riders) v7_5).Exit]) fun r30 =>
 (rec (w64 (v7_5 + 1)) r30.2.u_b))
 (lf (0, (v7_5, v7_6))))
def lp_checkpoint_writer_state_7  (L : Nat) (a1 : api_State) (v6_2 : Int) : Nat → Int → List Int → Option (Nat × Tu2)
  | 0, _, _ => none
  | n + 1, v7_5, v7_6 => lb_checkpoint_writer_state_7  L a1 v6_2 (lp_checkpoint_writer_state_7  L a1 v6_2 n) v7_5 v7_6
theorem le39_7  (a1 : api_State) (v6_2 : Int) : LP (EV (O39 L) L 9 c39.x.x.x.l.u.l.l.w.l.l.w.l.u.l.l) [0, 1, 3, 5, 7, 9, 11, 13, 15, 19, 21, 23, 25, 41, 78, 123, 158, 182, 213, 214, 215, 230, 231, 232, 261, 278, 308, 335] [0, 1004, 1016] (sh39_7 a1 v6_2) [.exit 12] (fun n v => lp_checkpoint_writer_state_7  L a1 v6_2 n v.1 v.2) K := lE (fun _ => rfl) fun n v ih => eE (lb_checkpoint_writer_state_7  L a1 v6_2 (fun v7_5 v7_6 => re (ih (v7_5, v7_6))) v.1 v.2)
def sh39_6 (a1 : api_State) (v : Tu2) : St := ⟨[(0, .loc 0 0), (1, .any), (3, .loc 1004 0), (5, .any), (7, .any), (9, .any), (11, .any), (13, .any), (19, .any), (21, .any), (23, .any), (25, .any), (41, .any), (78, .any), (123, .any), (158, .any), (182, .any), (213, lv (.t68 a1.Belts)), (214, I (a1.Belts.length : Int)), (215, I v.1), (261, .any), (278, .any), (308, .any), (335, .any)], [(0, [.lst true (.t5 v.2)]), (1004, (enapi_State a1))], 1001⟩
def rx_checkpoint_writer_state_6 [An A (Nat × Tu2)]  (a1 : api_State) (v6_2 : Int) (rec : Int → List Int → A) (o31 : Nat × Tu2) : A :=
 (sl o31.1 [(bd (F_checkpoint_writer_ints L (⟨o31.2.2⟩ : checkpoint_writer) [(gD a1.Belts v6_2).Last]) fun r32 =>
 (rec (w64 (v6_2 + 1)) r32.2.u_b))])
def wx_checkpoint_writer_state_6 [An A (Nat × Tu2)]  (a1 : api_State) (rec : Int → List Int → A) (v6_2 : Int) (v6_3 : List Int) (nx6 : Int → Tu4 → A) : A :=
 (lw v6_2 a1.Belts
 (bd (F_checkpoint_writer_ints L (⟨v6_3⟩ : checkpoint_writer) [(gD a1.Belts v6_2).Length, (gD a1.Belts v6_2).Step, (((gD a1.Belts v6_2).Riders).length : Int)]) fun r29 =>
 (nx6 v6_2 r29))
 (lf (0, (v6_2, v6_3))))
def lb_checkpoint_writer_state_6 [An A (Nat × Tu2)]  (a1 : api_State) (rec : Int → List Int → A) (v6_2 : Int) (v6_3 : List Int) : A := wx_checkpoint_writer_state_6  L a1 rec v6_2 v6_3 (fun v6_2 r29 => bd (lp_checkpoint_writer_state_7 L a1 v6_2 L 0 r29.2.u_b) fun o31 => rx_checkpoint_writer_state_6  L a1 v6_2 rec o31)
def lp_checkpoint_writer_state_6  (L : Nat) (a1 : api_State) : Nat → Int → List Int → Option (Nat × Tu2)
  | 0, _, _ => none
  | n + 1, v6_2, v6_3 => lb_checkpoint_writer_state_6  L a1 (lp_checkpoint_writer_state_6  L a1 n) v6_2 v6_3
theorem le39_6  (a1 : api_State) : LP (EV (O39 L) L 9 c39.x.x.x.l.u.l.l) [0, 1, 3, 5, 7, 9, 11, 13, 19, 21, 23, 25, 41, 78, 123, 158, 182, 213, 214, 215, 261, 278, 308, 335] [0, 1004] (sh39_6 a1) [.exit 10] (fun n v => lp_checkpoint_writer_state_6  L a1 n v.1 v.2) K := lE (fun _ => rfl) fun n v ih => eE (wx_checkpoint_writer_state_6  L a1 (fun v6_2 v6_3 => re (ih (v6_2, v6_3))) v.1 v.2 (fun v6_2 r29 => hq (le39_7 L (KA (O39 L) L 9 c39.x.x.x.l.u.l.l (rl [4, 2, 4, 1, 2, 1]) (kRound (loopN (EV (O39 L) L 9 c39.x.x.x.l.u.l.l) [0, 1, 3, 5, 7, 9, 11, 13, 19, 21, 23, 25, 41, 78, 123, 158, 182, 213, 214, 215, 261, 278, 308, 335] [0, 1004] n) [0, 1, 3, 5, 7, 9, 11, 13, 19, 21, 23, 25, 41, 78, 123, 158, 182, 213, 214, 215, 261, 278, 308, 335] [0, 1004] K)) a1 v6_2 L (0, r29.2.u_b)) fun o31 => rx_checkpoint_writer_state_6  L a1 v6_2 (fun v6_2 v6_3 => re (ih (v6_2, v6_3))) o31))
def sh39_8 (a1 : api_State) (v : Tu2) : St := ⟨[(0, .loc 0 0), (1, .any), (3, .loc 1004 0), (5, .any), (7, .any), (9, .any), (11, .any), (13, .any), (15, .any), (17, .any), (21, .any), (23, .any), (25, .any), (41, .any), (78, .any), (123, .any), (158, .any), (182, .any), (215, .any), (232, .any), (259, lv (.t29 a1.Queues)), (260, I (a1.Queues.length : Int)), (261, I v.1), (278, .any), (308, .any), (335, .any)], [(0, [.lst true (.t5 v.2)]), (1004, (enapi_State a1))], 1001⟩
def lb_checkpoint_writer_state_8 [An A (Nat × Tu2)]  (a1 : api_State) (rec : Int → List Int → A) (v8_2 : Int) (v8_3 : List Int) : A :=
 (lw v8_2 a1.Queues
 (bd (F_checkpoint_writer_list L (⟨v8_3⟩ : checkpoint_writer) (gD a1.Queues v8_2)) fun r35 =>
 (rec (w64 (v8_2 + 1)) r35.2.u_b))
 (lf (0, (v8_2, v8_3))))
def lp_checkpoint_writer_state_8  (L : Nat) (a1 : api_State) : Nat → Int → List Int → Option (Nat × Tu2)
  | 0, _, _ => none
  | n + 1, v8_2, v8_3 => lb_checkpoint_writer_state_8  L a1 (lp_checkpoint_writer_state_8  L a1 n) v8_2 v8_3
theorem le39_8  (a1 : api_State) : LP (EV (O39 L) L 9 c39.x.x.x.w.l.u.l.l) [0, 1, 3, 5, 7, 9, 11, 13, 15, 17, 21, 23, 25, 41, 78, 123, 158, 182, 215, 232, 259, 260, 261, 278, 308, 335] [0, 1004] (sh39_8 a1) [.exit 14] (fun n v => lp_checkpoint_writer_state_8  L a1 n v.1 v.2) K := lE (fun _ => rfl) fun n v ih => eE (lb_checkpoint_writer_state_8  L a1 (fun v8_2 v8_3 => re (ih (v8_2, v8_3))) v.1 v.2)
def sh39_9 (a1 : api_State) (v : Tu2) : St := ⟨[(0, .loc 0 0), (1, .any), (3, .loc 1004 0), (5, .any), (7, .any), (9, .any), (11, .any), (13, .any), (15, .any), (17, .any), (19, .any), (23, .any), (25, .any), (41, .any), (78, .any), (123, .any), (158, .any), (182, .any), (215, .any), (232, .any), (261, .any), (276, lv (.t149 a1.Streams)), (277, I (a1.Streams.length : Int)), (278, I v.1), (308, .any), (335, .any)], [(0, [.lst true (.t5 v.2)]), (1004, (enapi_State a1))], 1001⟩
def lb_checkpoint_writer_state_9 [An A (Nat × Tu2)]  (a1 : api_State) (rec : Int → List Int → A) (v9_2 : Int) (v9_3 : List Int) : A :=
 (lw v9_2 a1.Streams
 (bd (F_checkpoint_bit L ((gD a1.Streams v9_2).Anti)) fun r38 =>
 (bd (F_checkpoint_writer_ints L (⟨v9_3⟩ : checkpoint_writer) [(w64 ((Int.fdiv ((gD a1.Streams v9_2).Key) (2 ^ 32)))), (w64 ((IntKind.wrap .u64 (((BitVec.ofInt 64 ((gD a1.Streams v9_2).Key) &&& BitVec.ofInt 64 4294967295).toNat : Int))))), (gD a1.Streams v9_2).Pos, r38]) fun r39 =>
 (rec (w64 (v9_2 + 1)) r39.2.u_b)))
 (lf (0, (v9_2, v9_3))))
def lp_checkpoint_writer_state_9  (L : Nat) (a1 : api_State) : Nat → Int → List Int → Option (Nat × Tu2)
  | 0, _, _ => none
  | n + 1, v9_2, v9_3 => lb_checkpoint_writer_state_9  L a1 (lp_checkpoint_writer_state_9  L a1 n) v9_2 v9_3
theorem le39_9  (a1 : api_State) : LP (EV (O39 L) L 9 c39.x.x.x.x.l.u.l.l) [0, 1, 3, 5, 7, 9, 11, 13, 15, 17, 19, 23, 25, 41, 78, 123, 158, 182, 215, 232, 261, 276, 277, 278, 308, 335] [0, 1004] (sh39_9 a1) [.exit 16] (fun n v => lp_checkpoint_writer_state_9  L a1 n v.1 v.2) K := lE (fun _ => rfl) fun n v ih => eE (lb_checkpoint_writer_state_9  L a1 (fun v9_2 v9_3 => re (ih (v9_2, v9_3))) v.1 v.2)
def sh39_10 (a1 : api_State) (v : Tu2) : St := ⟨[(0, .loc 0 0), (1, .any), (3, .loc 1004 0), (5, .any), (7, .any), (9, .any), (11, .any), (13, .any), (15, .any), (17, .any), (19, .any), (21, .any), (25, .any), (41, .any), (78, .any), (123, .any), (158, .any), (182, .any), (215, .any), (232, .any), (261, .any), (278, .any), (306, lv (.t154 a1.Tallies)), (307, I (a1.Tallies.length : Int)), (308, I v.1), (335, .any)], [(0, [.lst true (.t5 v.2)]), (1004, (enapi_State a1))], 1001⟩
def lb_checkpoint_writer_state_10 [An A (Nat × Tu2)]  (a1 : api_State) (rec : Int → List Int → A) (v10_2 : Int) (v10_3 : List Int) : A :=
 (lw v10_2 a1.Tallies
 (bd (F_checkpoint_writer_ints L (⟨v10_3⟩ : checkpoint_writer) [(gD a1.Tallies v10_2).N, (gD a1.Tallies v10_2).Sum, (gD a1.Tallies v10_2).Squares, (gD a1.Tallies v10_2).Min, (gD a1.Tallies v10_2).Max]) fun r42 =>
 (rec (w64 (v10_2 + 1)) r42.2.u_b))
 (lf (0, (v10_2, v10_3))))
def lp_checkpoint_writer_state_10  (L : Nat) (a1 : api_State) : Nat → Int → List Int → Option (Nat × Tu2)
  | 0, _, _ => none
  | n + 1, v10_2, v10_3 => lb_checkpoint_writer_state_10  L a1 (lp_checkpoint_writer_state_10  L a1 n) v10_2 v10_3
theorem le39_10  (a1 : api_State) : LP (EV (O39 L) L 9 c39.x.x.x.x.w.l.u.l.l) [0, 1, 3, 5, 7, 9, 11, 13, 15, 17, 19, 21, 25, 41, 78, 123, 158, 182, 215, 232, 261, 278, 306, 307, 308, 335] [0, 1004] (sh39_10 a1) [.exit 18] (fun n v => lp_checkpoint_writer_state_10  L a1 n v.1 v.2) K := lE (fun _ => rfl) fun n v ih => eE (lb_checkpoint_writer_state_10  L a1 (fun v10_2 v10_3 => re (ih (v10_2, v10_3))) v.1 v.2)
def sh39_11 (a1 : api_State) (v : Tu2) : St := ⟨[(0, .loc 0 0), (1, .any), (3, .loc 1004 0), (5, .any), (7, .any), (9, .any), (11, .any), (13, .any), (15, .any), (17, .any), (19, .any), (21, .any), (23, .any), (41, .any), (78, .any), (123, .any), (158, .any), (182, .any), (215, .any), (232, .any), (261, .any), (278, .any), (308, .any), (333, lv (.t159 a1.Levels)), (334, I (a1.Levels.length : Int)), (335, I v.1)], [(0, [.lst true (.t5 v.2)]), (1004, (enapi_State a1))], 1001⟩
def lb_checkpoint_writer_state_11 [An A (Nat × Tu2)]  (a1 : api_State) (rec : Int → List Int → A) (v11_2 : Int) (v11_3 : List Int) : A :=
 (lw v11_2 a1.Levels
 (bd (F_checkpoint_writer_ints L (⟨v11_3⟩ : checkpoint_writer) [(gD a1.Levels v11_2).Value, (gD a1.Levels v11_2).Since, (gD a1.Levels v11_2).Begin, (gD a1.Levels v11_2).Area, (gD a1.Levels v11_2).Min, (gD a1.Levels v11_2).Max]) fun r45 =>
 (rec (w64 (v11_2 + 1)) r45.2.u_b))
 (lf (0, (v11_2, v11_3))))
def lp_checkpoint_writer_state_11  (L : Nat) (a1 : api_State) : Nat → Int → List Int → Option (Nat × Tu2)
  | 0, _, _ => none
  | n + 1, v11_2, v11_3 => lb_checkpoint_writer_state_11  L a1 (lp_checkpoint_writer_state_11  L a1 n) v11_2 v11_3
theorem le39_11  (a1 : api_State) : LP (EV (O39 L) L 9 c39.x.x.x.x.x.l.u.l.l) [0, 1, 3, 5, 7, 9, 11, 13, 15, 17, 19, 21, 23, 41, 78, 123, 158, 182, 215, 232, 261, 278, 308, 333, 334, 335] [0, 1004] (sh39_11 a1) [.exit 20] (fun n v => lp_checkpoint_writer_state_11  L a1 n v.1 v.2) K := lE (fun _ => rfl) fun n v ih => eE (lb_checkpoint_writer_state_11  L a1 (fun v11_2 v11_3 => re (ih (v11_2, v11_3))) v.1 v.2)
def rx_checkpoint_writer_state_11 [An A Tu4]  (a1 : api_State)  (o46 : Nat × Tu2) : A :=
 (sl o46.1 [(bd (F_checkpoint_writer_list L (⟨o46.2.2⟩ : checkpoint_writer) a1.Counts) fun r47 =>
 (bd (F_checkpoint_writer_list L (⟨r47.2.u_b⟩ : checkpoint_writer) a1.Created) fun r48 =>
 (bd (F_checkpoint_writer_list L (⟨r48.2.u_b⟩ : checkpoint_writer) a1.Ended) fun r49 =>
 (bd (F_checkpoint_writer_ints L (⟨r49.2.u_b⟩ : checkpoint_writer) [a1.Dropped]) fun r50 =>
 (lf ((), (⟨r50.2.u_b⟩ : checkpoint_writer)))))))])
def wx_checkpoint_writer_state_11 [An A Tu4]  (a1 : api_State) (a0 : checkpoint_writer)  (o43 : Nat × Tu2) (nx11 : Tu4 → A) : A :=
 (sl o43.1 [(bd (F_checkpoint_writer_ints L (⟨o43.2.2⟩ : checkpoint_writer) [(a1.Levels.length : Int)]) fun r44 =>
 (nx11 r44))])
def rx_checkpoint_writer_state_10 [An A Tu4]  (a1 : api_State) (a0 : checkpoint_writer)  (o43 : Nat × Tu2) : A := wx_checkpoint_writer_state_11  L a1 a0  o43 (fun r44 => bd (lp_checkpoint_writer_state_11 L a1 L 0 r44.2.u_b) fun o46 => rx_checkpoint_writer_state_11  L a1  o46)
def wx_checkpoint_writer_state_10 [An A Tu4]  (a1 : api_State) (a0 : checkpoint_writer)  (o40 : Nat × Tu2) (nx10 : Tu4 → A) : A :=
 (sl o40.1 [(bd (F_checkpoint_writer_ints L (⟨o40.2.2⟩ : checkpoint_writer) [(a1.Tallies.length : Int)]) fun r41 =>
 (nx10 r41))])
def rx_checkpoint_writer_state_9 [An A Tu4]  (a1 : api_State) (a0 : checkpoint_writer)  (o40 : Nat × Tu2) : A := wx_checkpoint_writer_state_10  L a1 a0  o40 (fun r41 => bd (lp_checkpoint_writer_state_10 L a1 L 0 r41.2.u_b) fun o43 => rx_checkpoint_writer_state_10  L a1 a0  o43)
def kc39_9  (a0 : checkpoint_writer) : KontX := (KA (O39 L) L 9 c39 (rl [32, 1, 2, 1]) (KJ Tryz.f39 (kSt [.lst true (.t5 a0.u_b)] kk)))
theorem q39_9  (a1 : api_State) (a0 : checkpoint_writer)  (o40 : Nat × Tu2) : kX [.exit 16] (sh39_9 a1) (kc39_9  L kk a0) o40 = ob (rx_checkpoint_writer_state_9  L a1 a0  o40) (kq39 kk) := eE (wx_checkpoint_writer_state_10  L a1 a0  o40 (fun r41 => hq (le39_10 L (KA (O39 L) L 9 c39 (rl [36, 1, 2, 1]) (KJ Tryz.f39 (kSt [.lst true (.t5 a0.u_b)] kk))) a1 L (0, r41.2.u_b)) fun o43 => wx_checkpoint_writer_state_11  L a1 a0  o43 (fun r44 => hq (le39_11 L (KA (O39 L) L 9 c39 (rl [40, 1, 2, 1]) (KJ Tryz.f39 (kSt [.lst true (.t5 a0.u_b)] kk))) a1 L (0, r44.2.u_b)) fun o46 => rx_checkpoint_writer_state_11  L a1  o46)))
def wx_checkpoint_writer_state_9 [An A Tu4]  (a1 : api_State) (a0 : checkpoint_writer)  (o36 : Nat × Tu2) (nx9 : Tu4 → A) : A :=
 (sl o36.1 [(bd (F_checkpoint_writer_ints L (⟨o36.2.2⟩ : checkpoint_writer) [(a1.Streams.length : Int)]) fun r37 =>
 (nx9 r37))])
def rx_checkpoint_writer_state_8 [An A Tu4]  (a1 : api_State) (a0 : checkpoint_writer)  (o36 : Nat × Tu2) : A := wx_checkpoint_writer_state_9  L a1 a0  o36 (fun r37 => bd (lp_checkpoint_writer_state_9 L a1 L 0 r37.2.u_b) fun o40 => rx_checkpoint_writer_state_9  L a1 a0  o40)
def wx_checkpoint_writer_state_8 [An A Tu4]  (a1 : api_State) (a0 : checkpoint_writer)  (o33 : Nat × Tu2) (nx8 : Tu4 → A) : A :=
 (sl o33.1 [(bd (F_checkpoint_writer_ints L (⟨o33.2.2⟩ : checkpoint_writer) [(a1.Queues.length : Int)]) fun r34 =>
 (nx8 r34))])
def rx_checkpoint_writer_state_7 [An A Tu4]  (a1 : api_State) (a0 : checkpoint_writer)  (o33 : Nat × Tu2) : A := wx_checkpoint_writer_state_8  L a1 a0  o33 (fun r34 => bd (lp_checkpoint_writer_state_8 L a1 L 0 r34.2.u_b) fun o36 => rx_checkpoint_writer_state_8  L a1 a0  o36)
def wx_checkpoint_writer_state_7 [An A Tu4]  (a1 : api_State) (a0 : checkpoint_writer)  (o27 : Nat × Tu2) (nx7 : Tu4 → A) : A :=
 (sl o27.1 [(bd (F_checkpoint_writer_ints L (⟨o27.2.2⟩ : checkpoint_writer) [(a1.Belts.length : Int)]) fun r28 =>
 (nx7 r28))])
def rx_checkpoint_writer_state_5 [An A Tu4]  (a1 : api_State) (a0 : checkpoint_writer)  (o27 : Nat × Tu2) : A := wx_checkpoint_writer_state_7  L a1 a0  o27 (fun r28 => bd (lp_checkpoint_writer_state_6 L a1 L 0 r28.2.u_b) fun o33 => rx_checkpoint_writer_state_7  L a1 a0  o33)
def kc39_5  (a0 : checkpoint_writer) : KontX := (KA (O39 L) L 9 c39 (rl [20, 1, 2, 1]) (KJ Tryz.f39 (kSt [.lst true (.t5 a0.u_b)] kk)))
theorem q39_5  (a1 : api_State) (a0 : checkpoint_writer)  (o27 : Nat × Tu2) : kX [.exit 6] (sh39_4 a1) (kc39_5  L kk a0) o27 = ob (rx_checkpoint_writer_state_5  L a1 a0  o27) (kq39 kk) := eE (wx_checkpoint_writer_state_7  L a1 a0  o27 (fun r28 => hq (le39_6 L (KA (O39 L) L 9 c39 (rl [24, 1, 2, 1]) (KJ Tryz.f39 (kSt [.lst true (.t5 a0.u_b)] kk))) a1 L (0, r28.2.u_b)) fun o33 => wx_checkpoint_writer_state_8  L a1 a0  o33 (fun r34 => hq (le39_8 L (KA (O39 L) L 9 c39 (rl [28, 1, 2, 1]) (KJ Tryz.f39 (kSt [.lst true (.t5 a0.u_b)] kk))) a1 L (0, r34.2.u_b)) fun o36 => wx_checkpoint_writer_state_9  L a1 a0  o36 (fun r37 => ho (le39_9 L (kc39_9  L kk a0) a1 L (0, r37.2.u_b)) fun o40 => q39_9  L kk a1 a0  o40))))
def wx_checkpoint_writer_state_5 [An A Tu4]  (a1 : api_State) (a0 : checkpoint_writer)  (o18 : Nat × Tu2) (nx5 : Tu4 → A) : A :=
 (sl o18.1 [(bd (F_checkpoint_writer_ints L (⟨o18.2.2⟩ : checkpoint_writer) [(a1.Stores.length : Int)]) fun r19 =>
 (nx5 r19))])
def rx_checkpoint_writer_state_3 [An A Tu4]  (a1 : api_State) (a0 : checkpoint_writer)  (o18 : Nat × Tu2) : A := wx_checkpoint_writer_state_5  L a1 a0  o18 (fun r19 => bd (lp_checkpoint_writer_state_4 L a1 L 0 r19.2.u_b) fun o27 => rx_checkpoint_writer_state_5  L a1 a0  o27)
def wx_checkpoint_writer_state_3 [An A Tu4]  (a1 : api_State) (a0 : checkpoint_writer)  (o9 : Nat × Tu2) (nx3 : Tu4 → A) : A :=
 (sl o9.1 [(bd (F_checkpoint_writer_ints L (⟨o9.2.2⟩ : checkpoint_writer) [a1.NextProc]) fun r10 =>
 (bd (F_checkpoint_writer_list L (⟨r10.2.u_b⟩ : checkpoint_writer) a1.Vars) fun r11 =>
 (bd (F_checkpoint_writer_ints L (⟨r11.2.u_b⟩ : checkpoint_writer) [(a1.Resources.length : Int)]) fun r12 =>
 (nx3 r12))))])
def rx_checkpoint_writer_state_2 [An A Tu4]  (a1 : api_State) (a0 : checkpoint_writer)  (o9 : Nat × Tu2) : A := wx_checkpoint_writer_state_3  L a1 a0  o9 (fun r12 => bd (lp_checkpoint_writer_state_3 L a1 L 0 r12.2.u_b) fun o18 => rx_checkpoint_writer_state_3  L a1 a0  o18)
def kc39_2  (a0 : checkpoint_writer) : KontX := (KA (O39 L) L 9 c39 (rl [8, 1, 2, 1]) (KJ Tryz.f39 (kSt [.lst true (.t5 a0.u_b)] kk)))
theorem q39_2  (a1 : api_State) (a0 : checkpoint_writer)  (o9 : Nat × Tu2) : kX [.exit 2] (sh39_2 a1) (kc39_2  L kk a0) o9 = ob (rx_checkpoint_writer_state_2  L a1 a0  o9) (kq39 kk) := eE (wx_checkpoint_writer_state_3  L a1 a0  o9 (fun r12 => hq (le39_3 L (KA (O39 L) L 9 c39 (rl [16, 1, 2, 1]) (KJ Tryz.f39 (kSt [.lst true (.t5 a0.u_b)] kk))) a1 L (0, r12.2.u_b)) fun o18 => wx_checkpoint_writer_state_5  L a1 a0  o18 (fun r19 => ho (le39_4 L (kc39_5  L kk a0) a1 L (0, r19.2.u_b)) fun o27 => q39_5  L kk a1 a0  o27)))
def wx_checkpoint_writer_state_2 [An A Tu4]  (a1 : api_State) (a0 : checkpoint_writer)  (o4 : Nat × Tu2) (nx2 : Tu4 → A) : A :=
 (sl o4.1 [(bd (F_checkpoint_writer_ints L (⟨o4.2.2⟩ : checkpoint_writer) [(a1.Procs.length : Int)]) fun r5 =>
 (nx2 r5))])
def rx_checkpoint_writer_state_1 [An A Tu4]  (a1 : api_State) (a0 : checkpoint_writer)  (o4 : Nat × Tu2) : A := wx_checkpoint_writer_state_2  L a1 a0  o4 (fun r5 => bd (lp_checkpoint_writer_state_2 L a1 L 0 r5.2.u_b) fun o9 => rx_checkpoint_writer_state_2  L a1 a0  o9)
def wx_checkpoint_writer_state_1 [An A Tu4]  (a0 : checkpoint_writer) (a1 : api_State)   (nx1 : Tu4 → A) : A :=
 (bd (F_checkpoint_writer_ints L (⟨a0.u_b⟩ : checkpoint_writer) [a1.Site, a1.Now, a1.Seq, (a1.Agenda.length : Int)]) fun r1 =>
 (nx1 r1))
def T_checkpoint_writer_state [An A Tu4]  (a0 : checkpoint_writer) (a1 : api_State)   : A := wx_checkpoint_writer_state_1  L a0 a1   (fun r1 => bd (lp_checkpoint_writer_state_1 L a1 L 0 r1.2.u_b) fun o4 => rx_checkpoint_writer_state_1  L a1 a0  o4)
def F_checkpoint_writer_state  (a0 : checkpoint_writer) (a1 : api_State) : Option Tu4 := T_checkpoint_writer_state L a0 a1
def X39 : EnP := E2 (fun (x : Tu4) => .tup [.tup [], .agg [.lst true (.t5 x.2.u_b)]]) 39 ct_checkpoint_writer ca_api_State (F_checkpoint_writer_state L) fun a0 a1 r h => hFS Tryz.func39 (C := O39 L) (oS _) L (fun kk => eE (wx_checkpoint_writer_state_1  L a0 a1   (fun r1 => hq (le39_1 L (KA (O39 L) L 9 c39 (rl [4, 1, 2, 1]) (KJ Tryz.f39 (kSt [.lst true (.t5 a0.u_b)] kk))) a1 L (0, r1.2.u_b)) fun o4 => wx_checkpoint_writer_state_2  L a1 a0  o4 (fun r5 => ho (le39_2 L (kc39_2  L kk a0) a1 L (0, r5.2.u_b)) fun o9 => q39_2  L kk a1 a0  o9)))) h
/-! ### simulator/checkpoint.body -/
def c22 := CC Tryz.f22
def O22 : Oracle := oL [X38 L, X39 L]
def sh22_1 (a0 : api_World) (v : Tu2) : St := ⟨[(0, .any), (1, .any), (2, .lst true (.t5 [])), (3, .loc 7 0), (7, .any), (15, lv (.t38 a0.Sites)), (16, I (a0.Sites.length : Int)), (17, I v.1)], [(1, [lv (.t38 a0.Sites)]), (7, [.lst true (.t5 v.2)])], 0⟩
def lb_checkpoint_body_1 [An A (Nat × Tu2)]  (a0 : api_World) (rec : Int → List Int → A) (v1_3 : Int) (v1_5 : List Int) : A :=
 (lw v1_3 a0.Sites
 (bd (F_checkpoint_writer_state L (⟨v1_5⟩ : checkpoint_writer) (gD a0.Sites v1_3)) fun r2 =>
 (rec (w64 (v1_3 + 1)) r2.2.u_b))
 (lf (0, (v1_3, v1_5))))
def lp_checkpoint_body_1  (L : Nat) (a0 : api_World) : Nat → Int → List Int → Option (Nat × Tu2)
  | 0, _, _ => none
  | n + 1, v1_3, v1_5 => lb_checkpoint_body_1  L a0 (lp_checkpoint_body_1  L a0 n) v1_3 v1_5
theorem le22_1  (a0 : api_World) : LP (EV (O22 L) L 9 c22.w.u.l.u.l.l) [0, 1, 2, 3, 7, 15, 16, 17] [1, 7] (sh22_1 a0) [.exit 0] (fun n v => lp_checkpoint_body_1  L a0 n v.1 v.2) K := lE (fun _ => rfl) fun n v ih => eE (lb_checkpoint_body_1  L a0 (fun v1_3 v1_5 => re (ih (v1_3, v1_5))) v.1 v.2)
def rx_checkpoint_body_1 [An A (List Int)]  (L : Nat)   (o3 : Nat × Tu2) : A :=
 (sl o3.1 [(lf o3.2.2)])
def wx_checkpoint_body_1 [An A (List Int)]  (a0 : api_World)   (nx1 : Tu4 → A) : A :=
 (bd (F_checkpoint_writer_ints L (⟨[]⟩ : checkpoint_writer) [(a0.Sites.length : Int)]) fun r1 =>
 (nx1 r1))
def T_checkpoint_body [An A (List Int)]  (a0 : api_World)   : A := wx_checkpoint_body_1  L a0   (fun r1 => bd (lp_checkpoint_body_1 L a0 L 0 r1.2.u_b) fun o3 => rx_checkpoint_body_1  L   o3)
def F_checkpoint_body  (a0 : api_World) : Option (List Int) := T_checkpoint_body L a0
def X22 : EnP := E2 (fun (x : (List Int)) => lv (.t5 x)) 22 cO ca_api_World (fun _ a0 => F_checkpoint_body L a0) fun _ a0 r h => hFO Tryz.func22 (C := O22 L) (oS _) L (fun kk => eE (wx_checkpoint_body_1  L a0   (fun r1 => hq (le22_1 L (kBlock 0 (kSeq (EV (O22 L) L 9 c22.w.u.r) (kEndO Tryz.prog (RS Tryz.f22) kk))) a0 L (0, r1.2.u_b)) fun o3 => rx_checkpoint_body_1  L   o3))) h
/-! ### simulator/checkpoint.Save -/
def T_checkpoint_Save [An A ((List Int) × Int)]  (a0 : api_World)   : A :=
 (cn (decide ((a0.Sites.length : Int) > 16))
 (lf ([], 2))
 (bd (F_checkpoint_body L (⟨a0.Sites⟩ : api_World)) fun r1 =>
 (bd (F_codec_Sum L r1) fun r2 =>
 (gq ((r1.length + [(IntKind.wrap .u8 ((IntKind.wrap .u32 (r2)))), (IntKind.wrap .u8 ((Int.fdiv (IntKind.wrap .u32 (r2)) (2 ^ 8)))), (IntKind.wrap .u8 ((Int.fdiv (IntKind.wrap .u32 (r2)) (2 ^ 16)))), (IntKind.wrap .u8 ((Int.fdiv (IntKind.wrap .u32 (r2)) (2 ^ 24))))].length) * 1 ≤ 140737488355328)
 (gq (r1.length + [(IntKind.wrap .u8 ((IntKind.wrap .u32 (r2)))), (IntKind.wrap .u8 ((Int.fdiv (IntKind.wrap .u32 (r2)) (2 ^ 8)))), (IntKind.wrap .u8 ((Int.fdiv (IntKind.wrap .u32 (r2)) (2 ^ 16)))), (IntKind.wrap .u8 ((Int.fdiv (IntKind.wrap .u32 (r2)) (2 ^ 24))))].length ≤ maxLen)
 (lf ((r1 ++ [(IntKind.wrap .u8 ((IntKind.wrap .u32 (r2)))), (IntKind.wrap .u8 ((Int.fdiv (IntKind.wrap .u32 (r2)) (2 ^ 8)))), (IntKind.wrap .u8 ((Int.fdiv (IntKind.wrap .u32 (r2)) (2 ^ 16)))), (IntKind.wrap .u8 ((Int.fdiv (IntKind.wrap .u32 (r2)) (2 ^ 24))))]), 0)))))))
def F_checkpoint_Save  (a0 : api_World) : Option ((List Int) × Int) := T_checkpoint_Save L a0
def X10 : EnP := E1 (fun (x : ((List Int) × Int)) => .tup [lv (.t5 x.1), I x.2]) 10 ca_api_World (F_checkpoint_Save L) fun a0 r h => hF Tryz.func10 (oS [X22 L, X24 L]) L (fun kk => eE (T_checkpoint_Save  L a0  )) h
end
end Go.Proofs.YtpdlcbmnmeihoaaGreatDoor.Ev
