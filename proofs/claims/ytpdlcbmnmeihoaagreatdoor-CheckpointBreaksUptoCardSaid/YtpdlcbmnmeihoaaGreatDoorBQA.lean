import Derived.Test.YtpdlcbmnmeihoaaGreatDoorBG1
import Derived.Test.YtpdlcbmnmeihoaaGreatDoorBFW
import Derived.Test.YtpdlcbmnmeihoaaGreatDoorBG2
import Derived.Test.YtpdlcbmnmeihoaaGreatDoorBG3
import Derived.Test.YtpdlcbmnmeihoaaGreatDoorBG4
import Derived.Test.YtpdlcbmnmeihoaaGreatDoorBGB
set_option maxRecDepth 100000
set_option maxHeartbeats 4000000
set_option linter.unusedVariables false
set_option linter.unusedSimpArgs false
set_option linter.unnecessarySimpa false
namespace Go.Proofs.YtpdlcbmnmeihoaaGreatDoor.Ev
open Go An
theorem aC : (∀ i : Nat, ((0 : Int) ≤ (i : Int)) = True) ∧ (∀ i : Nat, Int.toNat (i : Int) = i) ∧ (∀ {α : Type} (a b : α), cond true a b = a) ∧ (∀ {α : Type} (a b : α), cond false a b = b) ∧ (∀ {α : Type} (a b : α), (if True then a else b) = a) ∧ (∀ h : Decidable True, @decide True h = true) ∧ (∀ x : api_Expr, api_Expr.mk x.Op x.Name x.N x.Kids = x) ∧ (∀ x : api_Expr, api_Expr.cp x = x) ∧ (∀ x : api_Stmt, api_Stmt.mk x.Op x.Name x.Of x.E x.F x.Args x.Dist x.Flag x.Body x.Else = x) ∧ (∀ x : api_Stmt, api_Stmt.cp x = x) := ⟨nn, toN, fun _ _ => rfl, fun _ _ => rfl, fun _ _ => if_true .., decide_true, api_Expr.eta, api_Expr.cp_eq, api_Stmt.eta, api_Stmt.cp_eq⟩
def lq_codec_Sum_1  (L : Nat) (a0 : (List Int)) : List Int → Nat → Int → Option (Nat × (Int × Int))
  | [], i, v1_1 => (some (0, (v1_1, (i : Int))))
  | x :: k, i, v1_1 => (Option.bind (lp_codec_Sum_2 L a0 (i : Int) L (IntKind.wrap .u32 (((BitVec.ofInt 32 v1_1 ^^^ BitVec.ofInt 32 (IntKind.wrap .u32 (x))).toNat : Int))) 0) fun o1 =>
 (selo o1.1 [(lq_codec_Sum_1 L a0 k (i + 1) o1.2.1)]))
theorem lq0_codec_Sum_1  (L : Nat) (a0 : (List Int)) (n : Nat) (hl : a0.length ≤ maxLen) (hn : a0.length < n) : ∀ (v1_1 : Int), lp_codec_Sum_1  L a0 n v1_1 0 = lq_codec_Sum_1 L a0 a0 0 v1_1 := lQ (fun k i n => ∀ (v1_1 : Int), lp_codec_Sum_1  L a0 n v1_1 (i : Int) = lq_codec_Sum_1 L a0 k i v1_1) hl hn (fun n i h v1_1 => by simp only [lp_codec_Sum_1, lb_codec_Sum_1, wx_codec_Sum_1, rx_codec_Sum_1, lq_codec_Sum_1, d_ge h, aN, aB, aC]) (fun n i x k h hx ih v1_1 => by simp only [lp_codec_Sum_1, lb_codec_Sum_1, wx_codec_Sum_1, rx_codec_Sum_1, lq_codec_Sum_1, d_lt h, ltI h, hx, w64_succ h hl, ih, aN, aB, aC])
def lq_R30_Small_1  (L : Nat) (a0 : api_State) : List api_Resource → Nat → Bool → Option (Nat × (Bool × Int))
  | [], i, v1_0 => (some (1, (v1_0, (i : Int))))
  | x :: k, i, v1_0 => (bif (decide ((w64 (((x.Holders).length : Int) + ((x.Queue).length : Int))) > 60)) then (some (0, (false, (i : Int))))
 else (lq_R30_Small_1 L a0 k (i + 1) v1_0))
theorem lq0_R30_Small_1  (L : Nat) (a0 : api_State) (n : Nat) (hl : a0.Resources.length ≤ maxLen) (hn : a0.Resources.length < n) : ∀ (v1_0 : Bool), lp_R30_Small_1  L a0 n v1_0 0 = lq_R30_Small_1 L a0 a0.Resources 0 v1_0 := lQ (fun k i n => ∀ (v1_0 : Bool), lp_R30_Small_1  L a0 n v1_0 (i : Int) = lq_R30_Small_1 L a0 k i v1_0) hl hn (fun n i h v1_0 => by simp only [lp_R30_Small_1, lb_R30_Small_1, lq_R30_Small_1, d_ge h, aN, aB, aC]) (fun n i x k h hx ih v1_0 => by simp only [lp_R30_Small_1, lb_R30_Small_1, lq_R30_Small_1, d_lt h, ltI h, hx, w64_succ h hl, ih, aN, aB, aC])
def lq_R30_Small_2  (L : Nat) (a0 : api_State) : List api_Store → Nat → Bool → Option (Nat × (Bool × Int))
  | [], i, v2_0 => (some (1, (v2_0, (i : Int))))
  | x :: k, i, v2_0 => (bif (decide ((w64 ((w64 (((x.Items).length : Int) + ((x.Putters).length : Int))) + ((x.Getters).length : Int))) > 100)) then (some (0, (false, (i : Int))))
 else (lq_R30_Small_2 L a0 k (i + 1) v2_0))
theorem lq0_R30_Small_2  (L : Nat) (a0 : api_State) (n : Nat) (hl : a0.Stores.length ≤ maxLen) (hn : a0.Stores.length < n) : ∀ (v2_0 : Bool), lp_R30_Small_2  L a0 n v2_0 0 = lq_R30_Small_2 L a0 a0.Stores 0 v2_0 := lQ (fun k i n => ∀ (v2_0 : Bool), lp_R30_Small_2  L a0 n v2_0 (i : Int) = lq_R30_Small_2 L a0 k i v2_0) hl hn (fun n i h v2_0 => by simp only [lp_R30_Small_2, lb_R30_Small_2, lq_R30_Small_2, d_ge h, aN, aB, aC]) (fun n i x k h hx ih v2_0 => by simp only [lp_R30_Small_2, lb_R30_Small_2, lq_R30_Small_2, d_lt h, ltI h, hx, w64_succ h hl, ih, aN, aB, aC])
def lq_R30_Small_3  (L : Nat) (a0 : api_State) : List api_Belt → Nat → Bool → Option (Nat × (Bool × Int))
  | [], i, v3_0 => (some (1, (v3_0, (i : Int))))
  | x :: k, i, v3_0 => (bif (decide (((x.Riders).length : Int) > 60)) then (some (0, (false, (i : Int))))
 else (lq_R30_Small_3 L a0 k (i + 1) v3_0))
theorem lq0_R30_Small_3  (L : Nat) (a0 : api_State) (n : Nat) (hl : a0.Belts.length ≤ maxLen) (hn : a0.Belts.length < n) : ∀ (v3_0 : Bool), lp_R30_Small_3  L a0 n v3_0 0 = lq_R30_Small_3 L a0 a0.Belts 0 v3_0 := lQ (fun k i n => ∀ (v3_0 : Bool), lp_R30_Small_3  L a0 n v3_0 (i : Int) = lq_R30_Small_3 L a0 k i v3_0) hl hn (fun n i h v3_0 => by simp only [lp_R30_Small_3, lb_R30_Small_3, lq_R30_Small_3, d_ge h, aN, aB, aC]) (fun n i x k h hx ih v3_0 => by simp only [lp_R30_Small_3, lb_R30_Small_3, lq_R30_Small_3, d_lt h, ltI h, hx, w64_succ h hl, ih, aN, aB, aC])
def lq_R30_Small_4  (L : Nat) (a0 : api_State) : List ((List Int)) → Nat → Bool → Option (Nat × (Bool × Int))
  | [], i, v4_0 => (some (1, (v4_0, (i : Int))))
  | x :: k, i, v4_0 => (bif (decide ((x.length : Int) > 60)) then (some (0, (false, (i : Int))))
 else (lq_R30_Small_4 L a0 k (i + 1) v4_0))
theorem lq0_R30_Small_4  (L : Nat) (a0 : api_State) (n : Nat) (hl : a0.Queues.length ≤ maxLen) (hn : a0.Queues.length < n) : ∀ (v4_0 : Bool), lp_R30_Small_4  L a0 n v4_0 0 = lq_R30_Small_4 L a0 a0.Queues 0 v4_0 := lQ (fun k i n => ∀ (v4_0 : Bool), lp_R30_Small_4  L a0 n v4_0 (i : Int) = lq_R30_Small_4 L a0 k i v4_0) hl hn (fun n i h v4_0 => by simp only [lp_R30_Small_4, lb_R30_Small_4, lq_R30_Small_4, d_ge h, aN, aB, aC]) (fun n i x k h hx ih v4_0 => by simp only [lp_R30_Small_4, lb_R30_Small_4, lq_R30_Small_4, d_lt h, ltI h, hx, w64_succ h hl, ih, aN, aB, aC])
def lq_checkpoint_writer_ints_1  (L : Nat) (a1 : (List Int)) : List Int → Nat → List Int → Option (Nat × (Int × List Int))
  | [], i, v1_3 => (some (0, ((i : Int), v1_3)))
  | x :: k, i, v1_3 => (Option.bind (F_codec_PutInt L v1_3 x) fun r1 =>
 (lq_checkpoint_writer_ints_1 L a1 k (i + 1) r1))
theorem lq0_checkpoint_writer_ints_1  (L : Nat) (a1 : (List Int)) (n : Nat) (hl : a1.length ≤ maxLen) (hn : a1.length < n) : ∀ (v1_3 : List Int), lp_checkpoint_writer_ints_1  L a1 n 0 v1_3 = lq_checkpoint_writer_ints_1 L a1 a1 0 v1_3 := lQ (fun k i n => ∀ (v1_3 : List Int), lp_checkpoint_writer_ints_1  L a1 n (i : Int) v1_3 = lq_checkpoint_writer_ints_1 L a1 k i v1_3) hl hn (fun n i h v1_3 => by simp only [lp_checkpoint_writer_ints_1, lb_checkpoint_writer_ints_1, lq_checkpoint_writer_ints_1, d_ge h, aN, aB, aC]) (fun n i x k h hx ih v1_3 => by simp only [lp_checkpoint_writer_ints_1, lb_checkpoint_writer_ints_1, lq_checkpoint_writer_ints_1, d_lt h, ltI h, hx, w64_succ h hl, ih, aN, aB, aC])
def lq_checkpoint_writer_claims_1  (L : Nat) (a1 : (List api_Claim)) : List api_Claim → Nat → List Int → Option (Nat × (Int × List Int))
  | [], i, v1_3 => (some (0, ((i : Int), v1_3)))
  | x :: k, i, v1_3 => (Option.bind (F_checkpoint_bit L (x.Preempt)) fun r2 =>
 (Option.bind (F_checkpoint_writer_ints L (⟨v1_3⟩ : checkpoint_writer) [x.Proc, x.Units, x.Prio, x.Seq, r2]) fun r3 =>
 (lq_checkpoint_writer_claims_1 L a1 k (i + 1) r3.2.u_b)))
theorem lq0_checkpoint_writer_claims_1  (L : Nat) (a1 : (List api_Claim)) (n : Nat) (hl : a1.length ≤ maxLen) (hn : a1.length < n) : ∀ (v1_3 : List Int), lp_checkpoint_writer_claims_1  L a1 n 0 v1_3 = lq_checkpoint_writer_claims_1 L a1 a1 0 v1_3 := lQ (fun k i n => ∀ (v1_3 : List Int), lp_checkpoint_writer_claims_1  L a1 n (i : Int) v1_3 = lq_checkpoint_writer_claims_1 L a1 k i v1_3) hl hn (fun n i h v1_3 => by simp only [lp_checkpoint_writer_claims_1, lb_checkpoint_writer_claims_1, lq_checkpoint_writer_claims_1, d_ge h, aN, aB, aC]) (fun n i x k h hx ih v1_3 => by simp only [lp_checkpoint_writer_claims_1, lb_checkpoint_writer_claims_1, lq_checkpoint_writer_claims_1, d_lt h, ltI h, hx, w64_succ h hl, ih, aN, aB, aC])
def lq_checkpoint_writer_state_1  (L : Nat) (a1 : api_State) : List api_Event → Nat → List Int → Option (Nat × (Int × List Int))
  | [], i, v1_3 => (some (0, ((i : Int), v1_3)))
  | x :: k, i, v1_3 => (Option.bind (F_checkpoint_writer_ints L (⟨v1_3⟩ : checkpoint_writer) [x.Time, x.Prio, x.From, x.Seq, x.Site, x.Kind, x.A, x.B]) fun r2 =>
 (Option.bind (F_checkpoint_writer_list L (⟨r2.2.u_b⟩ : checkpoint_writer) (x.Args)) fun r3 =>
 (lq_checkpoint_writer_state_1 L a1 k (i + 1) r3.2.u_b)))
theorem lq0_checkpoint_writer_state_1  (L : Nat) (a1 : api_State) (n : Nat) (hl : a1.Agenda.length ≤ maxLen) (hn : a1.Agenda.length < n) : ∀ (v1_3 : List Int), lp_checkpoint_writer_state_1  L a1 n 0 v1_3 = lq_checkpoint_writer_state_1 L a1 a1.Agenda 0 v1_3 := lQ (fun k i n => ∀ (v1_3 : List Int), lp_checkpoint_writer_state_1  L a1 n (i : Int) v1_3 = lq_checkpoint_writer_state_1 L a1 k i v1_3) hl hn (fun n i h v1_3 => by simp only [lp_checkpoint_writer_state_1, lb_checkpoint_writer_state_1, lq_checkpoint_writer_state_1, d_ge h, aN, aB, aC]) (fun n i x k h hx ih v1_3 => by simp only [lp_checkpoint_writer_state_1, lb_checkpoint_writer_state_1, lq_checkpoint_writer_state_1, d_lt h, ltI h, hx, w64_succ h hl, ih, aN, aB, aC])
def lq_checkpoint_writer_state_2  (L : Nat) (a1 : api_State) : List api_Proc → Nat → List Int → Option (Nat × (Int × List Int))
  | [], i, v2_3 => (some (0, ((i : Int), v2_3)))
  | x :: k, i, v2_3 => (Option.bind (F_checkpoint_writer_ints L (⟨v2_3⟩ : checkpoint_writer) [x.Id, x.Routine, x.Pc]) fun r6 =>
 (Option.bind (F_checkpoint_writer_list L (⟨r6.2.u_b⟩ : checkpoint_writer) (x.Slots)) fun r7 =>
 (Option.bind (F_checkpoint_writer_ints L (⟨r7.2.u_b⟩ : checkpoint_writer) [x.Status, x.Born, x.Left]) fun r8 =>
 (lq_checkpoint_writer_state_2 L a1 k (i + 1) r8.2.u_b))))
theorem lq0_checkpoint_writer_state_2  (L : Nat) (a1 : api_State) (n : Nat) (hl : a1.Procs.length ≤ maxLen) (hn : a1.Procs.length < n) : ∀ (v2_3 : List Int), lp_checkpoint_writer_state_2  L a1 n 0 v2_3 = lq_checkpoint_writer_state_2 L a1 a1.Procs 0 v2_3 := lQ (fun k i n => ∀ (v2_3 : List Int), lp_checkpoint_writer_state_2  L a1 n (i : Int) v2_3 = lq_checkpoint_writer_state_2 L a1 k i v2_3) hl hn (fun n i h v2_3 => by simp only [lp_checkpoint_writer_state_2, lb_checkpoint_writer_state_2, lq_checkpoint_writer_state_2, d_ge h, aN, aB, aC]) (fun n i x k h hx ih v2_3 => by simp only [lp_checkpoint_writer_state_2, lb_checkpoint_writer_state_2, lq_checkpoint_writer_state_2, d_lt h, ltI h, hx, w64_succ h hl, ih, aN, aB, aC])
def lq_checkpoint_writer_state_3  (L : Nat) (a1 : api_State) : List api_Resource → Nat → List Int → Option (Nat × (Int × List Int))
  | [], i, v3_3 => (some (0, ((i : Int), v3_3)))
  | x :: k, i, v3_3 => (Option.bind (F_checkpoint_bit L (x.Down)) fun r13 =>
 (Option.bind (F_checkpoint_writer_ints L (⟨v3_3⟩ : checkpoint_writer) [x.Units, r13]) fun r14 =>
 (Option.bind (F_checkpoint_writer_claims L (⟨r14.2.u_b⟩ : checkpoint_writer) (x.Holders)) fun r15 =>
 (Option.bind (F_checkpoint_writer_claims L (⟨r15.2.u_b⟩ : checkpoint_writer) (x.Queue)) fun r16 =>
 (Option.bind (F_checkpoint_writer_ints L (⟨r16.2.u_b⟩ : checkpoint_writer) [x.Next]) fun r17 =>
 (lq_checkpoint_writer_state_3 L a1 k (i + 1) r17.2.u_b))))))
theorem lq0_checkpoint_writer_state_3  (L : Nat) (a1 : api_State) (n : Nat) (hl : a1.Resources.length ≤ maxLen) (hn : a1.Resources.length < n) : ∀ (v3_3 : List Int), lp_checkpoint_writer_state_3  L a1 n 0 v3_3 = lq_checkpoint_writer_state_3 L a1 a1.Resources 0 v3_3 := lQ (fun k i n => ∀ (v3_3 : List Int), lp_checkpoint_writer_state_3  L a1 n (i : Int) v3_3 = lq_checkpoint_writer_state_3 L a1 k i v3_3) hl hn (fun n i h v3_3 => by simp only [lp_checkpoint_writer_state_3, lb_checkpoint_writer_state_3, lq_checkpoint_writer_state_3, d_ge h, aN, aB, aC]) (fun n i x k h hx ih v3_3 => by simp only [lp_checkpoint_writer_state_3, lb_checkpoint_writer_state_3, lq_checkpoint_writer_state_3, d_lt h, ltI h, hx, w64_succ h hl, ih, aN, aB, aC])
def lq_checkpoint_writer_state_5  (L : Nat) (a1 : api_State) (v4_2 : Int) : List api_Ready → Nat → List Int → Option (Nat × (Int × List Int))
  | [], i, v5_6 => (some (0, ((i : Int), v5_6)))
  | x :: k, i, v5_6 => (Option.bind (F_checkpoint_writer_ints L (⟨v5_6⟩ : checkpoint_writer) [x.Proc, x.Item]) fun r23 =>
 (lq_checkpoint_writer_state_5 L a1 v4_2 k (i + 1) r23.2.u_b))
theorem lq0_checkpoint_writer_state_5  (L : Nat) (a1 : api_State) (v4_2 : Int) (n : Nat) (hl : ((a1.Stores.getD (Int.toNat v4_2) default).Putters).length ≤ maxLen) (hn : ((a1.Stores.getD (Int.toNat v4_2) default).Putters).length < n) : ∀ (v5_6 : List Int), lp_checkpoint_writer_state_5  L a1 v4_2 n 0 v5_6 = lq_checkpoint_writer_state_5 L a1 v4_2 ((a1.Stores.getD (Int.toNat v4_2) default).Putters) 0 v5_6 := lQ (fun k i n => ∀ (v5_6 : List Int), lp_checkpoint_writer_state_5  L a1 v4_2 n (i : Int) v5_6 = lq_checkpoint_writer_state_5 L a1 v4_2 k i v5_6) hl hn (fun n i h v5_6 => by simp only [lp_checkpoint_writer_state_5, lb_checkpoint_writer_state_5, lq_checkpoint_writer_state_5, d_ge h, aN, aB, aC]) (fun n i x k h hx ih v5_6 => by simp only [lp_checkpoint_writer_state_5, lb_checkpoint_writer_state_5, lq_checkpoint_writer_state_5, d_lt h, ltI h, hx, w64_succ h hl, ih, aN, aB, aC])
def lq_checkpoint_writer_state_4  (L : Nat) (a1 : api_State) : List api_Store → Nat → List Int → Option (Nat × (Int × List Int))
  | [], i, v4_3 => (some (0, ((i : Int), v4_3)))
  | x :: k, i, v4_3 => (Option.bind (F_checkpoint_writer_ints L (⟨v4_3⟩ : checkpoint_writer) [x.Room, x.Policy]) fun r20 =>
 (Option.bind (F_checkpoint_writer_list L (⟨r20.2.u_b⟩ : checkpoint_writer) (x.Items)) fun r21 =>
 (Option.bind (F_checkpoint_writer_ints L (⟨r21.2.u_b⟩ : checkpoint_writer) [((x.Putters).length : Int)]) fun r22 =>
 (Option.bind (lp_checkpoint_writer_state_5 L a1 (i : Int) L 0 r22.2.u_b) fun o24 =>
 (selo o24.1 [(Option.bind (F_checkpoint_writer_list L (⟨o24.2.2⟩ : checkpoint_writer) (x.Getters)) fun r25 =>
 (Option.bind (F_checkpoint_writer_ints L (⟨r25.2.u_b⟩ : checkpoint_writer) [x.In, x.Out]) fun r26 =>
 (lq_checkpoint_writer_state_4 L a1 k (i + 1) r26.2.u_b)))])))))
theorem lq0_checkpoint_writer_state_4  (L : Nat) (a1 : api_State) (n : Nat) (hl : a1.Stores.length ≤ maxLen) (hn : a1.Stores.length < n) : ∀ (v4_3 : List Int), lp_checkpoint_writer_state_4  L a1 n 0 v4_3 = lq_checkpoint_writer_state_4 L a1 a1.Stores 0 v4_3 := lQ (fun k i n => ∀ (v4_3 : List Int), lp_checkpoint_writer_state_4  L a1 n (i : Int) v4_3 = lq_checkpoint_writer_state_4 L a1 k i v4_3) hl hn (fun n i h v4_3 => by simp only [lp_checkpoint_writer_state_4, lb_checkpoint_writer_state_4, wx_checkpoint_writer_state_4, rx_checkpoint_writer_state_4, lq_checkpoint_writer_state_4, d_ge h, aN, aB, aC]) (fun n i x k h hx ih v4_3 => by simp only [lp_checkpoint_writer_state_4, lb_checkpoint_writer_state_4, wx_checkpoint_writer_state_4, rx_checkpoint_writer_state_4, lq_checkpoint_writer_state_4, d_lt h, ltI h, hx, w64_succ h hl, ih, aN, aB, aC])
def lq_checkpoint_writer_state_7  (L : Nat) (a1 : api_State) (v6_2 : Int) : List api_Rider → Nat → List Int → Option (Nat × (Int × List Int))
  | [], i, v7_6 => (some (0, ((i : Int), v7_6)))
  | x :: k, i, v7_6 => (Option.bind (F_checkpoint_writer_ints L (⟨v7_6⟩ : checkpoint_writer) [x.Proc, x.Entry, x.Exit]) fun r30 =>
 (lq_checkpoint_writer_state_7 L a1 v6_2 k (i + 1) r30.2.u_b))
theorem lq0_checkpoint_writer_state_7  (L : Nat) (a1 : api_State) (v6_2 : Int) (n : Nat) (hl : ((a1.Belts.getD (Int.toNat v6_2) default).Riders).length ≤ maxLen) (hn : ((a1.Belts.getD (Int.toNat v6_2) default).Riders).length < n) : ∀ (v7_6 : List Int), lp_checkpoint_writer_state_7  L a1 v6_2 n 0 v7_6 = lq_checkpoint_writer_state_7 L a1 v6_2 ((a1.Belts.getD (Int.toNat v6_2) default).Riders) 0 v7_6 := lQ (fun k i n => ∀ (v7_6 : List Int), lp_checkpoint_writer_state_7  L a1 v6_2 n (i : Int) v7_6 = lq_checkpoint_writer_state_7 L a1 v6_2 k i v7_6) hl hn (fun n i h v7_6 => by simp only [lp_checkpoint_writer_state_7, lb_checkpoint_writer_state_7, lq_checkpoint_writer_state_7, d_ge h, aN, aB, aC]) (fun n i x k h hx ih v7_6 => by simp only [lp_checkpoint_writer_state_7, lb_checkpoint_writer_state_7, lq_checkpoint_writer_state_7, d_lt h, ltI h, hx, w64_succ h hl, ih, aN, aB, aC])
def lq_checkpoint_writer_state_6  (L : Nat) (a1 : api_State) : List api_Belt → Nat → List Int → Option (Nat × (Int × List Int))
  | [], i, v6_3 => (some (0, ((i : Int), v6_3)))
  | x :: k, i, v6_3 => (Option.bind (F_checkpoint_writer_ints L (⟨v6_3⟩ : checkpoint_writer) [x.Length, x.Step, ((x.Riders).length : Int)]) fun r29 =>
 (Option.bind (lp_checkpoint_writer_state_7 L a1 (i : Int) L 0 r29.2.u_b) fun o31 =>
 (selo o31.1 [(Option.bind (F_checkpoint_writer_ints L (⟨o31.2.2⟩ : checkpoint_writer) [x.Last]) fun r32 =>
 (lq_checkpoint_writer_state_6 L a1 k (i + 1) r32.2.u_b))])))
theorem lq0_checkpoint_writer_state_6  (L : Nat) (a1 : api_State) (n : Nat) (hl : a1.Belts.length ≤ maxLen) (hn : a1.Belts.length < n) : ∀ (v6_3 : List Int), lp_checkpoint_writer_state_6  L a1 n 0 v6_3 = lq_checkpoint_writer_state_6 L a1 a1.Belts 0 v6_3 := lQ (fun k i n => ∀ (v6_3 : List Int), lp_checkpoint_writer_state_6  L a1 n (i : Int) v6_3 = lq_checkpoint_writer_state_6 L a1 k i v6_3) hl hn (fun n i h v6_3 => by simp only [lp_checkpoint_writer_state_6, lb_checkpoint_writer_state_6, wx_checkpoint_writer_state_6, rx_checkpoint_writer_state_6, lq_checkpoint_writer_state_6, d_ge h, aN, aB, aC]) (fun n i x k h hx ih v6_3 => by simp only [lp_checkpoint_writer_state_6, lb_checkpoint_writer_state_6, wx_checkpoint_writer_state_6, rx_checkpoint_writer_state_6, lq_checkpoint_writer_state_6, d_lt h, ltI h, hx, w64_succ h hl, ih, aN, aB, aC])
def lq_checkpoint_writer_state_8  (L : Nat) (a1 : api_State) : List ((List Int)) → Nat → List Int → Option (Nat × (Int × List Int))
  | [], i, v8_3 => (some (0, ((i : Int), v8_3)))
  | x :: k, i, v8_3 => (Option.bind (F_checkpoint_writer_list L (⟨v8_3⟩ : checkpoint_writer) x) fun r35 =>
 (lq_checkpoint_writer_state_8 L a1 k (i + 1) r35.2.u_b))
theorem lq0_checkpoint_writer_state_8  (L : Nat) (a1 : api_State) (n : Nat) (hl : a1.Queues.length ≤ maxLen) (hn : a1.Queues.length < n) : ∀ (v8_3 : List Int), lp_checkpoint_writer_state_8  L a1 n 0 v8_3 = lq_checkpoint_writer_state_8 L a1 a1.Queues 0 v8_3 := lQ (fun k i n => ∀ (v8_3 : List Int), lp_checkpoint_writer_state_8  L a1 n (i : Int) v8_3 = lq_checkpoint_writer_state_8 L a1 k i v8_3) hl hn (fun n i h v8_3 => by simp only [lp_checkpoint_writer_state_8, lb_checkpoint_writer_state_8, lq_checkpoint_writer_state_8, d_ge h, aN, aB, aC]) (fun n i x k h hx ih v8_3 => by simp only [lp_checkpoint_writer_state_8, lb_checkpoint_writer_state_8, lq_checkpoint_writer_state_8, d_lt h, ltI h, hx, w64_succ h hl, ih, aN, aB, aC])
def lq_checkpoint_writer_state_9  (L : Nat) (a1 : api_State) : List api_Stream → Nat → List Int → Option (Nat × (Int × List Int))
  | [], i, v9_3 => (some (0, ((i : Int), v9_3)))
  | x :: k, i, v9_3 => (Option.bind (F_checkpoint_bit L (x.Anti)) fun r38 =>
 (Option.bind (F_checkpoint_writer_ints L (⟨v9_3⟩ : checkpoint_writer) [(w64 ((Int.fdiv (x.Key) (2 ^ 32)))), (w64 ((IntKind.wrap .u64 (((BitVec.ofInt 64 (x.Key) &&& BitVec.ofInt 64 4294967295).toNat : Int))))), x.Pos, r38]) fun r39 =>
 (lq_checkpoint_writer_state_9 L a1 k (i + 1) r39.2.u_b)))
theorem lq0_checkpoint_writer_state_9  (L : Nat) (a1 : api_State) (n : Nat) (hl : a1.Streams.length ≤ maxLen) (hn : a1.Streams.length < n) : ∀ (v9_3 : List Int), lp_checkpoint_writer_state_9  L a1 n 0 v9_3 = lq_checkpoint_writer_state_9 L a1 a1.Streams 0 v9_3 := lQ (fun k i n => ∀ (v9_3 : List Int), lp_checkpoint_writer_state_9  L a1 n (i : Int) v9_3 = lq_checkpoint_writer_state_9 L a1 k i v9_3) hl hn (fun n i h v9_3 => by simp only [lp_checkpoint_writer_state_9, lb_checkpoint_writer_state_9, lq_checkpoint_writer_state_9, d_ge h, aN, aB, aC]) (fun n i x k h hx ih v9_3 => by simp only [lp_checkpoint_writer_state_9, lb_checkpoint_writer_state_9, lq_checkpoint_writer_state_9, d_lt h, ltI h, hx, w64_succ h hl, ih, aN, aB, aC])
def lq_checkpoint_writer_state_10  (L : Nat) (a1 : api_State) : List api_Tally → Nat → List Int → Option (Nat × (Int × List Int))
  | [], i, v10_3 => (some (0, ((i : Int), v10_3)))
  | x :: k, i, v10_3 => (Option.bind (F_checkpoint_writer_ints L (⟨v10_3⟩ : checkpoint_writer) [x.N, x.Sum, x.Squares, x.Min, x.Max]) fun r42 =>
 (lq_checkpoint_writer_state_10 L a1 k (i + 1) r42.2.u_b))
theorem lq0_checkpoint_writer_state_10  (L : Nat) (a1 : api_State) (n : Nat) (hl : a1.Tallies.length ≤ maxLen) (hn : a1.Tallies.length < n) : ∀ (v10_3 : List Int), lp_checkpoint_writer_state_10  L a1 n 0 v10_3 = lq_checkpoint_writer_state_10 L a1 a1.Tallies 0 v10_3 := lQ (fun k i n => ∀ (v10_3 : List Int), lp_checkpoint_writer_state_10  L a1 n (i : Int) v10_3 = lq_checkpoint_writer_state_10 L a1 k i v10_3) hl hn (fun n i h v10_3 => by simp only [lp_checkpoint_writer_state_10, lb_checkpoint_writer_state_10, lq_checkpoint_writer_state_10, d_ge h, aN, aB, aC]) (fun n i x k h hx ih v10_3 => by simp only [lp_checkpoint_writer_state_10, lb_checkpoint_writer_state_10, lq_checkpoint_writer_state_10, d_lt h, ltI h, hx, w64_succ h hl, ih, aN, aB, aC])
def lq_checkpoint_writer_state_11  (L : Nat) (a1 : api_State) : List api_Level → Nat → List Int → Option (Nat × (Int × List Int))
  | [], i, v11_3 => (some (0, ((i : Int), v11_3)))
  | x :: k, i, v11_3 => (Option.bind (F_checkpoint_writer_ints L (⟨v11_3⟩ : checkpoint_writer) [x.Value, x.Since, x.Begin, x.Area, x.Min, x.Max]) fun r45 =>
 (lq_checkpoint_writer_state_11 L a1 k (i + 1) r45.2.u_b))
theorem lq0_checkpoint_writer_state_11  (L : Nat) (a1 : api_State) (n : Nat) (hl : a1.Levels.length ≤ maxLen) (hn : a1.Levels.length < n) : ∀ (v11_3 : List Int), lp_checkpoint_writer_state_11  L a1 n 0 v11_3 = lq_checkpoint_writer_state_11 L a1 a1.Levels 0 v11_3 := lQ (fun k i n => ∀ (v11_3 : List Int), lp_checkpoint_writer_state_11  L a1 n (i : Int) v11_3 = lq_checkpoint_writer_state_11 L a1 k i v11_3) hl hn (fun n i h v11_3 => by simp only [lp_checkpoint_writer_state_11, lb_checkpoint_writer_state_11, lq_checkpoint_writer_state_11, d_ge h, aN, aB, aC]) (fun n i x k h hx ih v11_3 => by simp only [lp_checkpoint_writer_state_11, lb_checkpoint_writer_state_11, lq_checkpoint_writer_state_11, d_lt h, ltI h, hx, w64_succ h hl, ih, aN, aB, aC])
def lq_checkpoint_body_1  (L : Nat) (a0 : api_World) : List api_State → Nat → List Int → Option (Nat × (Int × List Int))
  | [], i, v1_5 => (some (0, ((i : Int), v1_5)))
  | x :: k, i, v1_5 => (Option.bind (F_checkpoint_writer_state L (⟨v1_5⟩ : checkpoint_writer) x) fun r2 =>
 (lq_checkpoint_body_1 L a0 k (i + 1) r2.2.u_b))
theorem lq0_checkpoint_body_1  (L : Nat) (a0 : api_World) (n : Nat) (hl : a0.Sites.length ≤ maxLen) (hn : a0.Sites.length < n) : ∀ (v1_5 : List Int), lp_checkpoint_body_1  L a0 n 0 v1_5 = lq_checkpoint_body_1 L a0 a0.Sites 0 v1_5 := lQ (fun k i n => ∀ (v1_5 : List Int), lp_checkpoint_body_1  L a0 n (i : Int) v1_5 = lq_checkpoint_body_1 L a0 k i v1_5) hl hn (fun n i h v1_5 => by simp only [lp_checkpoint_body_1, lb_checkpoint_body_1, lq_checkpoint_body_1, d_ge h, aN, aB, aC]) (fun n i x k h hx ih v1_5 => by simp only [lp_checkpoint_body_1, lb_checkpoint_body_1, lq_checkpoint_body_1, d_lt h, ltI h, hx, w64_succ h hl, ih, aN, aB, aC])
def lq_R30_light_1  (L : Nat) (a0 : api_Code) : List api_Instr → Nat → Bool → Option (Nat × (Bool × Int))
  | [], i, v1_0 => (some (1, (v1_0, (i : Int))))
  | x :: k, i, v1_0 => (if (([(x.E), (x.F)].length + (x.Args).length) * 56 ≤ 140737488355328) then (if ([(x.E), (x.F)].length + (x.Args).length ≤ maxLen) then (Option.bind (lp_R30_light_2 L (i : Int) a0 L v1_0 0) fun o3 =>
 (selo o3.1 [(some (0, (o3.2.1, (i : Int)))), (lq_R30_light_1 L a0 k (i + 1) o3.2.1)])) else none) else none)
theorem lq0_R30_light_1  (L : Nat) (a0 : api_Code) (n : Nat) (hl : a0.Instrs.length ≤ maxLen) (hn : a0.Instrs.length < n) : ∀ (v1_0 : Bool), lp_R30_light_1  L a0 n v1_0 0 = lq_R30_light_1 L a0 a0.Instrs 0 v1_0 := lQ (fun k i n => ∀ (v1_0 : Bool), lp_R30_light_1  L a0 n v1_0 (i : Int) = lq_R30_light_1 L a0 k i v1_0) hl hn (fun n i h v1_0 => by simp only [lp_R30_light_1, lb_R30_light_1, wx_R30_light_1, rx_R30_light_1, lq_R30_light_1, d_ge h, aN, aB, aC]) (fun n i x k h hx ih v1_0 => by simp only [lp_R30_light_1, lb_R30_light_1, wx_R30_light_1, rx_R30_light_1, lq_R30_light_1, d_lt h, ltI h, hx, w64_succ h hl, ih, aN, aB, aC])
def lq_R30_SmallCode_2  (L : Nat) (v1_1 : Int) (a0 : api_Program) : List api_Code → Nat → Bool → Option (Nat × (Bool × Int))
  | [], i, v2_0 => (some (1, (v2_0, (i : Int))))
  | x :: k, i, v2_0 => (Option.bind (bif (decide (((x.Instrs).length : Int) > 80)) then (some true)
 else (if ((0 : Int) ≤ (i : Int)) then (if ((i : Int) < ((((a0.Sites.getD (Int.toNat v1_1) default).Routines).length : Nat) : Int)) then (Option.bind (F_R30_light L x) fun r15 =>
 (some (!r15))) else none) else none)) fun b14 =>
 (bif b14 then (some (0, (false, (i : Int))))
 else (lq_R30_SmallCode_2 L v1_1 a0 k (i + 1) v2_0)))
theorem lq0_R30_SmallCode_2  (L : Nat) (v1_1 : Int) (a0 : api_Program) (n : Nat) (hl : ((a0.Sites.getD (Int.toNat v1_1) default).Routines).length ≤ maxLen) (hn : ((a0.Sites.getD (Int.toNat v1_1) default).Routines).length < n) : ∀ (v2_0 : Bool), lp_R30_SmallCode_2  L v1_1 a0 n v2_0 0 = lq_R30_SmallCode_2 L v1_1 a0 ((a0.Sites.getD (Int.toNat v1_1) default).Routines) 0 v2_0 := lQ (fun k i n => ∀ (v2_0 : Bool), lp_R30_SmallCode_2  L v1_1 a0 n v2_0 (i : Int) = lq_R30_SmallCode_2 L v1_1 a0 k i v2_0) hl hn (fun n i h v2_0 => by simp only [lp_R30_SmallCode_2, lb_R30_SmallCode_2, lq_R30_SmallCode_2, d_ge h, aN, aB, aC]) (fun n i x k h hx ih v2_0 => by simp only [lp_R30_SmallCode_2, lb_R30_SmallCode_2, lq_R30_SmallCode_2, d_lt h, ltI h, hx, w64_succ h hl, ih, aN, aB, aC])
def lq_R30_SmallCode_1  (L : Nat) (a0 : api_Program) : List api_SiteCode → Nat → Bool → Option (Nat × (Bool × Int))
  | [], i, v1_0 => (some (1, (v1_0, (i : Int))))
  | x :: k, i, v1_0 => ((fun b2 =>
 ((fun b3 =>
 ((fun b4 =>
 ((fun b5 =>
 ((fun b6 =>
 ((fun b7 =>
 ((fun b8 =>
 ((fun b9 =>
 ((fun b10 =>
 ((fun b11 =>
 ((fun b12 =>
 ((fun b13 =>
 (bif b13 then (some (0, (false, (i : Int))))
 else (Option.bind (lp_R30_SmallCode_2 L (i : Int) a0 L v1_0 0) fun o16 =>
 (selo o16.1 [(some (0, (o16.2.1, (i : Int)))), (lq_R30_SmallCode_1 L a0 k (i + 1) o16.2.1)])))) (bif b12 then true
 else (decide ((((x.Decl).Laws).length : Int) > 6))))) (bif b11 then true
 else (decide ((((x.Decl).Counts).length : Int) > 6))))) (bif b10 then true
 else (decide ((((x.Decl).Levels).length : Int) > 6))))) (bif b9 then true
 else (decide ((((x.Decl).Tallies).length : Int) > 6))))) (bif b8 then true
 else (decide ((((x.Decl).Streams).length : Int) > 6))))) (bif b7 then true
 else (decide ((((x.Decl).Queues).length : Int) > 6))))) (bif b6 then true
 else (decide ((((x.Decl).Belts).length : Int) > 6))))) (bif b5 then true
 else (decide ((((x.Decl).Stores).length : Int) > 6))))) (bif b4 then true
 else (decide ((((x.Decl).Resources).length : Int) > 6))))) (bif b3 then true
 else (decide ((((x.Decl).Vars).length : Int) > 12))))) (bif b2 then true
 else (decide ((((x.Decl).Starts).length : Int) > 8))))) (bif (decide (((x.Routines).length : Int) > 6)) then true
 else (decide ((((x.Decl).Routines).length : Int) > 6))))
theorem lq0_R30_SmallCode_1  (L : Nat) (a0 : api_Program) (n : Nat) (hl : a0.Sites.length ≤ maxLen) (hn : a0.Sites.length < n) : ∀ (v1_0 : Bool), lp_R30_SmallCode_1  L a0 n v1_0 0 = lq_R30_SmallCode_1 L a0 a0.Sites 0 v1_0 := lQ (fun k i n => ∀ (v1_0 : Bool), lp_R30_SmallCode_1  L a0 n v1_0 (i : Int) = lq_R30_SmallCode_1 L a0 k i v1_0) hl hn (fun n i h v1_0 => by simp only [lp_R30_SmallCode_1, lb_R30_SmallCode_1, wx_R30_SmallCode_1, rx_R30_SmallCode_1, lq_R30_SmallCode_1, d_ge h, aN, aB, aC]) (fun n i x k h hx ih v1_0 => by simp only [lp_R30_SmallCode_1, lb_R30_SmallCode_1, wx_R30_SmallCode_1, rx_R30_SmallCode_1, lq_R30_SmallCode_1, d_lt h, ltI h, hx, w64_succ h hl, ih, aN, aB, aC])
end Go.Proofs.YtpdlcbmnmeihoaaGreatDoor.Ev
