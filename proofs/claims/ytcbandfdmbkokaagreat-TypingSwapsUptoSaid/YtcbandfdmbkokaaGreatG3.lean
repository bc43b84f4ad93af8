import Derived.Test.YtcbandfdmbkokaaGreatG2
namespace Go.Proofs.YtcbandfdmbkokaaGreat.Ev
open Go
set_option maxRecDepth 100000
set_option linter.unusedVariables false
set_option linter.unusedSimpArgs false
set_option linter.unnecessarySimpa false
/-! ### simulator/simulatorref09.node -/
noncomputable def c77 : EC := (cFn Tryz.prog inl Tryz.f77).getD .stop
def O77 (rec77 : api_Expr → Bool → Option Int) (L : Nat) : Oracle := (orc 66 (A1 (fun (x : Int) => I x) cS (F_R07_Check L)) (orc 77 (A2 (fun (x : Int) => I x) ca_api_Expr cB rec77) (orc 154 (A1 (fun (x : Int) => I x) (cI .i64) (F_R09_Arity L)) (orc 155 (A1 (fun (x : Bool) => B x) (cI .i64) (F_R09_object L)) (orc 156 (A1 (fun (x : Bool) => B x) (cI .i64) (F_R01_In L)) (orc 157 (A1 (fun (x : Int) => I x) (cI .i64) (F_R09_most L)) noC))))))
theorem s77 (rec77 : api_Expr → Bool → Option Int) (hr77 : ∀ (y0 : api_Expr) (y1 : Bool) (r : Int), rec77 y0 y1 = some r → Holds Tryz.prog 77 [.agg (enapi_Expr y0), B y1] (I r)) (L : Nat) : SoundC Tryz.prog (O77 rec77 L) := (orc_sound (a1 _ (h66 L)) (orc_sound (a2 _ hr77) (orc_sound (a1 _ (h154 L)) (orc_sound (a1 _ (h155 L)) (orc_sound (a1 _ (h156 L)) (orc_sound (a1 _ (h157 L)) (noC_sound Tryz.prog)))))))
def sh77_1 (a1 : Bool) (a0 : api_Expr) (v1_1 : Int) (v1_2 : Int) : St := ({ fr := [(0, .any), (1, B a1), (2, .loc 2 0), (4, I v1_1), (5, .any), (6, .any), (7, .any), (8, .any), (9, .any), (10, I v1_2)], ob := [(2, (enapi_Expr a0))], base := 0 } : St)
def KK77_1 (a1 : Bool) (a0 : api_Expr) (K : Ex → St → Prop) : Nat × (Int × Int) → Prop := fun o => seln o.1 [K .ret (sh77_1 a1 a0 o.2.1 o.2.2), K (.exit 0) (sh77_1 a1 a0 o.2.1 o.2.2)]
def lb_R09_node_1 {A : Type} (an : An A) (rec77 : api_Expr → Bool → Option Int) (L : Nat) (a1 : Bool) (a0 : api_Expr) (rec : Int → Int → A) (out : Nat × (Int × Int) → A) (v1_1 : Int) (v1_2 : Int) : A :=
 (an.cn (decide (v1_2 < (a0.Kids.length : Int)))
 (an.gd ((0 : Int) ≤ v1_2)
 (an.gd (v1_2 < ((a0.Kids.length : Nat) : Int))
 (an.bd (rec77 (api_Expr.cp (a0.Kids.getD (Int.toNat v1_2) default)) a1) fun r20 =>
 (an.cn (r20 != 0)
 (an.lf out (0, (r20, v1_2)))
 (rec v1_1 (w64 (v1_2 + 1)))))))
 (an.lf out (1, (v1_1, v1_2))))
def lp_R09_node_1 (rec77 : api_Expr → Bool → Option Int) (L : Nat) (a1 : Bool) (a0 : api_Expr) : Nat → Int → Int → Option (Nat × (Int × Int))
  | 0, _, _ => none
  | n + 1, v1_1, v1_2 => lb_R09_node_1 (anO _) rec77 L a1 a0 (lp_R09_node_1 rec77 L a1 a0 n) some v1_1 v1_2
theorem ln77_1 (rec77 : api_Expr → Bool → Option Int) (L : Nat) (a1 : Bool) (a0 : api_Expr) (g : Int → Int → Option (Nat × (Int × Int))) (Q : Nat × (Int × Int) → Prop) (v1_1 : Int) (v1_2 : Int) : lb_R09_node_1 anP rec77 L a1 a0 (fun v1_1 v1_2 => ob (g v1_1 v1_2) Q) Q v1_1 v1_2 = ob (lb_R09_node_1 (anO _) rec77 L a1 a0 g some v1_1 v1_2) Q := by
  unfold lb_R09_node_1
  dsimp only [anP, anO]
  try simp only [y1, y2, y3, y4, y5 Q, y6, y7, y8 Q, y9, z1, z2, z3, z4]
theorem le77_1 (rec77 : api_Expr → Bool → Option Int) (L : Nat) (a1 : Bool) (a0 : api_Expr) (n : Nat) (v1_1 : Int) (v1_2 : Int) (K : Ex → St → Prop) : loopN (EV (O77 rec77 L) L 9 c77.r.r.r.r.r.r.r.r.r.r.r.r.r.r.r.r.r.r.l.r.r.l.l) [0, 1, 2, 4, 5, 6, 7, 8, 9, 10] [2] n (sh77_1 a1 a0 v1_1 v1_2) K = ob (lp_R09_node_1 rec77 L a1 a0 n v1_1 v1_2) (fun o => KK77_1 a1 a0 K o) := by
  induction n generalizing v1_1 v1_2 with
  | zero => rfl
  | succ n ih =>
    refine Eq.trans (b := lb_R09_node_1 anP rec77 L a1 a0 (fun v1_1 v1_2 => loopN (EV (O77 rec77 L) L 9 c77.r.r.r.r.r.r.r.r.r.r.r.r.r.r.r.r.r.r.l.r.r.l.l) [0, 1, 2, 4, 5, 6, 7, 8, 9, 10] [2] n (sh77_1 a1 a0 v1_1 v1_2) K) (KK77_1 a1 a0 K) v1_1 v1_2) (by kernel_rfl) ?_
    simp only [ih]
    exact ln77_1 rec77 L a1 a0 (lp_R09_node_1 rec77 L a1 a0 n) (KK77_1 a1 a0 K) v1_1 v1_2
theorem es77_1 (rec77 : api_Expr → Bool → Option Int) (L : Nat) (st : St) (k : Ex → St → Prop) : EV (O77 rec77 L) L 9 c77 st k = EV (O77 rec77 L) L 9 c77.l st (kSeq (EV (O77 rec77 L) L 9 c77.r) k) := evC_seq (by kernel_rfl)
theorem q77_1 (rec77 : api_Expr → Bool → Option Int) (L : Nat) (a0 : api_Expr) (a1 : Bool) (kz : Ex → St → Prop) : EV (O77 rec77 L) L 9 c77.l ({ fr := [(0, .agg (enapi_Expr a0)), (1, B a1)], ob := [], base := 0 } : St) kz =
 (kz .normal ({ fr := [(4, I 0), (2, .loc 2 0), (0, .agg (enapi_Expr a0)), (1, B a1)], ob := [(2, (enapi_Expr a0))], base := 0 } : St)) := by kernel_rfl
theorem es77_2 (rec77 : api_Expr → Bool → Option Int) (L : Nat) (st : St) (k : Ex → St → Prop) : EV (O77 rec77 L) L 9 c77.r st k = EV (O77 rec77 L) L 9 c77.r.l st (kSeq (EV (O77 rec77 L) L 9 c77.r.r) k) := evC_seq (by kernel_rfl)
theorem q77_2 (rec77 : api_Expr → Bool → Option Int) (L : Nat) (a0 : api_Expr) (a1 : Bool) (kz : Ex → St → Prop) : EV (O77 rec77 L) L 9 c77.r.l ({ fr := [(4, I 0), (2, .loc 2 0), (0, .agg (enapi_Expr a0)), (1, B a1)], ob := [(2, (enapi_Expr a0))], base := 0 } : St) kz =
 (kz .normal ({ fr := [(1, B a1), (2, .loc 2 0), (4, I 0)], ob := [(2, (enapi_Expr a0))], base := 0 } : St)) := by kernel_rfl
theorem es77_3 (rec77 : api_Expr → Bool → Option Int) (L : Nat) (st : St) (k : Ex → St → Prop) : EV (O77 rec77 L) L 9 c77.r.r st k = EV (O77 rec77 L) L 9 c77.r.r.l st (kSeq (EV (O77 rec77 L) L 9 c77.r.r.r) k) := evC_seq (by kernel_rfl)
theorem q77_3 (rec77 : api_Expr → Bool → Option Int) (L : Nat) (a1 : Bool) (a0 : api_Expr) (kz : Ex → St → Prop) : EV (O77 rec77 L) L 9 c77.r.r.l ({ fr := [(1, B a1), (2, .loc 2 0), (4, I 0)], ob := [(2, (enapi_Expr a0))], base := 0 } : St) kz =
 (ob (F_R09_Arity L a0.Op) fun r1 =>
 (kz .normal ({ fr := [(5, I r1), (14, I r1), (13, I a0.Op), (12, .loc 2 0), (1, B a1), (2, .loc 2 0), (4, I 0)], ob := [(2, (enapi_Expr a0))], base := 0 } : St))) := by kernel_rfl
theorem es77_4 (rec77 : api_Expr → Bool → Option Int) (L : Nat) (st : St) (k : Ex → St → Prop) : EV (O77 rec77 L) L 9 c77.r.r.r st k = EV (O77 rec77 L) L 9 c77.r.r.r.l st (kSeq (EV (O77 rec77 L) L 9 c77.r.r.r.r) k) := evC_seq (by kernel_rfl)
theorem q77_4 (rec77 : api_Expr → Bool → Option Int) (L : Nat) (r1 : Int) (a0 : api_Expr) (a1 : Bool) (kz : Ex → St → Prop) : EV (O77 rec77 L) L 9 c77.r.r.r.l ({ fr := [(5, I r1), (14, I r1), (13, I a0.Op), (12, .loc 2 0), (1, B a1), (2, .loc 2 0), (4, I 0)], ob := [(2, (enapi_Expr a0))], base := 0 } : St) kz =
 (kz .normal ({ fr := [(1, B a1), (2, .loc 2 0), (4, I 0), (5, I r1)], ob := [(2, (enapi_Expr a0))], base := 0 } : St)) := by kernel_rfl
theorem es77_5 (rec77 : api_Expr → Bool → Option Int) (L : Nat) (st : St) (k : Ex → St → Prop) : EV (O77 rec77 L) L 9 c77.r.r.r.r st k = EV (O77 rec77 L) L 9 c77.r.r.r.r.l st (kSeq (EV (O77 rec77 L) L 9 c77.r.r.r.r.r) k) := evC_seq (by kernel_rfl)
theorem q77_5 (rec77 : api_Expr → Bool → Option Int) (L : Nat) (a1 : Bool) (r1 : Int) (a0 : api_Expr) (kz : Ex → St → Prop) : EV (O77 rec77 L) L 9 c77.r.r.r.r.l ({ fr := [(1, B a1), (2, .loc 2 0), (4, I 0), (5, I r1)], ob := [(2, (enapi_Expr a0))], base := 0 } : St) kz =
 (jn (fun j => (br (decide (r1 ≥ 0))
 (br a1
 (br (a0.Op != 3)
 (ap j true)
 (br (!a1)
 (ap j (decide (a0.Op ≤ 24)))
 (ap j false)))
 (br (!a1)
 (ap j (decide (a0.Op ≤ 24)))
 (ap j false)))
 (ap j false))) (fun b2 =>
 (kz .normal ({ fr := [(6, B b2), (33, B b2), (18, .any), (19, .any), (20, .any), (21, .any), (22, .any), (23, .any), (24, .any), (25, .any), (26, .any), (27, .any), (28, .any), (29, .any), (30, .any), (31, .any), (32, .any), (33, .any), (17, B (decide (r1 ≥ 0))), (16, B (decide (r1 ≥ 0))), (15, I r1), (1, B a1), (2, .loc 2 0), (4, I 0), (5, I r1)], ob := [(2, (enapi_Expr a0))], base := 0 } : St)))) := by kernel_rfl
theorem es77_6 (rec77 : api_Expr → Bool → Option Int) (L : Nat) (st : St) (k : Ex → St → Prop) : EV (O77 rec77 L) L 9 c77.r.r.r.r.r st k = EV (O77 rec77 L) L 9 c77.r.r.r.r.r.l st (kSeq (EV (O77 rec77 L) L 9 c77.r.r.r.r.r.r) k) := evC_seq (by kernel_rfl)
theorem q77_6 (rec77 : api_Expr → Bool → Option Int) (L : Nat) (b2 : Bool) (r1 : Int) (a1 : Bool) (a0 : api_Expr) (kz : Ex → St → Prop) : EV (O77 rec77 L) L 9 c77.r.r.r.r.r.l ({ fr := [(6, B b2), (33, B b2), (18, .any), (19, .any), (20, .any), (21, .any), (22, .any), (23, .any), (24, .any), (25, .any), (26, .any), (27, .any), (28, .any), (29, .any), (30, .any), (31, .any), (32, .any), (33, .any), (17, B (decide (r1 ≥ 0))), (16, B (decide (r1 ≥ 0))), (15, I r1), (1, B a1), (2, .loc 2 0), (4, I 0), (5, I r1)], ob := [(2, (enapi_Expr a0))], base := 0 } : St) kz =
 (kz .normal ({ fr := [(1, B a1), (2, .loc 2 0), (4, I 0), (5, I r1), (6, B b2)], ob := [(2, (enapi_Expr a0))], base := 0 } : St)) := by kernel_rfl
theorem es77_7 (rec77 : api_Expr → Bool → Option Int) (L : Nat) (st : St) (k : Ex → St → Prop) : EV (O77 rec77 L) L 9 c77.r.r.r.r.r.r st k = EV (O77 rec77 L) L 9 c77.r.r.r.r.r.r.l st (kSeq (EV (O77 rec77 L) L 9 c77.r.r.r.r.r.r.r) k) := evC_seq (by kernel_rfl)
theorem q77_7 (rec77 : api_Expr → Bool → Option Int) (L : Nat) (a1 : Bool) (r1 : Int) (b2 : Bool) (a0 : api_Expr) (kz : Ex → St → Prop) : EV (O77 rec77 L) L 9 c77.r.r.r.r.r.r.l ({ fr := [(1, B a1), (2, .loc 2 0), (4, I 0), (5, I r1), (6, B b2)], ob := [(2, (enapi_Expr a0))], base := 0 } : St) kz =
 (jn (fun j => (br (!a1)
 (br (a0.Op == 3)
 (ob (some true) j)
 (ob (F_R09_object L a0.Op) fun r4 =>
 (ob (some r4) j)))
 (ob (some false) j))) (fun b3 =>
 (kz .normal ({ fr := [(7, B b3), (45, B b3), (37, .any), (38, .any), (39, .any), (40, .any), (41, .any), (42, .any), (43, .any), (44, .any), (45, .any), (36, B (!a1)), (35, B (!a1)), (34, B a1), (1, B a1), (2, .loc 2 0), (4, I 0), (5, I r1), (6, B b2)], ob := [(2, (enapi_Expr a0))], base := 0 } : St)))) := by kernel_rfl
theorem es77_8 (rec77 : api_Expr → Bool → Option Int) (L : Nat) (st : St) (k : Ex → St → Prop) : EV (O77 rec77 L) L 9 c77.r.r.r.r.r.r.r st k = EV (O77 rec77 L) L 9 c77.r.r.r.r.r.r.r.l st (kSeq (EV (O77 rec77 L) L 9 c77.r.r.r.r.r.r.r.r) k) := evC_seq (by kernel_rfl)
theorem q77_8 (rec77 : api_Expr → Bool → Option Int) (L : Nat) (b3 : Bool) (a1 : Bool) (r1 : Int) (b2 : Bool) (a0 : api_Expr) (kz : Ex → St → Prop) : EV (O77 rec77 L) L 9 c77.r.r.r.r.r.r.r.l ({ fr := [(7, B b3), (45, B b3), (37, .any), (38, .any), (39, .any), (40, .any), (41, .any), (42, .any), (43, .any), (44, .any), (45, .any), (36, B (!a1)), (35, B (!a1)), (34, B a1), (1, B a1), (2, .loc 2 0), (4, I 0), (5, I r1), (6, B b2)], ob := [(2, (enapi_Expr a0))], base := 0 } : St) kz =
 (kz .normal ({ fr := [(1, B a1), (2, .loc 2 0), (4, I 0), (5, I r1), (6, B b2), (7, B b3)], ob := [(2, (enapi_Expr a0))], base := 0 } : St)) := by kernel_rfl
theorem es77_9 (rec77 : api_Expr → Bool → Option Int) (L : Nat) (st : St) (k : Ex → St → Prop) : EV (O77 rec77 L) L 9 c77.r.r.r.r.r.r.r.r st k = EV (O77 rec77 L) L 9 c77.r.r.r.r.r.r.r.r.l st (kSeq (EV (O77 rec77 L) L 9 c77.r.r.r.r.r.r.r.r.r) k) := evC_seq (by kernel_rfl)
theorem q77_9 (rec77 : api_Expr → Bool → Option Int) (L : Nat) (a1 : Bool) (r1 : Int) (b2 : Bool) (b3 : Bool) (a0 : api_Expr) (kz : Ex → St → Prop) : EV (O77 rec77 L) L 9 c77.r.r.r.r.r.r.r.r.l ({ fr := [(1, B a1), (2, .loc 2 0), (4, I 0), (5, I r1), (6, B b2), (7, B b3)], ob := [(2, (enapi_Expr a0))], base := 0 } : St) kz =
 (jn (fun j => (br a1
 (ob (F_R09_object L a0.Op) fun r6 =>
 (br r6
 (ob (some true) j)
 (br (a0.Op == 25)
 (ob (some true) j)
 (ob (some (a0.Op == 26)) j))))
 (ob (some false) j))) (fun b5 =>
 (kz .normal ({ fr := [(8, B b5), (61, B b5), (48, .any), (49, .any), (50, .any), (51, .any), (52, .any), (53, .any), (54, .any), (55, .any), (56, .any), (57, .any), (58, .any), (59, .any), (60, .any), (61, .any), (47, B a1), (46, B a1), (1, B a1), (2, .loc 2 0), (4, I 0), (5, I r1), (6, B b2), (7, B b3)], ob := [(2, (enapi_Expr a0))], base := 0 } : St)))) := by kernel_rfl
theorem es77_10 (rec77 : api_Expr → Bool → Option Int) (L : Nat) (st : St) (k : Ex → St → Prop) : EV (O77 rec77 L) L 9 c77.r.r.r.r.r.r.r.r.r st k = EV (O77 rec77 L) L 9 c77.r.r.r.r.r.r.r.r.r.l st (kSeq (EV (O77 rec77 L) L 9 c77.r.r.r.r.r.r.r.r.r.r) k) := evC_seq (by kernel_rfl)
theorem q77_10 (rec77 : api_Expr → Bool → Option Int) (L : Nat) (b5 : Bool) (a1 : Bool) (r1 : Int) (b2 : Bool) (b3 : Bool) (a0 : api_Expr) (kz : Ex → St → Prop) : EV (O77 rec77 L) L 9 c77.r.r.r.r.r.r.r.r.r.l ({ fr := [(8, B b5), (61, B b5), (48, .any), (49, .any), (50, .any), (51, .any), (52, .any), (53, .any), (54, .any), (55, .any), (56, .any), (57, .any), (58, .any), (59, .any), (60, .any), (61, .any), (47, B a1), (46, B a1), (1, B a1), (2, .loc 2 0), (4, I 0), (5, I r1), (6, B b2), (7, B b3)], ob := [(2, (enapi_Expr a0))], base := 0 } : St) kz =
 (kz .normal ({ fr := [(1, B a1), (2, .loc 2 0), (4, I 0), (5, I r1), (6, B b2), (7, B b3), (8, B b5)], ob := [(2, (enapi_Expr a0))], base := 0 } : St)) := by kernel_rfl
theorem es77_11 (rec77 : api_Expr → Bool → Option Int) (L : Nat) (st : St) (k : Ex → St → Prop) : EV (O77 rec77 L) L 9 c77.r.r.r.r.r.r.r.r.r.r st k = EV (O77 rec77 L) L 9 c77.r.r.r.r.r.r.r.r.r.r.l st (kSeq (EV (O77 rec77 L) L 9 c77.r.r.r.r.r.r.r.r.r.r.r) k) := evC_seq (by kernel_rfl)
theorem q77_11 (rec77 : api_Expr → Bool → Option Int) (L : Nat) (a1 : Bool) (r1 : Int) (b2 : Bool) (b3 : Bool) (b5 : Bool) (a0 : api_Expr) (kz : Ex → St → Prop) : EV (O77 rec77 L) L 9 c77.r.r.r.r.r.r.r.r.r.r.l ({ fr := [(1, B a1), (2, .loc 2 0), (4, I 0), (5, I r1), (6, B b2), (7, B b3), (8, B b5)], ob := [(2, (enapi_Expr a0))], base := 0 } : St) kz =
 (jn (fun j => (br (a0.Op == 1)
 (ap j true)
 (ap j (a0.Op == 2)))) (fun b7 =>
 (jn (fun j => (br b7
 (ap j true)
 (ap j b5))) (fun b8 =>
 (kz .normal ({ fr := [(9, B b8), (72, B b8), (71, .any), (72, .any), (70, B b7), (69, B b7), (66, .any), (67, .any), (68, .any), (69, .any), (65, B (a0.Op == 1)), (64, B (a0.Op == 1)), (63, I a0.Op), (62, .loc 2 0), (1, B a1), (2, .loc 2 0), (4, I 0), (5, I r1), (6, B b2), (7, B b3), (8, B b5)], ob := [(2, (enapi_Expr a0))], base := 0 } : St)))))) := by kernel_rfl
theorem es77_12 (rec77 : api_Expr → Bool → Option Int) (L : Nat) (st : St) (k : Ex → St → Prop) : EV (O77 rec77 L) L 9 c77.r.r.r.r.r.r.r.r.r.r.r st k = EV (O77 rec77 L) L 9 c77.r.r.r.r.r.r.r.r.r.r.r.l st (kSeq (EV (O77 rec77 L) L 9 c77.r.r.r.r.r.r.r.r.r.r.r.r) k) := evC_seq (by kernel_rfl)
theorem q77_12 (rec77 : api_Expr → Bool → Option Int) (L : Nat) (b8 : Bool) (b7 : Bool) (a0 : api_Expr) (a1 : Bool) (r1 : Int) (b2 : Bool) (b3 : Bool) (b5 : Bool) (kz : Ex → St → Prop) : EV (O77 rec77 L) L 9 c77.r.r.r.r.r.r.r.r.r.r.r.l ({ fr := [(9, B b8), (72, B b8), (71, .any), (72, .any), (70, B b7), (69, B b7), (66, .any), (67, .any), (68, .any), (69, .any), (65, B (a0.Op == 1)), (64, B (a0.Op == 1)), (63, I a0.Op), (62, .loc 2 0), (1, B a1), (2, .loc 2 0), (4, I 0), (5, I r1), (6, B b2), (7, B b3), (8, B b5)], ob := [(2, (enapi_Expr a0))], base := 0 } : St) kz =
 (kz .normal ({ fr := [(1, B a1), (2, .loc 2 0), (4, I 0), (5, I r1), (6, B b2), (7, B b3), (8, B b5), (9, B b8)], ob := [(2, (enapi_Expr a0))], base := 0 } : St)) := by kernel_rfl
theorem es77_13 (rec77 : api_Expr → Bool → Option Int) (L : Nat) (st : St) (k : Ex → St → Prop) : EV (O77 rec77 L) L 9 c77.r.r.r.r.r.r.r.r.r.r.r.r st k = EV (O77 rec77 L) L 9 c77.r.r.r.r.r.r.r.r.r.r.r.r.l st (kSeq (EV (O77 rec77 L) L 9 c77.r.r.r.r.r.r.r.r.r.r.r.r.r) k) := evC_seq (by kernel_rfl)
theorem es77_14 (rec77 : api_Expr → Bool → Option Int) (L : Nat) (st : St) (k : Ex → St → Prop) : EV (O77 rec77 L) L 9 c77.r.r.r.r.r.r.r.r.r.r.r.r.l st k = EV (O77 rec77 L) L 9 c77.r.r.r.r.r.r.r.r.r.r.r.r.l.l st (kSeq (EV (O77 rec77 L) L 9 c77.r.r.r.r.r.r.r.r.r.r.r.r.l.r) k) := evC_seq (by kernel_rfl)
theorem q77_13 (rec77 : api_Expr → Bool → Option Int) (L : Nat) (a1 : Bool) (r1 : Int) (b2 : Bool) (b3 : Bool) (b5 : Bool) (b8 : Bool) (a0 : api_Expr) (kz : Ex → St → Prop) : EV (O77 rec77 L) L 9 c77.r.r.r.r.r.r.r.r.r.r.r.r.l.l ({ fr := [(1, B a1), (2, .loc 2 0), (4, I 0), (5, I r1), (6, B b2), (7, B b3), (8, B b5), (9, B b8)], ob := [(2, (enapi_Expr a0))], base := 0 } : St) kz =
 (jn (fun j => (br (!b2)
 (ap j true)
 (br (!b3)
 (ap j (!(a0.Name.toList == (⟨#[]⟩ : ByteArray).toList)))
 (ap j false)))) (fun b9 =>
 (jn (fun j => (br b9
 (ap j true)
 (br (!b8)
 (ap j (a0.N != 0))
 (ap j false)))) (fun b10 =>
 (jn (fun j => (br b10
 (ap j true)
 (ap j ((a0.Kids.length : Int) != r1)))) (fun b11 =>
 (kz .normal ({ fr := [(99, B b11), (94, .any), (95, .any), (96, .any), (97, .any), (98, .any), (99, .any), (93, B b10), (92, B b10), (85, .any), (86, .any), (87, .any), (88, .any), (89, .any), (90, .any), (91, .any), (92, .any), (84, B b9), (83, B b9), (76, .any), (77, .any), (78, .any), (79, .any), (80, .any), (81, .any), (82, .any), (83, .any), (75, B (!b2)), (74, B (!b2)), (73, B b2), (1, B a1), (2, .loc 2 0), (4, I 0), (5, I r1), (6, B b2), (7, B b3), (8, B b5), (9, B b8)], ob := [(2, (enapi_Expr a0))], base := 0 } : St)))))))) := by kernel_rfl
theorem es77_15 (rec77 : api_Expr → Bool → Option Int) (L : Nat) (st : St) (k : Ex → St → Prop) : EV (O77 rec77 L) L 9 c77.r.r.r.r.r.r.r.r.r.r.r.r.l.r st k = EV (O77 rec77 L) L 9 c77.r.r.r.r.r.r.r.r.r.r.r.r.l.r.l st (kSeq (EV (O77 rec77 L) L 9 c77.r.r.r.r.r.r.r.r.r.r.r.r.l.r.r) k) := evC_seq (by kernel_rfl)
theorem q77_14 (rec77 : api_Expr → Bool → Option Int) (L : Nat) (b11 : Bool) (b10 : Bool) (b9 : Bool) (b2 : Bool) (a1 : Bool) (r1 : Int) (b3 : Bool) (b5 : Bool) (b8 : Bool) (a0 : api_Expr) (kz : Ex → St → Prop) : EV (O77 rec77 L) L 9 c77.r.r.r.r.r.r.r.r.r.r.r.r.l.r.l ({ fr := [(99, B b11), (94, .any), (95, .any), (96, .any), (97, .any), (98, .any), (99, .any), (93, B b10), (92, B b10), (85, .any), (86, .any), (87, .any), (88, .any), (89, .any), (90, .any), (91, .any), (92, .any), (84, B b9), (83, B b9), (76, .any), (77, .any), (78, .any), (79, .any), (80, .any), (81, .any), (82, .any), (83, .any), (75, B (!b2)), (74, B (!b2)), (73, B b2), (1, B a1), (2, .loc 2 0), (4, I 0), (5, I r1), (6, B b2), (7, B b3), (8, B b5), (9, B b8)], ob := [(2, (enapi_Expr a0))], base := 0 } : St) kz =
 (kz .normal ({ fr := [(1, B a1), (2, .loc 2 0), (4, I 0), (7, B b3), (8, B b5), (99, B b11)], ob := [(2, (enapi_Expr a0))], base := 0 } : St)) := by kernel_rfl
theorem q77_15 (rec77 : api_Expr → Bool → Option Int) (L : Nat) (a1 : Bool) (b3 : Bool) (b5 : Bool) (b11 : Bool) (a0 : api_Expr) (kz : Ex → St → Prop) : EV (O77 rec77 L) L 9 c77.r.r.r.r.r.r.r.r.r.r.r.r.l.r.r ({ fr := [(1, B a1), (2, .loc 2 0), (4, I 0), (7, B b3), (8, B b5), (99, B b11)], ob := [(2, (enapi_Expr a0))], base := 0 } : St) kz =
 (br b11
 (kz .ret ({ fr := [(4, I 1), (1, B a1), (2, .loc 2 0), (4, I 0), (7, B b3), (8, B b5), (99, B b11)], ob := [(2, (enapi_Expr a0))], base := 0 } : St))
 (kz .normal ({ fr := [(1, B a1), (2, .loc 2 0), (4, I 0), (7, B b3), (8, B b5), (99, B b11)], ob := [(2, (enapi_Expr a0))], base := 0 } : St))) := by kernel_rfl
theorem q77_16  (a1 : Bool) (b3 : Bool) (b5 : Bool) (b11 : Bool) (a0 : api_Expr) (kk : PV → Prop) : (kEnd Tryz.prog (RS Tryz.f77) kk) .ret ({ fr := [(4, I 1), (1, B a1), (2, .loc 2 0), (4, I 0), (7, B b3), (8, B b5), (99, B b11)], ob := [(2, (enapi_Expr a0))], base := 0 } : St) =
 (ob (some 1) (fun (x : Int) => kk (I x))) := by kernel_rfl
theorem es77_16 (rec77 : api_Expr → Bool → Option Int) (L : Nat) (st : St) (k : Ex → St → Prop) : EV (O77 rec77 L) L 9 c77.r.r.r.r.r.r.r.r.r.r.r.r.r st k = EV (O77 rec77 L) L 9 c77.r.r.r.r.r.r.r.r.r.r.r.r.r.l st (kSeq (EV (O77 rec77 L) L 9 c77.r.r.r.r.r.r.r.r.r.r.r.r.r.r) k) := evC_seq (by kernel_rfl)
theorem q77_17 (rec77 : api_Expr → Bool → Option Int) (L : Nat) (a1 : Bool) (b3 : Bool) (b5 : Bool) (b11 : Bool) (a0 : api_Expr) (kz : Ex → St → Prop) : EV (O77 rec77 L) L 9 c77.r.r.r.r.r.r.r.r.r.r.r.r.r.l ({ fr := [(1, B a1), (2, .loc 2 0), (4, I 0), (7, B b3), (8, B b5), (99, B b11)], ob := [(2, (enapi_Expr a0))], base := 0 } : St) kz =
 (kz .normal ({ fr := [(1, B a1), (2, .loc 2 0), (4, I 0), (7, B b3), (8, B b5)], ob := [(2, (enapi_Expr a0))], base := 0 } : St)) := by kernel_rfl
theorem es77_17 (rec77 : api_Expr → Bool → Option Int) (L : Nat) (st : St) (k : Ex → St → Prop) : EV (O77 rec77 L) L 9 c77.r.r.r.r.r.r.r.r.r.r.r.r.r.r st k = EV (O77 rec77 L) L 9 c77.r.r.r.r.r.r.r.r.r.r.r.r.r.r.l st (kSeq (EV (O77 rec77 L) L 9 c77.r.r.r.r.r.r.r.r.r.r.r.r.r.r.r) k) := evC_seq (by kernel_rfl)
theorem es77_18 (rec77 : api_Expr → Bool → Option Int) (L : Nat) (st : St) (k : Ex → St → Prop) : EV (O77 rec77 L) L 9 c77.r.r.r.r.r.r.r.r.r.r.r.r.r.r.l st k = EV (O77 rec77 L) L 9 c77.r.r.r.r.r.r.r.r.r.r.r.r.r.r.l.l st (kSeq (EV (O77 rec77 L) L 9 c77.r.r.r.r.r.r.r.r.r.r.r.r.r.r.l.r) k) := evC_seq (by kernel_rfl)
theorem q77_18 (rec77 : api_Expr → Bool → Option Int) (L : Nat) (a1 : Bool) (b3 : Bool) (b5 : Bool) (a0 : api_Expr) (kz : Ex → St → Prop) : EV (O77 rec77 L) L 9 c77.r.r.r.r.r.r.r.r.r.r.r.r.r.r.l.l ({ fr := [(1, B a1), (2, .loc 2 0), (4, I 0), (7, B b3), (8, B b5)], ob := [(2, (enapi_Expr a0))], base := 0 } : St) kz =
 (br (a0.Op == 1)
 (ob (F_R01_In L a0.N) fun r12 =>
 (br (!r12)
 (kz .normal ({ fr := [(139, B true), (138, .tup []), (124, B true), (137, .tup []), (136, .tup []), (135, .tup []), (134, .tup []), (133, .tup []), (132, .tup []), (131, .tup []), (130, .tup []), (129, .tup []), (128, .tup []), (127, .tup []), (126, .tup []), (124, B true), (125, .tup []), (124, B true), (124, B true), (123, B true), (122, .tup []), (109, B true), (121, .tup []), (120, .tup []), (119, .tup []), (118, .tup []), (109, B true), (117, .tup []), (109, B true), (116, .tup []), (115, .tup []), (114, .tup []), (113, .tup []), (109, B true), (112, .tup []), (109, B true), (111, .tup []), (109, B true), (110, .tup []), (109, B true), (109, B (!r12)), (108, B (!r12)), (107, B (!r12)), (103, B true), (106, B r12), (103, B true), (105, I a0.N), (103, B true), (104, .loc 2 2), (103, B true), (103, B (a0.Op == 1)), (102, B (a0.Op == 1)), (101, I a0.Op), (100, .loc 2 0), (1, B a1), (2, .loc 2 0), (4, I 0), (7, B b3), (8, B b5)], ob := [(2, (enapi_Expr a0))], base := 0 } : St))
 (br (a0.Op == 2)
 (br (a0.N != 0)
 (br (a0.N != 1)
 (kz .normal ({ fr := [(139, B true), (138, .tup []), (124, B true), (137, .tup []), (136, .tup []), (135, .tup []), (134, .tup []), (133, .tup []), (132, .tup []), (131, .tup []), (130, .tup []), (129, .tup []), (128, .tup []), (127, .tup []), (126, .tup []), (124, B true), (125, .tup []), (124, B true), (124, B (a0.N != 1)), (123, B (a0.N != 1)), (122, B (a0.N != 1)), (109, B false), (121, B (a0.N != 1)), (118, B true), (120, I a0.N), (118, B true), (119, .loc 2 2), (118, B true), (118, B (a0.N != 0)), (109, B false), (117, B (a0.N != 0)), (109, B false), (116, B (a0.N != 0)), (113, B true), (115, I a0.N), (113, B true), (114, .loc 2 2), (113, B true), (113, B (a0.Op == 2)), (109, B false), (112, B (a0.Op == 2)), (109, B false), (111, I a0.Op), (109, B false), (110, .loc 2 0), (109, B false), (109, B (!r12)), (108, B (!r12)), (107, B (!r12)), (103, B true), (106, B r12), (103, B true), (105, I a0.N), (103, B true), (104, .loc 2 2), (103, B true), (103, B (a0.Op == 1)), (102, B (a0.Op == 1)), (101, I a0.Op), (100, .loc 2 0), (1, B a1), (2, .loc 2 0), (4, I 0), (7, B b3), (8, B b5)], ob := [(2, (enapi_Expr a0))], base := 0 } : St))
 (br b5
 (br (decide (a0.N < 0))
 (kz .normal ({ fr := [(139, B true), (138, B true), (124, B false), (137, B true), (126, B true), (136, .tup []), (130, B true), (135, .tup []), (130, B true), (134, .tup []), (130, B true), (133, .tup []), (130, B true), (132, .tup []), (130, B true), (131, .tup []), (130, B true), (130, B (decide (a0.N < 0))), (126, B true), (129, B (decide (a0.N < 0))), (126, B true), (128, I a0.N), (126, B true), (127, .loc 2 2), (126, B true), (126, B b5), (124, B false), (125, B b5), (124, B false), (124, B (a0.N != 1)), (123, B (a0.N != 1)), (122, B (a0.N != 1)), (109, B false), (121, B (a0.N != 1)), (118, B true), (120, I a0.N), (118, B true), (119, .loc 2 2), (118, B true), (118, B (a0.N != 0)), (109, B false), (117, B (a0.N != 0)), (109, B false), (116, B (a0.N != 0)), (113, B true), (115, I a0.N), (113, B true), (114, .loc 2 2), (113, B true), (113, B (a0.Op == 2)), (109, B false), (112, B (a0.Op == 2)), (109, B false), (111, I a0.Op), (109, B false), (110, .loc 2 0), (109, B false), (109, B (!r12)), (108, B (!r12)), (107, B (!r12)), (103, B true), (106, B r12), (103, B true), (105, I a0.N), (103, B true), (104, .loc 2 2), (103, B true), (103, B (a0.Op == 1)), (102, B (a0.Op == 1)), (101, I a0.Op), (100, .loc 2 0), (1, B a1), (2, .loc 2 0), (4, I 0), (7, B b3), (8, B b5)], ob := [(2, (enapi_Expr a0))], base := 0 } : St))
 (ob (F_R09_most L a0.Op) fun r13 =>
 (kz .normal ({ fr := [(139, B (decide (a0.N > r13))), (138, B (decide (a0.N > r13))), (124, B false), (137, B (decide (a0.N > r13))), (126, B true), (136, B (decide (a0.N > r13))), (130, B false), (135, I r13), (130, B false), (134, I a0.Op), (130, B false), (133, .loc 2 0), (130, B false), (132, I a0.N), (130, B false), (131, .loc 2 2), (130, B false), (130, B (decide (a0.N < 0))), (126, B true), (129, B (decide (a0.N < 0))), (126, B true), (128, I a0.N), (126, B true), (127, .loc 2 2), (126, B true), (126, B b5), (124, B false), (125, B b5), (124, B false), (124, B (a0.N != 1)), (123, B (a0.N != 1)), (122, B (a0.N != 1)), (109, B false), (121, B (a0.N != 1)), (118, B true), (120, I a0.N), (118, B true), (119, .loc 2 2), (118, B true), (118, B (a0.N != 0)), (109, B false), (117, B (a0.N != 0)), (109, B false), (116, B (a0.N != 0)), (113, B true), (115, I a0.N), (113, B true), (114, .loc 2 2), (113, B true), (113, B (a0.Op == 2)), (109, B false), (112, B (a0.Op == 2)), (109, B false), (111, I a0.Op), (109, B false), (110, .loc 2 0), (109, B false), (109, B (!r12)), (108, B (!r12)), (107, B (!r12)), (103, B true), (106, B r12), (103, B true), (105, I a0.N), (103, B true), (104, .loc 2 2), (103, B true), (103, B (a0.Op == 1)), (102, B (a0.Op == 1)), (101, I a0.Op), (100, .loc 2 0), (1, B a1), (2, .loc 2 0), (4, I 0), (7, B b3), (8, B b5)], ob := [(2, (enapi_Expr a0))], base := 0 } : St))))
 (kz .normal ({ fr := [(139, B false), (138, B false), (124, B false), (137, .tup []), (126, B false), (136, .tup []), (135, .tup []), (134, .tup []), (133, .tup []), (132, .tup []), (131, .tup []), (130, .tup []), (126, B false), (129, .tup []), (126, B false), (128, .tup []), (126, B false), (127, .tup []), (126, B false), (126, B b5), (124, B false), (125, B b5), (124, B false), (124, B (a0.N != 1)), (123, B (a0.N != 1)), (122, B (a0.N != 1)), (109, B false), (121, B (a0.N != 1)), (118, B true), (120, I a0.N), (118, B true), (119, .loc 2 2), (118, B true), (118, B (a0.N != 0)), (109, B false), (117, B (a0.N != 0)), (109, B false), (116, B (a0.N != 0)), (113, B true), (115, I a0.N), (113, B true), (114, .loc 2 2), (113, B true), (113, B (a0.Op == 2)), (109, B false), (112, B (a0.Op == 2)), (109, B false), (111, I a0.Op), (109, B false), (110, .loc 2 0), (109, B false), (109, B (!r12)), (108, B (!r12)), (107, B (!r12)), (103, B true), (106, B r12), (103, B true), (105, I a0.N), (103, B true), (104, .loc 2 2), (103, B true), (103, B (a0.Op == 1)), (102, B (a0.Op == 1)), (101, I a0.Op), (100, .loc 2 0), (1, B a1), (2, .loc 2 0), (4, I 0), (7, B b3), (8, B b5)], ob := [(2, (enapi_Expr a0))], base := 0 } : St))))
 (br b5
 (br (decide (a0.N < 0))
 (kz .normal ({ fr := [(139, B true), (138, B true), (124, B false), (137, B true), (126, B true), (136, .tup []), (130, B true), (135, .tup []), (130, B true), (134, .tup []), (130, B true), (133, .tup []), (130, B true), (132, .tup []), (130, B true), (131, .tup []), (130, B true), (130, B (decide (a0.N < 0))), (126, B true), (129, B (decide (a0.N < 0))), (126, B true), (128, I a0.N), (126, B true), (127, .loc 2 2), (126, B true), (126, B b5), (124, B false), (125, B b5), (124, B false), (124, B false), (123, B false), (122, B false), (109, B false), (121, .tup []), (118, B false), (120, .tup []), (118, B false), (119, .tup []), (118, B false), (118, B (a0.N != 0)), (109, B false), (117, B (a0.N != 0)), (109, B false), (116, B (a0.N != 0)), (113, B true), (115, I a0.N), (113, B true), (114, .loc 2 2), (113, B true), (113, B (a0.Op == 2)), (109, B false), (112, B (a0.Op == 2)), (109, B false), (111, I a0.Op), (109, B false), (110, .loc 2 0), (109, B false), (109, B (!r12)), (108, B (!r12)), (107, B (!r12)), (103, B true), (106, B r12), (103, B true), (105, I a0.N), (103, B true), (104, .loc 2 2), (103, B true), (103, B (a0.Op == 1)), (102, B (a0.Op == 1)), (101, I a0.Op), (100, .loc 2 0), (1, B a1), (2, .loc 2 0), (4, I 0), (7, B b3), (8, B b5)], ob := [(2, (enapi_Expr a0))], base := 0 } : St))
 (ob (F_R09_most L a0.Op) fun r14 =>
 (kz .normal ({ fr := [(139, B (decide (a0.N > r14))), (138, B (decide (a0.N > r14))), (124, B false), (137, B (decide (a0.N > r14))), (126, B true), (136, B (decide (a0.N > r14))), (130, B false), (135, I r14), (130, B false), (134, I a0.Op), (130, B false), (133, .loc 2 0), (130, B false), (132, I a0.N), (130, B false), (131, .loc 2 2), (130, B false), (130, B (decide (a0.N < 0))), (126, B true), (129, B (decide (a0.N < 0))), (126, B true), (128, I a0.N), (126, B true), (127, .loc 2 2), (126, B true), (126, B b5), (124, B false), (125, B b5), (124, B false), (124, B false), (123, B false), (122, B false), (109, B false), (121, .tup []), (118, B false), (120, .tup []), (118, B false), (119, .tup []), (118, B false), (118, B (a0.N != 0)), (109, B false), (117, B (a0.N != 0)), (109, B false), (116, B (a0.N != 0)), (113, B true), (115, I a0.N), (113, B true), (114, .loc 2 2), (113, B true), (113, B (a0.Op == 2)), (109, B false), (112, B (a0.Op == 2)), (109, B false), (111, I a0.Op), (109, B false), (110, .loc 2 0), (109, B false), (109, B (!r12)), (108, B (!r12)), (107, B (!r12)), (103, B true), (106, B r12), (103, B true), (105, I a0.N), (103, B true), (104, .loc 2 2), (103, B true), (103, B (a0.Op == 1)), (102, B (a0.Op == 1)), (101, I a0.Op), (100, .loc 2 0), (1, B a1), (2, .loc 2 0), (4, I 0), (7, B b3), (8, B b5)], ob := [(2, (enapi_Expr a0))], base := 0 } : St))))
 (kz .normal ({ fr := [(139, B false), (138, B false), (124, B false), (137, .tup []), (126, B false), (136, .tup []), (135, .tup []), (134, .tup []), (133, .tup []), (132, .tup []), (131, .tup []), (130, .tup []), (126, B false), (129, .tup []), (126, B false), (128, .tup []), (126, B false), (127, .tup []), (126, B false), (126, B b5), (124, B false), (125, B b5), (124, B false), (124, B false), (123, B false), (122, B false), (109, B false), (121, .tup []), (118, B false), (120, .tup []), (118, B false), (119, .tup []), (118, B false), (118, B (a0.N != 0)), (109, B false), (117, B (a0.N != 0)), (109, B false), (116, B (a0.N != 0)), (113, B true), (115, I a0.N), (113, B true), (114, .loc 2 2), (113, B true), (113, B (a0.Op == 2)), (109, B false), (112, B (a0.Op == 2)), (109, B false), (111, I a0.Op), (109, B false), (110, .loc 2 0), (109, B false), (109, B (!r12)), (108, B (!r12)), (107, B (!r12)), (103, B true), (106, B r12), (103, B true), (105, I a0.N), (103, B true), (104, .loc 2 2), (103, B true), (103, B (a0.Op == 1)), (102, B (a0.Op == 1)), (101, I a0.Op), (100, .loc 2 0), (1, B a1), (2, .loc 2 0), (4, I 0), (7, B b3), (8, B b5)], ob := [(2, (enapi_Expr a0))], base := 0 } : St))))
 (br b5
 (br (decide (a0.N < 0))
 (kz .normal ({ fr := [(139, B true), (138, B true), (124, B false), (137, B true), (126, B true), (136, .tup []), (130, B true), (135, .tup []), (130, B true), (134, .tup []), (130, B true), (133, .tup []), (130, B true), (132, .tup []), (130, B true), (131, .tup []), (130, B true), (130, B (decide (a0.N < 0))), (126, B true), (129, B (decide (a0.N < 0))), (126, B true), (128, I a0.N), (126, B true), (127, .loc 2 2), (126, B true), (126, B b5), (124, B false), (125, B b5), (124, B false), (124, B false), (123, B false), (122, B false), (109, B false), (121, .tup []), (118, B false), (120, .tup []), (118, B false), (119, .tup []), (118, B false), (118, B false), (109, B false), (117, B false), (109, B false), (116, .tup []), (113, B false), (115, .tup []), (113, B false), (114, .tup []), (113, B false), (113, B (a0.Op == 2)), (109, B false), (112, B (a0.Op == 2)), (109, B false), (111, I a0.Op), (109, B false), (110, .loc 2 0), (109, B false), (109, B (!r12)), (108, B (!r12)), (107, B (!r12)), (103, B true), (106, B r12), (103, B true), (105, I a0.N), (103, B true), (104, .loc 2 2), (103, B true), (103, B (a0.Op == 1)), (102, B (a0.Op == 1)), (101, I a0.Op), (100, .loc 2 0), (1, B a1), (2, .loc 2 0), (4, I 0), (7, B b3), (8, B b5)], ob := [(2, (enapi_Expr a0))], base := 0 } : St))
 (ob (F_R09_most L a0.Op) fun r15 =>
 (kz .normal ({ fr := [(139, B (decide (a0.N > r15))), (138, B (decide (a0.N > r15))), (124, B false), (137, B (decide (a0.N > r15))), (126, B true), (136, B (decide (a0.N > r15))), (130, B false), (135, I r15), (130, B false), (134, I a0.Op), (130, B false), (133, .loc 2 0), (130, B false), (132, I a0.N), (130, B false), (131, .loc 2 2), (130, B false), (130, B (decide (a0.N < 0))), (126, B true), (129, B (decide (a0.N < 0))), (126, B true), (128, I a0.N), (126, B true), (127, .loc 2 2), (126, B true), (126, B b5), (124, B false), (125, B b5), (124, B false), (124, B false), (123, B false), (122, B false), (109, B false), (121, .tup []), (118, B false), (120, .tup []), (118, B false), (119, .tup []), (118, B false), (118, B false), (109, B false), (117, B false), (109, B false), (116, .tup []), (113, B false), (115, .tup []), (113, B false), (114, .tup []), (113, B false), (113, B (a0.Op == 2)), (109, B false), (112, B (a0.Op == 2)), (109, B false), (111, I a0.Op), (109, B false), (110, .loc 2 0), (109, B false), (109, B (!r12)), (108, B (!r12)), (107, B (!r12)), (103, B true), (106, B r12), (103, B true), (105, I a0.N), (103, B true), (104, .loc 2 2), (103, B true), (103, B (a0.Op == 1)), (102, B (a0.Op == 1)), (101, I a0.Op), (100, .loc 2 0), (1, B a1), (2, .loc 2 0), (4, I 0), (7, B b3), (8, B b5)], ob := [(2, (enapi_Expr a0))], base := 0 } : St))))
 (kz .normal ({ fr := [(139, B false), (138, B false), (124, B false), (137, .tup []), (126, B false), (136, .tup []), (135, .tup []), (134, .tup []), (133, .tup []), (132, .tup []), (131, .tup []), (130, .tup []), (126, B false), (129, .tup []), (126, B false), (128, .tup []), (126, B false), (127, .tup []), (126, B false), (126, B b5), (124, B false), (125, B b5), (124, B false), (124, B false), (123, B false), (122, B false), (109, B false), (121, .tup []), (118, B false), (120, .tup []), (118, B false), (119, .tup []), (118, B false), (118, B false), (109, B false), (117, B false), (109, B false), (116, .tup []), (113, B false), (115, .tup []), (113, B false), (114, .tup []), (113, B false), (113, B (a0.Op == 2)), (109, B false), (112, B (a0.Op == 2)), (109, B false), (111, I a0.Op), (109, B false), (110, .loc 2 0), (109, B false), (109, B (!r12)), (108, B (!r12)), (107, B (!r12)), (103, B true), (106, B r12), (103, B true), (105, I a0.N), (103, B true), (104, .loc 2 2), (103, B true), (103, B (a0.Op == 1)), (102, B (a0.Op == 1)), (101, I a0.Op), (100, .loc 2 0), (1, B a1), (2, .loc 2 0), (4, I 0), (7, B b3), (8, B b5)], ob := [(2, (enapi_Expr a0))], base := 0 } : St))))))
 (br (a0.Op == 2)
 (br (a0.N != 0)
 (br (a0.N != 1)
 (kz .normal ({ fr := [(139, B true), (138, .tup []), (124, B true), (137, .tup []), (136, .tup []), (135, .tup []), (134, .tup []), (133, .tup []), (132, .tup []), (131, .tup []), (130, .tup []), (129, .tup []), (128, .tup []), (127, .tup []), (126, .tup []), (124, B true), (125, .tup []), (124, B true), (124, B (a0.N != 1)), (123, B (a0.N != 1)), (122, B (a0.N != 1)), (109, B false), (121, B (a0.N != 1)), (118, B true), (120, I a0.N), (118, B true), (119, .loc 2 2), (118, B true), (118, B (a0.N != 0)), (109, B false), (117, B (a0.N != 0)), (109, B false), (116, B (a0.N != 0)), (113, B true), (115, I a0.N), (113, B true), (114, .loc 2 2), (113, B true), (113, B (a0.Op == 2)), (109, B false), (112, B (a0.Op == 2)), (109, B false), (111, I a0.Op), (109, B false), (110, .loc 2 0), (109, B false), (109, B false), (108, B false), (107, .tup []), (103, B false), (106, .tup []), (103, B false), (105, .tup []), (103, B false), (104, .tup []), (103, B false), (103, B (a0.Op == 1)), (102, B (a0.Op == 1)), (101, I a0.Op), (100, .loc 2 0), (1, B a1), (2, .loc 2 0), (4, I 0), (7, B b3), (8, B b5)], ob := [(2, (enapi_Expr a0))], base := 0 } : St))
 (br b5
 (br (decide (a0.N < 0))
 (kz .normal ({ fr := [(139, B true), (138, B true), (124, B false), (137, B true), (126, B true), (136, .tup []), (130, B true), (135, .tup []), (130, B true), (134, .tup []), (130, B true), (133, .tup []), (130, B true), (132, .tup []), (130, B true), (131, .tup []), (130, B true), (130, B (decide (a0.N < 0))), (126, B true), (129, B (decide (a0.N < 0))), (126, B true), (128, I a0.N), (126, B true), (127, .loc 2 2), (126, B true), (126, B b5), (124, B false), (125, B b5), (124, B false), (124, B (a0.N != 1)), (123, B (a0.N != 1)), (122, B (a0.N != 1)), (109, B false), (121, B (a0.N != 1)), (118, B true), (120, I a0.N), (118, B true), (119, .loc 2 2), (118, B true), (118, B (a0.N != 0)), (109, B false), (117, B (a0.N != 0)), (109, B false), (116, B (a0.N != 0)), (113, B true), (115, I a0.N), (113, B true), (114, .loc 2 2), (113, B true), (113, B (a0.Op == 2)), (109, B false), (112, B (a0.Op == 2)), (109, B false), (111, I a0.Op), (109, B false), (110, .loc 2 0), (109, B false), (109, B false), (108, B false), (107, .tup []), (103, B false), (106, .tup []), (103, B false), (105, .tup []), (103, B false), (104, .tup []), (103, B false), (103, B (a0.Op == 1)), (102, B (a0.Op == 1)), (101, I a0.Op), (100, .loc 2 0), (1, B a1), (2, .loc 2 0), (4, I 0), (7, B b3), (8, B b5)], ob := [(2, (enapi_Expr a0))], base := 0 } : St))
 (ob (F_R09_most L a0.Op) fun r16 =>
 (kz .normal ({ fr := [(139, B (decide (a0.N > r16))), (138, B (decide (a0.N > r16))), (124, B false), (137, B (decide (a0.N > r16))), (126, B true), (136, B (decide (a0.N > r16))), (130, B false), (135, I r16), (130, B false), (134, I a0.Op), (130, B false), (133, .loc 2 0), (130, B false), (132, I a0.N), (130, B false), (131, .loc 2 2), (130, B false), (130, B (decide (a0.N < 0))), (126, B true), (129, B (decide (a0.N < 0))), (126, B true), (128, I a0.N), (126, B true), (127, .loc 2 2), (126, B true), (126, B b5), (124, B false), (125, B b5), (124, B false), (124, B (a0.N != 1)), (123, B (a0.N != 1)), (122, B (a0.N != 1)), (109, B false), (121, B (a0.N != 1)), (118, B true), (120, I a0.N), (118, B true), (119, .loc 2 2), (118, B true), (118, B (a0.N != 0)), (109, B false), (117, B (a0.N != 0)), (109, B false), (116, B (a0.N != 0)), (113, B true), (115, I a0.N), (113, B true), (114, .loc 2 2), (113, B true), (113, B (a0.Op == 2)), (109, B false), (112, B (a0.Op == 2)), (109, B false), (111, I a0.Op), (109, B false), (110, .loc 2 0), (109, B false), (109, B false), (108, B false), (107, .tup []), (103, B false), (106, .tup []), (103, B false), (105, .tup []), (103, B false), (104, .tup []), (103, B false), (103, B (a0.Op == 1)), (102, B (a0.Op == 1)), (101, I a0.Op), (100, .loc 2 0), (1, B a1), (2, .loc 2 0), (4, I 0), (7, B b3), (8, B b5)], ob := [(2, (enapi_Expr a0))], base := 0 } : St))))
 (kz .normal ({ fr := [(139, B false), (138, B false), (124, B false), (137, .tup []), (126, B false), (136, .tup []), (135, .tup []), (134, .tup []), (133, .tup []), (132, .tup []), (131, .tup []), (130, .tup []), (126, B false), (129, .tup []), (126, B false), (128, .tup []), (126, B false), (127, .tup []), (126, B false), (126, B b5), (124, B false), (125, B b5), (124, B false), (124, B (a0.N != 1)), (123, B (a0.N != 1)), (122, B (a0.N != 1)), (109, B false), (121, B (a0.N != 1)), (118, B true), (120, I a0.N), (118, B true), (119, .loc 2 2), (118, B true), (118, B (a0.N != 0)), (109, B false), (117, B (a0.N != 0)), (109, B false), (116, B (a0.N != 0)), (113, B true), (115, I a0.N), (113, B true), (114, .loc 2 2), (113, B true), (113, B (a0.Op == 2)), (109, B false), (112, B (a0.Op == 2)), (109, B false), (111, I a0.Op), (109, B false), (110, .loc 2 0), (109, B false), (109, B false), (108, B false), (107, .tup []), (103, B false), (106, .tup []), (103, B false), (105, .tup []), (103, B false), (104, .tup []), (103, B false), (103, B (a0.Op == 1)), (102, B (a0.Op == 1)), (101, I a0.Op), (100, .loc 2 0), (1, B a1), (2, .loc 2 0), (4, I 0), (7, B b3), (8, B b5)], ob := [(2, (enapi_Expr a0))], base := 0 } : St))))
 (br b5
 (br (decide (a0.N < 0))
 (kz .normal ({ fr := [(139, B true), (138, B true), (124, B false), (137, B true), (126, B true), (136, .tup []), (130, B true), (135, .tup []), (130, B true), (134, .tup []), (130, B true), (133, .tup []), (130, B true), (132, .tup []), (130, B true), (131, .tup []), (130, B true), (130, B (decide (a0.N < 0))), (126, B true), (129, B (decide (a0.N < 0))), (126, B true), (128, I a0.N), (126, B true), (127, .loc 2 2), (126, B true), (126, B b5), (124, B false), (125, B b5), (124, B false), (124, B false), (123, B false), (122, B false), (109, B false), (121, .tup []), (118, B false), (120, .tup []), (118, B false), (119, .tup []), (118, B false), (118, B (a0.N != 0)), (109, B false), (117, B (a0.N != 0)), (109, B false), (116, B (a0.N != 0)), (113, B true), (115, I a0.N), (113, B true), (114, .loc 2 2), (113, B true), (113, B (a0.Op == 2)), (109, B false), (112, B (a0.Op == 2)), (109, B false), (111, I a0.Op), (109, B false), (110, .loc 2 0), (109, B false), (109, B false), (108, B false), (107, .tup []), (103, B false), (106, .tup []), (103, B false), (105, .tup []), (103, B false), (104, .tup []), (103, B false), (103, B (a0.Op == 1)), (102, B (a0.Op == 1)), (101, I a0.Op), (100, .loc 2 0), (1, B a1), (2, .loc 2 0), (4, I 0), (7, B b3), (8, B b5)], ob := [(2, (enapi_Expr a0))], base := 0 } : St))
 (ob (F_R09_most L a0.Op) fun r17 =>
 (kz .normal ({ fr := [(139, B (decide (a0.N > r17))), (138, B (decide (a0.N > r17))), (124, B false), (137, B (decide (a0.N > r17))), (126, B true), (136, B (decide (a0.N > r17))), (130, B false), (135, I r17), (130, B false), (134, I a0.Op), (130, B false), (133, .loc 2 0), (130, B false), (132, I a0.N), (130, B false), (131, .loc 2 2), (130, B false), (130, B (decide (a0.N < 0))), (126, B true), (129, B (decide (a0.N < 0))), (126, B true), (128, I a0.N), (126, B true), (127, .loc 2 2), (126, B true), (126, B b5), (124, B false), (125, B b5), (124, B false), (124, B false), (123, B false), (122, B false), (109, B false), (121, .tup []), (118, B false), (120, .tup []), (118, B false), (119, .tup []), (118, B false), (118, B (a0.N != 0)), (109, B false), (117, B (a0.N != 0)), (109, B false), (116, B (a0.N != 0)), (113, B true), (115, I a0.N), (113, B true), (114, .loc 2 2), (113, B true), (113, B (a0.Op == 2)), (109, B false), (112, B (a0.Op == 2)), (109, B false), (111, I a0.Op), (109, B false), (110, .loc 2 0), (109, B false), (109, B false), (108, B false), (107, .tup []), (103, B false), (106, .tup []), (103, B false), (105, .tup []), (103, B false), (104, .tup []), (103, B false), (103, B (a0.Op == 1)), (102, B (a0.Op == 1)), (101, I a0.Op), (100, .loc 2 0), (1, B a1), (2, .loc 2 0), (4, I 0), (7, B b3), (8, B b5)], ob := [(2, (enapi_Expr a0))], base := 0 } : St))))
 (kz .normal ({ fr := [(139, B false), (138, B false), (124, B false), (137, .tup []), (126, B false), (136, .tup []), (135, .tup []), (134, .tup []), (133, .tup []), (132, .tup []), (131, .tup []), (130, .tup []), (126, B false), (129, .tup []), (126, B false), (128, .tup []), (126, B false), (127, .tup []), (126, B false), (126, B b5), (124, B false), (125, B b5), (124, B false), (124, B false), (123, B false), (122, B false), (109, B false), (121, .tup []), (118, B false), (120, .tup []), (118, B false), (119, .tup []), (118, B false), (118, B (a0.N != 0)), (109, B false), (117, B (a0.N != 0)), (109, B false), (116, B (a0.N != 0)), (113, B true), (115, I a0.N), (113, B true), (114, .loc 2 2), (113, B true), (113, B (a0.Op == 2)), (109, B false), (112, B (a0.Op == 2)), (109, B false), (111, I a0.Op), (109, B false), (110, .loc 2 0), (109, B false), (109, B false), (108, B false), (107, .tup []), (103, B false), (106, .tup []), (103, B false), (105, .tup []), (103, B false), (104, .tup []), (103, B false), (103, B (a0.Op == 1)), (102, B (a0.Op == 1)), (101, I a0.Op), (100, .loc 2 0), (1, B a1), (2, .loc 2 0), (4, I 0), (7, B b3), (8, B b5)], ob := [(2, (enapi_Expr a0))], base := 0 } : St))))
 (br b5
 (br (decide (a0.N < 0))
 (kz .normal ({ fr := [(139, B true), (138, B true), (124, B false), (137, B true), (126, B true), (136, .tup []), (130, B true), (135, .tup []), (130, B true), (134, .tup []), (130, B true), (133, .tup []), (130, B true), (132, .tup []), (130, B true), (131, .tup []), (130, B true), (130, B (decide (a0.N < 0))), (126, B true), (129, B (decide (a0.N < 0))), (126, B true), (128, I a0.N), (126, B true), (127, .loc 2 2), (126, B true), (126, B b5), (124, B false), (125, B b5), (124, B false), (124, B false), (123, B false), (122, B false), (109, B false), (121, .tup []), (118, B false), (120, .tup []), (118, B false), (119, .tup []), (118, B false), (118, B false), (109, B false), (117, B false), (109, B false), (116, .tup []), (113, B false), (115, .tup []), (113, B false), (114, .tup []), (113, B false), (113, B (a0.Op == 2)), (109, B false), (112, B (a0.Op == 2)), (109, B false), (111, I a0.Op), (109, B false), (110, .loc 2 0), (109, B false), (109, B false), (108, B false), (107, .tup []), (103, B false), (106, .tup []), (103, B false), (105, .tup []), (103, B false), (104, .tup []), (103, B false), (103, B (a0.Op == 1)), (102, B (a0.Op == 1)), (101, I a0.Op), (100, .loc 2 0), (1, B a1), (2, .loc 2 0), (4, I 0), (7, B b3), (8, B b5)], ob := [(2, (enapi_Expr a0))], base := 0 } : St))
 (ob (F_R09_most L a0.Op) fun r18 =>
 (kz .normal ({ fr := [(139, B (decide (a0.N > r18))), (138, B (decide (a0.N > r18))), (124, B false), (137, B (decide (a0.N > r18))), (126, B true), (136, B (decide (a0.N > r18))), (130, B false), (135, I r18), (130, B false), (134, I a0.Op), (130, B false), (133, .loc 2 0), (130, B false), (132, I a0.N), (130, B false), (131, .loc 2 2), (130, B false), (130, B (decide (a0.N < 0))), (126, B true), (129, B (decide (a0.N < 0))), (126, B true), (128, I a0.N), (126, B true), (127, .loc 2 2), (126, B true), (126, B b5), (124, B false), (125, B b5), (124, B false), (124, B false), (123, B false), (122, B false), (109, B false), (121, .tup []), (118, B false), (120, .tup []), (118, B false), (119, .tup []), (118, B false), (118, B false), (109, B false), (117, B false), (109, B false), (116, .tup []), (113, B false), (115, .tup []), (113, B false), (114, .tup []), (113, B false), (113, B (a0.Op == 2)), (109, B false), (112, B (a0.Op == 2)), (109, B false), (111, I a0.Op), (109, B false), (110, .loc 2 0), (109, B false), (109, B false), (108, B false), (107, .tup []), (103, B false), (106, .tup []), (103, B false), (105, .tup []), (103, B false), (104, .tup []), (103, B false), (103, B (a0.Op == 1)), (102, B (a0.Op == 1)), (101, I a0.Op), (100, .loc 2 0), (1, B a1), (2, .loc 2 0), (4, I 0), (7, B b3), (8, B b5)], ob := [(2, (enapi_Expr a0))], base := 0 } : St))))
 (kz .normal ({ fr := [(139, B false), (138, B false), (124, B false), (137, .tup []), (126, B false), (136, .tup []), (135, .tup []), (134, .tup []), (133, .tup []), (132, .tup []), (131, .tup []), (130, .tup []), (126, B false), (129, .tup []), (126, B false), (128, .tup []), (126, B false), (127, .tup []), (126, B false), (126, B b5), (124, B false), (125, B b5), (124, B false), (124, B false), (123, B false), (122, B false), (109, B false), (121, .tup []), (118, B false), (120, .tup []), (118, B false), (119, .tup []), (118, B false), (118, B false), (109, B false), (117, B false), (109, B false), (116, .tup []), (113, B false), (115, .tup []), (113, B false), (114, .tup []), (113, B false), (113, B (a0.Op == 2)), (109, B false), (112, B (a0.Op == 2)), (109, B false), (111, I a0.Op), (109, B false), (110, .loc 2 0), (109, B false), (109, B false), (108, B false), (107, .tup []), (103, B false), (106, .tup []), (103, B false), (105, .tup []), (103, B false), (104, .tup []), (103, B false), (103, B (a0.Op == 1)), (102, B (a0.Op == 1)), (101, I a0.Op), (100, .loc 2 0), (1, B a1), (2, .loc 2 0), (4, I 0), (7, B b3), (8, B b5)], ob := [(2, (enapi_Expr a0))], base := 0 } : St))))) := by kernel_rfl
theorem es77_19 (rec77 : api_Expr → Bool → Option Int) (L : Nat) (st : St) (k : Ex → St → Prop) : EV (O77 rec77 L) L 9 c77.r.r.r.r.r.r.r.r.r.r.r.r.r.r.l.r st k = EV (O77 rec77 L) L 9 c77.r.r.r.r.r.r.r.r.r.r.r.r.r.r.l.r.l st (kSeq (EV (O77 rec77 L) L 9 c77.r.r.r.r.r.r.r.r.r.r.r.r.r.r.l.r.r) k) := evC_seq (by kernel_rfl)
theorem q77_19 (rec77 : api_Expr → Bool → Option Int) (L : Nat) (r12 : Bool) (a0 : api_Expr) (a1 : Bool) (b3 : Bool) (b5 : Bool) (kz : Ex → St → Prop) : EV (O77 rec77 L) L 9 c77.r.r.r.r.r.r.r.r.r.r.r.r.r.r.l.r.l ({ fr := [(139, B true), (138, .tup []), (124, B true), (137, .tup []), (136, .tup []), (135, .tup []), (134, .tup []), (133, .tup []), (132, .tup []), (131, .tup []), (130, .tup []), (129, .tup []), (128, .tup []), (127, .tup []), (126, .tup []), (124, B true), (125, .tup []), (124, B true), (124, B true), (123, B true), (122, .tup []), (109, B true), (121, .tup []), (120, .tup []), (119, .tup []), (118, .tup []), (109, B true), (117, .tup []), (109, B true), (116, .tup []), (115, .tup []), (114, .tup []), (113, .tup []), (109, B true), (112, .tup []), (109, B true), (111, .tup []), (109, B true), (110, .tup []), (109, B true), (109, B (!r12)), (108, B (!r12)), (107, B (!r12)), (103, B true), (106, B r12), (103, B true), (105, I a0.N), (103, B true), (104, .loc 2 2), (103, B true), (103, B (a0.Op == 1)), (102, B (a0.Op == 1)), (101, I a0.Op), (100, .loc 2 0), (1, B a1), (2, .loc 2 0), (4, I 0), (7, B b3), (8, B b5)], ob := [(2, (enapi_Expr a0))], base := 0 } : St) kz =
 (kz .normal ({ fr := [(1, B a1), (2, .loc 2 0), (4, I 0), (7, B b3), (139, B true)], ob := [(2, (enapi_Expr a0))], base := 0 } : St)) := by kernel_rfl
theorem q77_20 (rec77 : api_Expr → Bool → Option Int) (L : Nat) (a1 : Bool) (b3 : Bool) (a0 : api_Expr) (kz : Ex → St → Prop) : EV (O77 rec77 L) L 9 c77.r.r.r.r.r.r.r.r.r.r.r.r.r.r.l.r.r ({ fr := [(1, B a1), (2, .loc 2 0), (4, I 0), (7, B b3), (139, B true)], ob := [(2, (enapi_Expr a0))], base := 0 } : St) kz =
 (kz .ret ({ fr := [(4, I 2), (1, B a1), (2, .loc 2 0), (4, I 0), (7, B b3), (139, B true)], ob := [(2, (enapi_Expr a0))], base := 0 } : St)) := by kernel_rfl
theorem q77_21  (a1 : Bool) (b3 : Bool) (a0 : api_Expr) (kk : PV → Prop) : (kEnd Tryz.prog (RS Tryz.f77) kk) .ret ({ fr := [(4, I 2), (1, B a1), (2, .loc 2 0), (4, I 0), (7, B b3), (139, B true)], ob := [(2, (enapi_Expr a0))], base := 0 } : St) =
 (ob (some 2) (fun (x : Int) => kk (I x))) := by kernel_rfl
theorem q77_22 (rec77 : api_Expr → Bool → Option Int) (L : Nat) (a0 : api_Expr) (r12 : Bool) (a1 : Bool) (b3 : Bool) (b5 : Bool) (kz : Ex → St → Prop) : EV (O77 rec77 L) L 9 c77.r.r.r.r.r.r.r.r.r.r.r.r.r.r.l.r.l ({ fr := [(139, B true), (138, .tup []), (124, B true), (137, .tup []), (136, .tup []), (135, .tup []), (134, .tup []), (133, .tup []), (132, .tup []), (131, .tup []), (130, .tup []), (129, .tup []), (128, .tup []), (127, .tup []), (126, .tup []), (124, B true), (125, .tup []), (124, B true), (124, B (a0.N != 1)), (123, B (a0.N != 1)), (122, B (a0.N != 1)), (109, B false), (121, B (a0.N != 1)), (118, B true), (120, I a0.N), (118, B true), (119, .loc 2 2), (118, B true), (118, B (a0.N != 0)), (109, B false), (117, B (a0.N != 0)), (109, B false), (116, B (a0.N != 0)), (113, B true), (115, I a0.N), (113, B true), (114, .loc 2 2), (113, B true), (113, B (a0.Op == 2)), (109, B false), (112, B (a0.Op == 2)), (109, B false), (111, I a0.Op), (109, B false), (110, .loc 2 0), (109, B false), (109, B (!r12)), (108, B (!r12)), (107, B (!r12)), (103, B true), (106, B r12), (103, B true), (105, I a0.N), (103, B true), (104, .loc 2 2), (103, B true), (103, B (a0.Op == 1)), (102, B (a0.Op == 1)), (101, I a0.Op), (100, .loc 2 0), (1, B a1), (2, .loc 2 0), (4, I 0), (7, B b3), (8, B b5)], ob := [(2, (enapi_Expr a0))], base := 0 } : St) kz =
 (kz .normal ({ fr := [(1, B a1), (2, .loc 2 0), (4, I 0), (7, B b3), (139, B true)], ob := [(2, (enapi_Expr a0))], base := 0 } : St)) := by kernel_rfl
theorem q77_23 (rec77 : api_Expr → Bool → Option Int) (L : Nat) (a0 : api_Expr) (b5 : Bool) (r12 : Bool) (a1 : Bool) (b3 : Bool) (kz : Ex → St → Prop) : EV (O77 rec77 L) L 9 c77.r.r.r.r.r.r.r.r.r.r.r.r.r.r.l.r.l ({ fr := [(139, B true), (138, B true), (124, B false), (137, B true), (126, B true), (136, .tup []), (130, B true), (135, .tup []), (130, B true), (134, .tup []), (130, B true), (133, .tup []), (130, B true), (132, .tup []), (130, B true), (131, .tup []), (130, B true), (130, B (decide (a0.N < 0))), (126, B true), (129, B (decide (a0.N < 0))), (126, B true), (128, I a0.N), (126, B true), (127, .loc 2 2), (126, B true), (126, B b5), (124, B false), (125, B b5), (124, B false), (124, B (a0.N != 1)), (123, B (a0.N != 1)), (122, B (a0.N != 1)), (109, B false), (121, B (a0.N != 1)), (118, B true), (120, I a0.N), (118, B true), (119, .loc 2 2), (118, B true), (118, B (a0.N != 0)), (109, B false), (117, B (a0.N != 0)), (109, B false), (116, B (a0.N != 0)), (113, B true), (115, I a0.N), (113, B true), (114, .loc 2 2), (113, B true), (113, B (a0.Op == 2)), (109, B false), (112, B (a0.Op == 2)), (109, B false), (111, I a0.Op), (109, B false), (110, .loc 2 0), (109, B false), (109, B (!r12)), (108, B (!r12)), (107, B (!r12)), (103, B true), (106, B r12), (103, B true), (105, I a0.N), (103, B true), (104, .loc 2 2), (103, B true), (103, B (a0.Op == 1)), (102, B (a0.Op == 1)), (101, I a0.Op), (100, .loc 2 0), (1, B a1), (2, .loc 2 0), (4, I 0), (7, B b3), (8, B b5)], ob := [(2, (enapi_Expr a0))], base := 0 } : St) kz =
 (kz .normal ({ fr := [(1, B a1), (2, .loc 2 0), (4, I 0), (7, B b3), (139, B true)], ob := [(2, (enapi_Expr a0))], base := 0 } : St)) := by kernel_rfl
theorem q77_24 (rec77 : api_Expr → Bool → Option Int) (L : Nat) (a0 : api_Expr) (r13 : Int) (b5 : Bool) (r12 : Bool) (a1 : Bool) (b3 : Bool) (kz : Ex → St → Prop) : EV (O77 rec77 L) L 9 c77.r.r.r.r.r.r.r.r.r.r.r.r.r.r.l.r.l ({ fr := [(139, B (decide (a0.N > r13))), (138, B (decide (a0.N > r13))), (124, B false), (137, B (decide (a0.N > r13))), (126, B true), (136, B (decide (a0.N > r13))), (130, B false), (135, I r13), (130, B false), (134, I a0.Op), (130, B false), (133, .loc 2 0), (130, B false), (132, I a0.N), (130, B false), (131, .loc 2 2), (130, B false), (130, B (decide (a0.N < 0))), (126, B true), (129, B (decide (a0.N < 0))), (126, B true), (128, I a0.N), (126, B true), (127, .loc 2 2), (126, B true), (126, B b5), (124, B false), (125, B b5), (124, B false), (124, B (a0.N != 1)), (123, B (a0.N != 1)), (122, B (a0.N != 1)), (109, B false), (121, B (a0.N != 1)), (118, B true), (120, I a0.N), (118, B true), (119, .loc 2 2), (118, B true), (118, B (a0.N != 0)), (109, B false), (117, B (a0.N != 0)), (109, B false), (116, B (a0.N != 0)), (113, B true), (115, I a0.N), (113, B true), (114, .loc 2 2), (113, B true), (113, B (a0.Op == 2)), (109, B false), (112, B (a0.Op == 2)), (109, B false), (111, I a0.Op), (109, B false), (110, .loc 2 0), (109, B false), (109, B (!r12)), (108, B (!r12)), (107, B (!r12)), (103, B true), (106, B r12), (103, B true), (105, I a0.N), (103, B true), (104, .loc 2 2), (103, B true), (103, B (a0.Op == 1)), (102, B (a0.Op == 1)), (101, I a0.Op), (100, .loc 2 0), (1, B a1), (2, .loc 2 0), (4, I 0), (7, B b3), (8, B b5)], ob := [(2, (enapi_Expr a0))], base := 0 } : St) kz =
 (kz .normal ({ fr := [(1, B a1), (2, .loc 2 0), (4, I 0), (7, B b3), (139, B (decide (a0.N > r13)))], ob := [(2, (enapi_Expr a0))], base := 0 } : St)) := by kernel_rfl
theorem q77_25 (rec77 : api_Expr → Bool → Option Int) (L : Nat) (a1 : Bool) (b3 : Bool) (a0 : api_Expr) (r13 : Int) (kz : Ex → St → Prop) : EV (O77 rec77 L) L 9 c77.r.r.r.r.r.r.r.r.r.r.r.r.r.r.l.r.r ({ fr := [(1, B a1), (2, .loc 2 0), (4, I 0), (7, B b3), (139, B (decide (a0.N > r13)))], ob := [(2, (enapi_Expr a0))], base := 0 } : St) kz =
 (br (decide (a0.N > r13))
 (kz .ret ({ fr := [(4, I 2), (1, B a1), (2, .loc 2 0), (4, I 0), (7, B b3), (139, B (decide (a0.N > r13)))], ob := [(2, (enapi_Expr a0))], base := 0 } : St))
 (kz .normal ({ fr := [(1, B a1), (2, .loc 2 0), (4, I 0), (7, B b3), (139, B (decide (a0.N > r13)))], ob := [(2, (enapi_Expr a0))], base := 0 } : St))) := by kernel_rfl
theorem q77_26  (a1 : Bool) (b3 : Bool) (a0 : api_Expr) (r13 : Int) (kk : PV → Prop) : (kEnd Tryz.prog (RS Tryz.f77) kk) .ret ({ fr := [(4, I 2), (1, B a1), (2, .loc 2 0), (4, I 0), (7, B b3), (139, B (decide (a0.N > r13)))], ob := [(2, (enapi_Expr a0))], base := 0 } : St) =
 (ob (some 2) (fun (x : Int) => kk (I x))) := by kernel_rfl
theorem es77_20 (rec77 : api_Expr → Bool → Option Int) (L : Nat) (st : St) (k : Ex → St → Prop) : EV (O77 rec77 L) L 9 c77.r.r.r.r.r.r.r.r.r.r.r.r.r.r.r st k = EV (O77 rec77 L) L 9 c77.r.r.r.r.r.r.r.r.r.r.r.r.r.r.r.l st (kSeq (EV (O77 rec77 L) L 9 c77.r.r.r.r.r.r.r.r.r.r.r.r.r.r.r.r) k) := evC_seq (by kernel_rfl)
theorem q77_27 (rec77 : api_Expr → Bool → Option Int) (L : Nat) (a1 : Bool) (b3 : Bool) (a0 : api_Expr) (r13 : Int) (kz : Ex → St → Prop) : EV (O77 rec77 L) L 9 c77.r.r.r.r.r.r.r.r.r.r.r.r.r.r.r.l ({ fr := [(1, B a1), (2, .loc 2 0), (4, I 0), (7, B b3), (139, B (decide (a0.N > r13)))], ob := [(2, (enapi_Expr a0))], base := 0 } : St) kz =
 (kz .normal ({ fr := [(1, B a1), (2, .loc 2 0), (4, I 0), (7, B b3)], ob := [(2, (enapi_Expr a0))], base := 0 } : St)) := by kernel_rfl
theorem es77_21 (rec77 : api_Expr → Bool → Option Int) (L : Nat) (st : St) (k : Ex → St → Prop) : EV (O77 rec77 L) L 9 c77.r.r.r.r.r.r.r.r.r.r.r.r.r.r.r.r st k = EV (O77 rec77 L) L 9 c77.r.r.r.r.r.r.r.r.r.r.r.r.r.r.r.r.l st (kSeq (EV (O77 rec77 L) L 9 c77.r.r.r.r.r.r.r.r.r.r.r.r.r.r.r.r.r) k) := evC_seq (by kernel_rfl)
theorem es77_22 (rec77 : api_Expr → Bool → Option Int) (L : Nat) (st : St) (k : Ex → St → Prop) : EV (O77 rec77 L) L 9 c77.r.r.r.r.r.r.r.r.r.r.r.r.r.r.r.r.l st k = EV (O77 rec77 L) L 9 c77.r.r.r.r.r.r.r.r.r.r.r.r.r.r.r.r.l.l st (kSeq (EV (O77 rec77 L) L 9 c77.r.r.r.r.r.r.r.r.r.r.r.r.r.r.r.r.l.r) k) := evC_seq (by kernel_rfl)
theorem q77_28 (rec77 : api_Expr → Bool → Option Int) (L : Nat) (a1 : Bool) (b3 : Bool) (a0 : api_Expr) (kz : Ex → St → Prop) : EV (O77 rec77 L) L 9 c77.r.r.r.r.r.r.r.r.r.r.r.r.r.r.r.r.l.l ({ fr := [(1, B a1), (2, .loc 2 0), (4, I 0), (7, B b3)], ob := [(2, (enapi_Expr a0))], base := 0 } : St) kz =
 (jn (fun j => (br b3
 (ob (F_R07_Check L a0.Name) fun r20 =>
 (ob (some (r20 != 0)) j))
 (ob (some false) j))) (fun b19 =>
 (kz .normal ({ fr := [(146, B b19), (142, .any), (143, .any), (144, .any), (145, .any), (146, .any), (141, B b3), (140, B b3), (1, B a1), (2, .loc 2 0), (4, I 0), (7, B b3)], ob := [(2, (enapi_Expr a0))], base := 0 } : St)))) := by kernel_rfl
theorem es77_23 (rec77 : api_Expr → Bool → Option Int) (L : Nat) (st : St) (k : Ex → St → Prop) : EV (O77 rec77 L) L 9 c77.r.r.r.r.r.r.r.r.r.r.r.r.r.r.r.r.l.r st k = EV (O77 rec77 L) L 9 c77.r.r.r.r.r.r.r.r.r.r.r.r.r.r.r.r.l.r.l st (kSeq (EV (O77 rec77 L) L 9 c77.r.r.r.r.r.r.r.r.r.r.r.r.r.r.r.r.l.r.r) k) := evC_seq (by kernel_rfl)
theorem q77_29 (rec77 : api_Expr → Bool → Option Int) (L : Nat) (b19 : Bool) (b3 : Bool) (a1 : Bool) (a0 : api_Expr) (kz : Ex → St → Prop) : EV (O77 rec77 L) L 9 c77.r.r.r.r.r.r.r.r.r.r.r.r.r.r.r.r.l.r.l ({ fr := [(146, B b19), (142, .any), (143, .any), (144, .any), (145, .any), (146, .any), (141, B b3), (140, B b3), (1, B a1), (2, .loc 2 0), (4, I 0), (7, B b3)], ob := [(2, (enapi_Expr a0))], base := 0 } : St) kz =
 (kz .normal ({ fr := [(1, B a1), (2, .loc 2 0), (4, I 0), (146, B b19)], ob := [(2, (enapi_Expr a0))], base := 0 } : St)) := by kernel_rfl
theorem q77_30 (rec77 : api_Expr → Bool → Option Int) (L : Nat) (a1 : Bool) (b19 : Bool) (a0 : api_Expr) (kz : Ex → St → Prop) : EV (O77 rec77 L) L 9 c77.r.r.r.r.r.r.r.r.r.r.r.r.r.r.r.r.l.r.r ({ fr := [(1, B a1), (2, .loc 2 0), (4, I 0), (146, B b19)], ob := [(2, (enapi_Expr a0))], base := 0 } : St) kz =
 (br b19
 (ob (F_R07_Check L a0.Name) fun r21 =>
 (kz .ret ({ fr := [(4, I r21), (149, I r21), (148, S a0.Name), (147, .loc 2 1), (1, B a1), (2, .loc 2 0), (4, I 0), (146, B b19)], ob := [(2, (enapi_Expr a0))], base := 0 } : St)))
 (kz .normal ({ fr := [(1, B a1), (2, .loc 2 0), (4, I 0), (146, B b19)], ob := [(2, (enapi_Expr a0))], base := 0 } : St))) := by kernel_rfl
theorem q77_31  (r21 : Int) (a0 : api_Expr) (a1 : Bool) (b19 : Bool) (kk : PV → Prop) : (kEnd Tryz.prog (RS Tryz.f77) kk) .ret ({ fr := [(4, I r21), (149, I r21), (148, S a0.Name), (147, .loc 2 1), (1, B a1), (2, .loc 2 0), (4, I 0), (146, B b19)], ob := [(2, (enapi_Expr a0))], base := 0 } : St) =
 (ob (some r21) (fun (x : Int) => kk (I x))) := by kernel_rfl
theorem es77_24 (rec77 : api_Expr → Bool → Option Int) (L : Nat) (st : St) (k : Ex → St → Prop) : EV (O77 rec77 L) L 9 c77.r.r.r.r.r.r.r.r.r.r.r.r.r.r.r.r.r st k = EV (O77 rec77 L) L 9 c77.r.r.r.r.r.r.r.r.r.r.r.r.r.r.r.r.r.l st (kSeq (EV (O77 rec77 L) L 9 c77.r.r.r.r.r.r.r.r.r.r.r.r.r.r.r.r.r.r) k) := evC_seq (by kernel_rfl)
theorem q77_32 (rec77 : api_Expr → Bool → Option Int) (L : Nat) (a1 : Bool) (b19 : Bool) (a0 : api_Expr) (kz : Ex → St → Prop) : EV (O77 rec77 L) L 9 c77.r.r.r.r.r.r.r.r.r.r.r.r.r.r.r.r.r.l ({ fr := [(1, B a1), (2, .loc 2 0), (4, I 0), (146, B b19)], ob := [(2, (enapi_Expr a0))], base := 0 } : St) kz =
 (kz .normal ({ fr := [(1, B a1), (2, .loc 2 0), (4, I 0)], ob := [(2, (enapi_Expr a0))], base := 0 } : St)) := by kernel_rfl
theorem es77_25 (rec77 : api_Expr → Bool → Option Int) (L : Nat) (st : St) (k : Ex → St → Prop) : EV (O77 rec77 L) L 9 c77.r.r.r.r.r.r.r.r.r.r.r.r.r.r.r.r.r.r st k = EV (O77 rec77 L) L 9 c77.r.r.r.r.r.r.r.r.r.r.r.r.r.r.r.r.r.r.l st (kSeq (EV (O77 rec77 L) L 9 c77.r.r.r.r.r.r.r.r.r.r.r.r.r.r.r.r.r.r.r) k) := evC_seq (by kernel_rfl)
theorem es77_26 (rec77 : api_Expr → Bool → Option Int) (L : Nat) (st : St) (k : Ex → St → Prop) : EV (O77 rec77 L) L 9 c77.r.r.r.r.r.r.r.r.r.r.r.r.r.r.r.r.r.r.l st k = EV (O77 rec77 L) L 9 c77.r.r.r.r.r.r.r.r.r.r.r.r.r.r.r.r.r.r.l.l st (kSeq (EV (O77 rec77 L) L 9 c77.r.r.r.r.r.r.r.r.r.r.r.r.r.r.r.r.r.r.l.r) k) := evC_seq (by kernel_rfl)
theorem q77_33 (rec77 : api_Expr → Bool → Option Int) (L : Nat) (a1 : Bool) (a0 : api_Expr) (kz : Ex → St → Prop) : EV (O77 rec77 L) L 9 c77.r.r.r.r.r.r.r.r.r.r.r.r.r.r.r.r.r.r.l.l ({ fr := [(1, B a1), (2, .loc 2 0), (4, I 0)], ob := [(2, (enapi_Expr a0))], base := 0 } : St) kz =
 (kz .normal ({ fr := [(10, I 0), (1, B a1), (2, .loc 2 0), (4, I 0)], ob := [(2, (enapi_Expr a0))], base := 0 } : St)) := by kernel_rfl
theorem es77_27 (rec77 : api_Expr → Bool → Option Int) (L : Nat) (st : St) (k : Ex → St → Prop) : EV (O77 rec77 L) L 9 c77.r.r.r.r.r.r.r.r.r.r.r.r.r.r.r.r.r.r.l.r st k = EV (O77 rec77 L) L 9 c77.r.r.r.r.r.r.r.r.r.r.r.r.r.r.r.r.r.r.l.r.l st (kSeq (EV (O77 rec77 L) L 9 c77.r.r.r.r.r.r.r.r.r.r.r.r.r.r.r.r.r.r.l.r.r) k) := evC_seq (by kernel_rfl)
theorem q77_34 (rec77 : api_Expr → Bool → Option Int) (L : Nat) (a1 : Bool) (a0 : api_Expr) (kz : Ex → St → Prop) : EV (O77 rec77 L) L 9 c77.r.r.r.r.r.r.r.r.r.r.r.r.r.r.r.r.r.r.l.r.l ({ fr := [(10, I 0), (1, B a1), (2, .loc 2 0), (4, I 0)], ob := [(2, (enapi_Expr a0))], base := 0 } : St) kz =
 (kz .normal ({ fr := [(1, B a1), (2, .loc 2 0), (4, I 0), (10, I 0)], ob := [(2, (enapi_Expr a0))], base := 0 } : St)) := by kernel_rfl
def kc77_35 (rec77 : api_Expr → Bool → Option Int) (L : Nat)  (kz : Ex → St → Prop) : Ex → St → Prop := (kBlock 0 kz)
theorem q77_35 (rec77 : api_Expr → Bool → Option Int) (L : Nat) (a1 : Bool) (a0 : api_Expr) (kz : Ex → St → Prop) (o22 : Nat × (Int × Int)) : KK77_1 a1 a0 (kc77_35 rec77 L kz) o22 =
 (seln o22.1 [(kz .ret ({ fr := [(0, .any), (1, B a1), (2, .loc 2 0), (4, I o22.2.1), (5, .any), (6, .any), (7, .any), (8, .any), (9, .any), (10, I o22.2.2)], ob := [(2, (enapi_Expr a0))], base := 0 } : St)),
 (kz .normal ({ fr := [(0, .any), (1, B a1), (2, .loc 2 0), (4, I o22.2.1), (5, .any), (6, .any), (7, .any), (8, .any), (9, .any), (10, I o22.2.2)], ob := [(2, (enapi_Expr a0))], base := 0 } : St))]) := by kernel_rfl
theorem q77_36 (rec77 : api_Expr → Bool → Option Int) (L : Nat) (a1 : Bool) (a0 : api_Expr) (kz : Ex → St → Prop) : EV (O77 rec77 L) L 9 c77.r.r.r.r.r.r.r.r.r.r.r.r.r.r.r.r.r.r.l.r.r ({ fr := [(1, B a1), (2, .loc 2 0), (4, I 0), (10, I 0)], ob := [(2, (enapi_Expr a0))], base := 0 } : St) kz =
 (loopN (EV (O77 rec77 L) L 9 c77.r.r.r.r.r.r.r.r.r.r.r.r.r.r.r.r.r.r.l.r.r.l.l) [0, 1, 2, 4, 5, 6, 7, 8, 9, 10] [2] L (sh77_1 a1 a0 0 0) (kc77_35 rec77 L kz)) := by kernel_rfl
theorem q77_37  (a1 : Bool) (o22 : Nat × (Int × Int)) (a0 : api_Expr) (kk : PV → Prop) : (kEnd Tryz.prog (RS Tryz.f77) kk) .ret ({ fr := [(0, .any), (1, B a1), (2, .loc 2 0), (4, I o22.2.1), (5, .any), (6, .any), (7, .any), (8, .any), (9, .any), (10, I o22.2.2)], ob := [(2, (enapi_Expr a0))], base := 0 } : St) =
 (ob (some o22.2.1) (fun (x : Int) => kk (I x))) := by kernel_rfl
theorem es77_28 (rec77 : api_Expr → Bool → Option Int) (L : Nat) (st : St) (k : Ex → St → Prop) : EV (O77 rec77 L) L 9 c77.r.r.r.r.r.r.r.r.r.r.r.r.r.r.r.r.r.r.r st k = EV (O77 rec77 L) L 9 c77.r.r.r.r.r.r.r.r.r.r.r.r.r.r.r.r.r.r.r.l st (kSeq (EV (O77 rec77 L) L 9 c77.r.r.r.r.r.r.r.r.r.r.r.r.r.r.r.r.r.r.r.r) k) := evC_seq (by kernel_rfl)
theorem q77_38 (rec77 : api_Expr → Bool → Option Int) (L : Nat) (a1 : Bool) (o22 : Nat × (Int × Int)) (a0 : api_Expr) (kz : Ex → St → Prop) : EV (O77 rec77 L) L 9 c77.r.r.r.r.r.r.r.r.r.r.r.r.r.r.r.r.r.r.r.l ({ fr := [(0, .any), (1, B a1), (2, .loc 2 0), (4, I o22.2.1), (5, .any), (6, .any), (7, .any), (8, .any), (9, .any), (10, I o22.2.2)], ob := [(2, (enapi_Expr a0))], base := 0 } : St) kz =
 (kz .normal ({ fr := [(4, I o22.2.1)], ob := [(2, (enapi_Expr a0))], base := 0 } : St)) := by kernel_rfl
theorem es77_29 (rec77 : api_Expr → Bool → Option Int) (L : Nat) (st : St) (k : Ex → St → Prop) : EV (O77 rec77 L) L 9 c77.r.r.r.r.r.r.r.r.r.r.r.r.r.r.r.r.r.r.r.r st k = EV (O77 rec77 L) L 9 c77.r.r.r.r.r.r.r.r.r.r.r.r.r.r.r.r.r.r.r.r.l st (kSeq (EV (O77 rec77 L) L 9 c77.r.r.r.r.r.r.r.r.r.r.r.r.r.r.r.r.r.r.r.r.r) k) := evC_seq (by kernel_rfl)
theorem q77_39 (rec77 : api_Expr → Bool → Option Int) (L : Nat) (o22 : Nat × (Int × Int)) (a0 : api_Expr) (kz : Ex → St → Prop) : EV (O77 rec77 L) L 9 c77.r.r.r.r.r.r.r.r.r.r.r.r.r.r.r.r.r.r.r.r.l ({ fr := [(4, I o22.2.1)], ob := [(2, (enapi_Expr a0))], base := 0 } : St) kz =
 (kz .normal ({ fr := [(4, I 0), (4, I o22.2.1)], ob := [(2, (enapi_Expr a0))], base := 0 } : St)) := by kernel_rfl
theorem q77_40 (rec77 : api_Expr → Bool → Option Int) (L : Nat) (o22 : Nat × (Int × Int)) (a0 : api_Expr) (kz : Ex → St → Prop) : EV (O77 rec77 L) L 9 c77.r.r.r.r.r.r.r.r.r.r.r.r.r.r.r.r.r.r.r.r.r ({ fr := [(4, I 0), (4, I o22.2.1)], ob := [(2, (enapi_Expr a0))], base := 0 } : St) kz =
 (kz .ret ({ fr := [(4, I 0), (4, I o22.2.1)], ob := [(2, (enapi_Expr a0))], base := 0 } : St)) := by kernel_rfl
theorem q77_41  (o22 : Nat × (Int × Int)) (a0 : api_Expr) (kk : PV → Prop) : (kEnd Tryz.prog (RS Tryz.f77) kk) .ret ({ fr := [(4, I 0), (4, I o22.2.1)], ob := [(2, (enapi_Expr a0))], base := 0 } : St) =
 (ob (some 0) (fun (x : Int) => kk (I x))) := by kernel_rfl
theorem q77_42 (rec77 : api_Expr → Bool → Option Int) (L : Nat) (b5 : Bool) (a0 : api_Expr) (r12 : Bool) (a1 : Bool) (b3 : Bool) (kz : Ex → St → Prop) : EV (O77 rec77 L) L 9 c77.r.r.r.r.r.r.r.r.r.r.r.r.r.r.l.r.l ({ fr := [(139, B false), (138, B false), (124, B false), (137, .tup []), (126, B false), (136, .tup []), (135, .tup []), (134, .tup []), (133, .tup []), (132, .tup []), (131, .tup []), (130, .tup []), (126, B false), (129, .tup []), (126, B false), (128, .tup []), (126, B false), (127, .tup []), (126, B false), (126, B b5), (124, B false), (125, B b5), (124, B false), (124, B (a0.N != 1)), (123, B (a0.N != 1)), (122, B (a0.N != 1)), (109, B false), (121, B (a0.N != 1)), (118, B true), (120, I a0.N), (118, B true), (119, .loc 2 2), (118, B true), (118, B (a0.N != 0)), (109, B false), (117, B (a0.N != 0)), (109, B false), (116, B (a0.N != 0)), (113, B true), (115, I a0.N), (113, B true), (114, .loc 2 2), (113, B true), (113, B (a0.Op == 2)), (109, B false), (112, B (a0.Op == 2)), (109, B false), (111, I a0.Op), (109, B false), (110, .loc 2 0), (109, B false), (109, B (!r12)), (108, B (!r12)), (107, B (!r12)), (103, B true), (106, B r12), (103, B true), (105, I a0.N), (103, B true), (104, .loc 2 2), (103, B true), (103, B (a0.Op == 1)), (102, B (a0.Op == 1)), (101, I a0.Op), (100, .loc 2 0), (1, B a1), (2, .loc 2 0), (4, I 0), (7, B b3), (8, B b5)], ob := [(2, (enapi_Expr a0))], base := 0 } : St) kz =
 (kz .normal ({ fr := [(1, B a1), (2, .loc 2 0), (4, I 0), (7, B b3), (139, B false)], ob := [(2, (enapi_Expr a0))], base := 0 } : St)) := by kernel_rfl
theorem q77_43 (rec77 : api_Expr → Bool → Option Int) (L : Nat) (a1 : Bool) (b3 : Bool) (a0 : api_Expr) (kz : Ex → St → Prop) : EV (O77 rec77 L) L 9 c77.r.r.r.r.r.r.r.r.r.r.r.r.r.r.l.r.r ({ fr := [(1, B a1), (2, .loc 2 0), (4, I 0), (7, B b3), (139, B false)], ob := [(2, (enapi_Expr a0))], base := 0 } : St) kz =
 (kz .normal ({ fr := [(1, B a1), (2, .loc 2 0), (4, I 0), (7, B b3), (139, B false)], ob := [(2, (enapi_Expr a0))], base := 0 } : St)) := by kernel_rfl
theorem q77_44 (rec77 : api_Expr → Bool → Option Int) (L : Nat) (a1 : Bool) (b3 : Bool) (a0 : api_Expr) (kz : Ex → St → Prop) : EV (O77 rec77 L) L 9 c77.r.r.r.r.r.r.r.r.r.r.r.r.r.r.r.l ({ fr := [(1, B a1), (2, .loc 2 0), (4, I 0), (7, B b3), (139, B false)], ob := [(2, (enapi_Expr a0))], base := 0 } : St) kz =
 (kz .normal ({ fr := [(1, B a1), (2, .loc 2 0), (4, I 0), (7, B b3)], ob := [(2, (enapi_Expr a0))], base := 0 } : St)) := by kernel_rfl
theorem q77_45 (rec77 : api_Expr → Bool → Option Int) (L : Nat) (a0 : api_Expr) (b5 : Bool) (r12 : Bool) (a1 : Bool) (b3 : Bool) (kz : Ex → St → Prop) : EV (O77 rec77 L) L 9 c77.r.r.r.r.r.r.r.r.r.r.r.r.r.r.l.r.l ({ fr := [(139, B true), (138, B true), (124, B false), (137, B true), (126, B true), (136, .tup []), (130, B true), (135, .tup []), (130, B true), (134, .tup []), (130, B true), (133, .tup []), (130, B true), (132, .tup []), (130, B true), (131, .tup []), (130, B true), (130, B (decide (a0.N < 0))), (126, B true), (129, B (decide (a0.N < 0))), (126, B true), (128, I a0.N), (126, B true), (127, .loc 2 2), (126, B true), (126, B b5), (124, B false), (125, B b5), (124, B false), (124, B false), (123, B false), (122, B false), (109, B false), (121, .tup []), (118, B false), (120, .tup []), (118, B false), (119, .tup []), (118, B false), (118, B (a0.N != 0)), (109, B false), (117, B (a0.N != 0)), (109, B false), (116, B (a0.N != 0)), (113, B true), (115, I a0.N), (113, B true), (114, .loc 2 2), (113, B true), (113, B (a0.Op == 2)), (109, B false), (112, B (a0.Op == 2)), (109, B false), (111, I a0.Op), (109, B false), (110, .loc 2 0), (109, B false), (109, B (!r12)), (108, B (!r12)), (107, B (!r12)), (103, B true), (106, B r12), (103, B true), (105, I a0.N), (103, B true), (104, .loc 2 2), (103, B true), (103, B (a0.Op == 1)), (102, B (a0.Op == 1)), (101, I a0.Op), (100, .loc 2 0), (1, B a1), (2, .loc 2 0), (4, I 0), (7, B b3), (8, B b5)], ob := [(2, (enapi_Expr a0))], base := 0 } : St) kz =
 (kz .normal ({ fr := [(1, B a1), (2, .loc 2 0), (4, I 0), (7, B b3), (139, B true)], ob := [(2, (enapi_Expr a0))], base := 0 } : St)) := by kernel_rfl
theorem q77_46 (rec77 : api_Expr → Bool → Option Int) (L : Nat) (a0 : api_Expr) (r14 : Int) (b5 : Bool) (r12 : Bool) (a1 : Bool) (b3 : Bool) (kz : Ex → St → Prop) : EV (O77 rec77 L) L 9 c77.r.r.r.r.r.r.r.r.r.r.r.r.r.r.l.r.l ({ fr := [(139, B (decide (a0.N > r14))), (138, B (decide (a0.N > r14))), (124, B false), (137, B (decide (a0.N > r14))), (126, B true), (136, B (decide (a0.N > r14))), (130, B false), (135, I r14), (130, B false), (134, I a0.Op), (130, B false), (133, .loc 2 0), (130, B false), (132, I a0.N), (130, B false), (131, .loc 2 2), (130, B false), (130, B (decide (a0.N < 0))), (126, B true), (129, B (decide (a0.N < 0))), (126, B true), (128, I a0.N), (126, B true), (127, .loc 2 2), (126, B true), (126, B b5), (124, B false), (125, B b5), (124, B false), (124, B false), (123, B false), (122, B false), (109, B false), (121, .tup []), (118, B false), (120, .tup []), (118, B false), (119, .tup []), (118, B false), (118, B (a0.N != 0)), (109, B false), (117, B (a0.N != 0)), (109, B false), (116, B (a0.N != 0)), (113, B true), (115, I a0.N), (113, B true), (114, .loc 2 2), (113, B true), (113, B (a0.Op == 2)), (109, B false), (112, B (a0.Op == 2)), (109, B false), (111, I a0.Op), (109, B false), (110, .loc 2 0), (109, B false), (109, B (!r12)), (108, B (!r12)), (107, B (!r12)), (103, B true), (106, B r12), (103, B true), (105, I a0.N), (103, B true), (104, .loc 2 2), (103, B true), (103, B (a0.Op == 1)), (102, B (a0.Op == 1)), (101, I a0.Op), (100, .loc 2 0), (1, B a1), (2, .loc 2 0), (4, I 0), (7, B b3), (8, B b5)], ob := [(2, (enapi_Expr a0))], base := 0 } : St) kz =
 (kz .normal ({ fr := [(1, B a1), (2, .loc 2 0), (4, I 0), (7, B b3), (139, B (decide (a0.N > r14)))], ob := [(2, (enapi_Expr a0))], base := 0 } : St)) := by kernel_rfl
theorem q77_47 (rec77 : api_Expr → Bool → Option Int) (L : Nat) (b5 : Bool) (a0 : api_Expr) (r12 : Bool) (a1 : Bool) (b3 : Bool) (kz : Ex → St → Prop) : EV (O77 rec77 L) L 9 c77.r.r.r.r.r.r.r.r.r.r.r.r.r.r.l.r.l ({ fr := [(139, B false), (138, B false), (124, B false), (137, .tup []), (126, B false), (136, .tup []), (135, .tup []), (134, .tup []), (133, .tup []), (132, .tup []), (131, .tup []), (130, .tup []), (126, B false), (129, .tup []), (126, B false), (128, .tup []), (126, B false), (127, .tup []), (126, B false), (126, B b5), (124, B false), (125, B b5), (124, B false), (124, B false), (123, B false), (122, B false), (109, B false), (121, .tup []), (118, B false), (120, .tup []), (118, B false), (119, .tup []), (118, B false), (118, B (a0.N != 0)), (109, B false), (117, B (a0.N != 0)), (109, B false), (116, B (a0.N != 0)), (113, B true), (115, I a0.N), (113, B true), (114, .loc 2 2), (113, B true), (113, B (a0.Op == 2)), (109, B false), (112, B (a0.Op == 2)), (109, B false), (111, I a0.Op), (109, B false), (110, .loc 2 0), (109, B false), (109, B (!r12)), (108, B (!r12)), (107, B (!r12)), (103, B true), (106, B r12), (103, B true), (105, I a0.N), (103, B true), (104, .loc 2 2), (103, B true), (103, B (a0.Op == 1)), (102, B (a0.Op == 1)), (101, I a0.Op), (100, .loc 2 0), (1, B a1), (2, .loc 2 0), (4, I 0), (7, B b3), (8, B b5)], ob := [(2, (enapi_Expr a0))], base := 0 } : St) kz =
 (kz .normal ({ fr := [(1, B a1), (2, .loc 2 0), (4, I 0), (7, B b3), (139, B false)], ob := [(2, (enapi_Expr a0))], base := 0 } : St)) := by kernel_rfl
theorem q77_48 (rec77 : api_Expr → Bool → Option Int) (L : Nat) (a0 : api_Expr) (b5 : Bool) (r12 : Bool) (a1 : Bool) (b3 : Bool) (kz : Ex → St → Prop) : EV (O77 rec77 L) L 9 c77.r.r.r.r.r.r.r.r.r.r.r.r.r.r.l.r.l ({ fr := [(139, B true), (138, B true), (124, B false), (137, B true), (126, B true), (136, .tup []), (130, B true), (135, .tup []), (130, B true), (134, .tup []), (130, B true), (133, .tup []), (130, B true), (132, .tup []), (130, B true), (131, .tup []), (130, B true), (130, B (decide (a0.N < 0))), (126, B true), (129, B (decide (a0.N < 0))), (126, B true), (128, I a0.N), (126, B true), (127, .loc 2 2), (126, B true), (126, B b5), (124, B false), (125, B b5), (124, B false), (124, B false), (123, B false), (122, B false), (109, B false), (121, .tup []), (118, B false), (120, .tup []), (118, B false), (119, .tup []), (118, B false), (118, B false), (109, B false), (117, B false), (109, B false), (116, .tup []), (113, B false), (115, .tup []), (113, B false), (114, .tup []), (113, B false), (113, B (a0.Op == 2)), (109, B false), (112, B (a0.Op == 2)), (109, B false), (111, I a0.Op), (109, B false), (110, .loc 2 0), (109, B false), (109, B (!r12)), (108, B (!r12)), (107, B (!r12)), (103, B true), (106, B r12), (103, B true), (105, I a0.N), (103, B true), (104, .loc 2 2), (103, B true), (103, B (a0.Op == 1)), (102, B (a0.Op == 1)), (101, I a0.Op), (100, .loc 2 0), (1, B a1), (2, .loc 2 0), (4, I 0), (7, B b3), (8, B b5)], ob := [(2, (enapi_Expr a0))], base := 0 } : St) kz =
 (kz .normal ({ fr := [(1, B a1), (2, .loc 2 0), (4, I 0), (7, B b3), (139, B true)], ob := [(2, (enapi_Expr a0))], base := 0 } : St)) := by kernel_rfl
theorem q77_49 (rec77 : api_Expr → Bool → Option Int) (L : Nat) (a0 : api_Expr) (r15 : Int) (b5 : Bool) (r12 : Bool) (a1 : Bool) (b3 : Bool) (kz : Ex → St → Prop) : EV (O77 rec77 L) L 9 c77.r.r.r.r.r.r.r.r.r.r.r.r.r.r.l.r.l ({ fr := [(139, B (decide (a0.N > r15))), (138, B (decide (a0.N > r15))), (124, B false), (137, B (decide (a0.N > r15))), (126, B true), (136, B (decide (a0.N > r15))), (130, B false), (135, I r15), (130, B false), (134, I a0.Op), (130, B false), (133, .loc 2 0), (130, B false), (132, I a0.N), (130, B false), (131, .loc 2 2), (130, B false), (130, B (decide (a0.N < 0))), (126, B true), (129, B (decide (a0.N < 0))), (126, B true), (128, I a0.N), (126, B true), (127, .loc 2 2), (126, B true), (126, B b5), (124, B false), (125, B b5), (124, B false), (124, B false), (123, B false), (122, B false), (109, B false), (121, .tup []), (118, B false), (120, .tup []), (118, B false), (119, .tup []), (118, B false), (118, B false), (109, B false), (117, B false), (109, B false), (116, .tup []), (113, B false), (115, .tup []), (113, B false), (114, .tup []), (113, B false), (113, B (a0.Op == 2)), (109, B false), (112, B (a0.Op == 2)), (109, B false), (111, I a0.Op), (109, B false), (110, .loc 2 0), (109, B false), (109, B (!r12)), (108, B (!r12)), (107, B (!r12)), (103, B true), (106, B r12), (103, B true), (105, I a0.N), (103, B true), (104, .loc 2 2), (103, B true), (103, B (a0.Op == 1)), (102, B (a0.Op == 1)), (101, I a0.Op), (100, .loc 2 0), (1, B a1), (2, .loc 2 0), (4, I 0), (7, B b3), (8, B b5)], ob := [(2, (enapi_Expr a0))], base := 0 } : St) kz =
 (kz .normal ({ fr := [(1, B a1), (2, .loc 2 0), (4, I 0), (7, B b3), (139, B (decide (a0.N > r15)))], ob := [(2, (enapi_Expr a0))], base := 0 } : St)) := by kernel_rfl
theorem q77_50 (rec77 : api_Expr → Bool → Option Int) (L : Nat) (b5 : Bool) (a0 : api_Expr) (r12 : Bool) (a1 : Bool) (b3 : Bool) (kz : Ex → St → Prop) : EV (O77 rec77 L) L 9 c77.r.r.r.r.r.r.r.r.r.r.r.r.r.r.l.r.l ({ fr := [(139, B false), (138, B false), (124, B false), (137, .tup []), (126, B false), (136, .tup []), (135, .tup []), (134, .tup []), (133, .tup []), (132, .tup []), (131, .tup []), (130, .tup []), (126, B false), (129, .tup []), (126, B false), (128, .tup []), (126, B false), (127, .tup []), (126, B false), (126, B b5), (124, B false), (125, B b5), (124, B false), (124, B false), (123, B false), (122, B false), (109, B false), (121, .tup []), (118, B false), (120, .tup []), (118, B false), (119, .tup []), (118, B false), (118, B false), (109, B false), (117, B false), (109, B false), (116, .tup []), (113, B false), (115, .tup []), (113, B false), (114, .tup []), (113, B false), (113, B (a0.Op == 2)), (109, B false), (112, B (a0.Op == 2)), (109, B false), (111, I a0.Op), (109, B false), (110, .loc 2 0), (109, B false), (109, B (!r12)), (108, B (!r12)), (107, B (!r12)), (103, B true), (106, B r12), (103, B true), (105, I a0.N), (103, B true), (104, .loc 2 2), (103, B true), (103, B (a0.Op == 1)), (102, B (a0.Op == 1)), (101, I a0.Op), (100, .loc 2 0), (1, B a1), (2, .loc 2 0), (4, I 0), (7, B b3), (8, B b5)], ob := [(2, (enapi_Expr a0))], base := 0 } : St) kz =
 (kz .normal ({ fr := [(1, B a1), (2, .loc 2 0), (4, I 0), (7, B b3), (139, B false)], ob := [(2, (enapi_Expr a0))], base := 0 } : St)) := by kernel_rfl
theorem q77_51 (rec77 : api_Expr → Bool → Option Int) (L : Nat) (a0 : api_Expr) (a1 : Bool) (b3 : Bool) (b5 : Bool) (kz : Ex → St → Prop) : EV (O77 rec77 L) L 9 c77.r.r.r.r.r.r.r.r.r.r.r.r.r.r.l.r.l ({ fr := [(139, B true), (138, .tup []), (124, B true), (137, .tup []), (136, .tup []), (135, .tup []), (134, .tup []), (133, .tup []), (132, .tup []), (131, .tup []), (130, .tup []), (129, .tup []), (128, .tup []), (127, .tup []), (126, .tup []), (124, B true), (125, .tup []), (124, B true), (124, B (a0.N != 1)), (123, B (a0.N != 1)), (122, B (a0.N != 1)), (109, B false), (121, B (a0.N != 1)), (118, B true), (120, I a0.N), (118, B true), (119, .loc 2 2), (118, B true), (118, B (a0.N != 0)), (109, B false), (117, B (a0.N != 0)), (109, B false), (116, B (a0.N != 0)), (113, B true), (115, I a0.N), (113, B true), (114, .loc 2 2), (113, B true), (113, B (a0.Op == 2)), (109, B false), (112, B (a0.Op == 2)), (109, B false), (111, I a0.Op), (109, B false), (110, .loc 2 0), (109, B false), (109, B false), (108, B false), (107, .tup []), (103, B false), (106, .tup []), (103, B false), (105, .tup []), (103, B false), (104, .tup []), (103, B false), (103, B (a0.Op == 1)), (102, B (a0.Op == 1)), (101, I a0.Op), (100, .loc 2 0), (1, B a1), (2, .loc 2 0), (4, I 0), (7, B b3), (8, B b5)], ob := [(2, (enapi_Expr a0))], base := 0 } : St) kz =
 (kz .normal ({ fr := [(1, B a1), (2, .loc 2 0), (4, I 0), (7, B b3), (139, B true)], ob := [(2, (enapi_Expr a0))], base := 0 } : St)) := by kernel_rfl
theorem q77_52 (rec77 : api_Expr → Bool → Option Int) (L : Nat) (a0 : api_Expr) (b5 : Bool) (a1 : Bool) (b3 : Bool) (kz : Ex → St → Prop) : EV (O77 rec77 L) L 9 c77.r.r.r.r.r.r.r.r.r.r.r.r.r.r.l.r.l ({ fr := [(139, B true), (138, B true), (124, B false), (137, B true), (126, B true), (136, .tup []), (130, B true), (135, .tup []), (130, B true), (134, .tup []), (130, B true), (133, .tup []), (130, B true), (132, .tup []), (130, B true), (131, .tup []), (130, B true), (130, B (decide (a0.N < 0))), (126, B true), (129, B (decide (a0.N < 0))), (126, B true), (128, I a0.N), (126, B true), (127, .loc 2 2), (126, B true), (126, B b5), (124, B false), (125, B b5), (124, B false), (124, B (a0.N != 1)), (123, B (a0.N != 1)), (122, B (a0.N != 1)), (109, B false), (121, B (a0.N != 1)), (118, B true), (120, I a0.N), (118, B true), (119, .loc 2 2), (118, B true), (118, B (a0.N != 0)), (109, B false), (117, B (a0.N != 0)), (109, B false), (116, B (a0.N != 0)), (113, B true), (115, I a0.N), (113, B true), (114, .loc 2 2), (113, B true), (113, B (a0.Op == 2)), (109, B false), (112, B (a0.Op == 2)), (109, B false), (111, I a0.Op), (109, B false), (110, .loc 2 0), (109, B false), (109, B false), (108, B false), (107, .tup []), (103, B false), (106, .tup []), (103, B false), (105, .tup []), (103, B false), (104, .tup []), (103, B false), (103, B (a0.Op == 1)), (102, B (a0.Op == 1)), (101, I a0.Op), (100, .loc 2 0), (1, B a1), (2, .loc 2 0), (4, I 0), (7, B b3), (8, B b5)], ob := [(2, (enapi_Expr a0))], base := 0 } : St) kz =
 (kz .normal ({ fr := [(1, B a1), (2, .loc 2 0), (4, I 0), (7, B b3), (139, B true)], ob := [(2, (enapi_Expr a0))], base := 0 } : St)) := by kernel_rfl
theorem q77_53 (rec77 : api_Expr → Bool → Option Int) (L : Nat) (a0 : api_Expr) (r16 : Int) (b5 : Bool) (a1 : Bool) (b3 : Bool) (kz : Ex → St → Prop) : EV (O77 rec77 L) L 9 c77.r.r.r.r.r.r.r.r.r.r.r.r.r.r.l.r.l ({ fr := [(139, B (decide (a0.N > r16))), (138, B (decide (a0.N > r16))), (124, B false), (137, B (decide (a0.N > r16))), (126, B true), (136, B (decide (a0.N > r16))), (130, B false), (135, I r16), (130, B false), (134, I a0.Op), (130, B false), (133, .loc 2 0), (130, B false), (132, I a0.N), (130, B false), (131, .loc 2 2), (130, B false), (130, B (decide (a0.N < 0))), (126, B true), (129, B (decide (a0.N < 0))), (126, B true), (128, I a0.N), (126, B true), (127, .loc 2 2), (126, B true), (126, B b5), (124, B false), (125, B b5), (124, B false), (124, B (a0.N != 1)), (123, B (a0.N != 1)), (122, B (a0.N != 1)), (109, B false), (121, B (a0.N != 1)), (118, B true), (120, I a0.N), (118, B true), (119, .loc 2 2), (118, B true), (118, B (a0.N != 0)), (109, B false), (117, B (a0.N != 0)), (109, B false), (116, B (a0.N != 0)), (113, B true), (115, I a0.N), (113, B true), (114, .loc 2 2), (113, B true), (113, B (a0.Op == 2)), (109, B false), (112, B (a0.Op == 2)), (109, B false), (111, I a0.Op), (109, B false), (110, .loc 2 0), (109, B false), (109, B false), (108, B false), (107, .tup []), (103, B false), (106, .tup []), (103, B false), (105, .tup []), (103, B false), (104, .tup []), (103, B false), (103, B (a0.Op == 1)), (102, B (a0.Op == 1)), (101, I a0.Op), (100, .loc 2 0), (1, B a1), (2, .loc 2 0), (4, I 0), (7, B b3), (8, B b5)], ob := [(2, (enapi_Expr a0))], base := 0 } : St) kz =
 (kz .normal ({ fr := [(1, B a1), (2, .loc 2 0), (4, I 0), (7, B b3), (139, B (decide (a0.N > r16)))], ob := [(2, (enapi_Expr a0))], base := 0 } : St)) := by kernel_rfl
theorem q77_54 (rec77 : api_Expr → Bool → Option Int) (L : Nat) (b5 : Bool) (a0 : api_Expr) (a1 : Bool) (b3 : Bool) (kz : Ex → St → Prop) : EV (O77 rec77 L) L 9 c77.r.r.r.r.r.r.r.r.r.r.r.r.r.r.l.r.l ({ fr := [(139, B false), (138, B false), (124, B false), (137, .tup []), (126, B false), (136, .tup []), (135, .tup []), (134, .tup []), (133, .tup []), (132, .tup []), (131, .tup []), (130, .tup []), (126, B false), (129, .tup []), (126, B false), (128, .tup []), (126, B false), (127, .tup []), (126, B false), (126, B b5), (124, B false), (125, B b5), (124, B false), (124, B (a0.N != 1)), (123, B (a0.N != 1)), (122, B (a0.N != 1)), (109, B false), (121, B (a0.N != 1)), (118, B true), (120, I a0.N), (118, B true), (119, .loc 2 2), (118, B true), (118, B (a0.N != 0)), (109, B false), (117, B (a0.N != 0)), (109, B false), (116, B (a0.N != 0)), (113, B true), (115, I a0.N), (113, B true), (114, .loc 2 2), (113, B true), (113, B (a0.Op == 2)), (109, B false), (112, B (a0.Op == 2)), (109, B false), (111, I a0.Op), (109, B false), (110, .loc 2 0), (109, B false), (109, B false), (108, B false), (107, .tup []), (103, B false), (106, .tup []), (103, B false), (105, .tup []), (103, B false), (104, .tup []), (103, B false), (103, B (a0.Op == 1)), (102, B (a0.Op == 1)), (101, I a0.Op), (100, .loc 2 0), (1, B a1), (2, .loc 2 0), (4, I 0), (7, B b3), (8, B b5)], ob := [(2, (enapi_Expr a0))], base := 0 } : St) kz =
 (kz .normal ({ fr := [(1, B a1), (2, .loc 2 0), (4, I 0), (7, B b3), (139, B false)], ob := [(2, (enapi_Expr a0))], base := 0 } : St)) := by kernel_rfl
theorem q77_55 (rec77 : api_Expr → Bool → Option Int) (L : Nat) (a0 : api_Expr) (b5 : Bool) (a1 : Bool) (b3 : Bool) (kz : Ex → St → Prop) : EV (O77 rec77 L) L 9 c77.r.r.r.r.r.r.r.r.r.r.r.r.r.r.l.r.l ({ fr := [(139, B true), (138, B true), (124, B false), (137, B true), (126, B true), (136, .tup []), (130, B true), (135, .tup []), (130, B true), (134, .tup []), (130, B true), (133, .tup []), (130, B true), (132, .tup []), (130, B true), (131, .tup []), (130, B true), (130, B (decide (a0.N < 0))), (126, B true), (129, B (decide (a0.N < 0))), (126, B true), (128, I a0.N), (126, B true), (127, .loc 2 2), (126, B true), (126, B b5), (124, B false), (125, B b5), (124, B false), (124, B false), (123, B false), (122, B false), (109, B false), (121, .tup []), (118, B false), (120, .tup []), (118, B false), (119, .tup []), (118, B false), (118, B (a0.N != 0)), (109, B false), (117, B (a0.N != 0)), (109, B false), (116, B (a0.N != 0)), (113, B true), (115, I a0.N), (113, B true), (114, .loc 2 2), (113, B true), (113, B (a0.Op == 2)), (109, B false), (112, B (a0.Op == 2)), (109, B false), (111, I a0.Op), (109, B false), (110, .loc 2 0), (109, B false), (109, B false), (108, B false), (107, .tup []), (103, B false), (106, .tup []), (103, B false), (105, .tup []), (103, B false), (104, .tup []), (103, B false), (103, B (a0.Op == 1)), (102, B (a0.Op == 1)), (101, I a0.Op), (100, .loc 2 0), (1, B a1), (2, .loc 2 0), (4, I 0), (7, B b3), (8, B b5)], ob := [(2, (enapi_Expr a0))], base := 0 } : St) kz =
 (kz .normal ({ fr := [(1, B a1), (2, .loc 2 0), (4, I 0), (7, B b3), (139, B true)], ob := [(2, (enapi_Expr a0))], base := 0 } : St)) := by kernel_rfl
theorem q77_56 (rec77 : api_Expr → Bool → Option Int) (L : Nat) (a0 : api_Expr) (r17 : Int) (b5 : Bool) (a1 : Bool) (b3 : Bool) (kz : Ex → St → Prop) : EV (O77 rec77 L) L 9 c77.r.r.r.r.r.r.r.r.r.r.r.r.r.r.l.r.l ({ fr := [(139, B (decide (a0.N > r17))), (138, B (decide (a0.N > r17))), (124, B false), (137, B (decide (a0.N > r17))), (126, B true), (136, B (decide (a0.N > r17))), (130, B false), (135, I r17), (130, B false), (134, I a0.Op), (130, B false), (133, .loc 2 0), (130, B false), (132, I a0.N), (130, B false), (131, .loc 2 2), (130, B false), (130, B (decide (a0.N < 0))), (126, B true), (129, B (decide (a0.N < 0))), (126, B true), (128, I a0.N), (126, B true), (127, .loc 2 2), (126, B true), (126, B b5), (124, B false), (125, B b5), (124, B false), (124, B false), (123, B false), (122, B false), (109, B false), (121, .tup []), (118, B false), (120, .tup []), (118, B false), (119, .tup []), (118, B false), (118, B (a0.N != 0)), (109, B false), (117, B (a0.N != 0)), (109, B false), (116, B (a0.N != 0)), (113, B true), (115, I a0.N), (113, B true), (114, .loc 2 2), (113, B true), (113, B (a0.Op == 2)), (109, B false), (112, B (a0.Op == 2)), (109, B false), (111, I a0.Op), (109, B false), (110, .loc 2 0), (109, B false), (109, B false), (108, B false), (107, .tup []), (103, B false), (106, .tup []), (103, B false), (105, .tup []), (103, B false), (104, .tup []), (103, B false), (103, B (a0.Op == 1)), (102, B (a0.Op == 1)), (101, I a0.Op), (100, .loc 2 0), (1, B a1), (2, .loc 2 0), (4, I 0), (7, B b3), (8, B b5)], ob := [(2, (enapi_Expr a0))], base := 0 } : St) kz =
 (kz .normal ({ fr := [(1, B a1), (2, .loc 2 0), (4, I 0), (7, B b3), (139, B (decide (a0.N > r17)))], ob := [(2, (enapi_Expr a0))], base := 0 } : St)) := by kernel_rfl
theorem q77_57 (rec77 : api_Expr → Bool → Option Int) (L : Nat) (b5 : Bool) (a0 : api_Expr) (a1 : Bool) (b3 : Bool) (kz : Ex → St → Prop) : EV (O77 rec77 L) L 9 c77.r.r.r.r.r.r.r.r.r.r.r.r.r.r.l.r.l ({ fr := [(139, B false), (138, B false), (124, B false), (137, .tup []), (126, B false), (136, .tup []), (135, .tup []), (134, .tup []), (133, .tup []), (132, .tup []), (131, .tup []), (130, .tup []), (126, B false), (129, .tup []), (126, B false), (128, .tup []), (126, B false), (127, .tup []), (126, B false), (126, B b5), (124, B false), (125, B b5), (124, B false), (124, B false), (123, B false), (122, B false), (109, B false), (121, .tup []), (118, B false), (120, .tup []), (118, B false), (119, .tup []), (118, B false), (118, B (a0.N != 0)), (109, B false), (117, B (a0.N != 0)), (109, B false), (116, B (a0.N != 0)), (113, B true), (115, I a0.N), (113, B true), (114, .loc 2 2), (113, B true), (113, B (a0.Op == 2)), (109, B false), (112, B (a0.Op == 2)), (109, B false), (111, I a0.Op), (109, B false), (110, .loc 2 0), (109, B false), (109, B false), (108, B false), (107, .tup []), (103, B false), (106, .tup []), (103, B false), (105, .tup []), (103, B false), (104, .tup []), (103, B false), (103, B (a0.Op == 1)), (102, B (a0.Op == 1)), (101, I a0.Op), (100, .loc 2 0), (1, B a1), (2, .loc 2 0), (4, I 0), (7, B b3), (8, B b5)], ob := [(2, (enapi_Expr a0))], base := 0 } : St) kz =
 (kz .normal ({ fr := [(1, B a1), (2, .loc 2 0), (4, I 0), (7, B b3), (139, B false)], ob := [(2, (enapi_Expr a0))], base := 0 } : St)) := by kernel_rfl
theorem q77_58 (rec77 : api_Expr → Bool → Option Int) (L : Nat) (a0 : api_Expr) (b5 : Bool) (a1 : Bool) (b3 : Bool) (kz : Ex → St → Prop) : EV (O77 rec77 L) L 9 c77.r.r.r.r.r.r.r.r.r.r.r.r.r.r.l.r.l ({ fr := [(139, B true), (138, B true), (124, B false), (137, B true), (126, B true), (136, .tup []), (130, B true), (135, .tup []), (130, B true), (134, .tup []), (130, B true), (133, .tup []), (130, B true), (132, .tup []), (130, B true), (131, .tup []), (130, B true), (130, B (decide (a0.N < 0))), (126, B true), (129, B (decide (a0.N < 0))), (126, B true), (128, I a0.N), (126, B true), (127, .loc 2 2), (126, B true), (126, B b5), (124, B false), (125, B b5), (124, B false), (124, B false), (123, B false), (122, B false), (109, B false), (121, .tup []), (118, B false), (120, .tup []), (118, B false), (119, .tup []), (118, B false), (118, B false), (109, B false), (117, B false), (109, B false), (116, .tup []), (113, B false), (115, .tup []), (113, B false), (114, .tup []), (113, B false), (113, B (a0.Op == 2)), (109, B false), (112, B (a0.Op == 2)), (109, B false), (111, I a0.Op), (109, B false), (110, .loc 2 0), (109, B false), (109, B false), (108, B false), (107, .tup []), (103, B false), (106, .tup []), (103, B false), (105, .tup []), (103, B false), (104, .tup []), (103, B false), (103, B (a0.Op == 1)), (102, B (a0.Op == 1)), (101, I a0.Op), (100, .loc 2 0), (1, B a1), (2, .loc 2 0), (4, I 0), (7, B b3), (8, B b5)], ob := [(2, (enapi_Expr a0))], base := 0 } : St) kz =
 (kz .normal ({ fr := [(1, B a1), (2, .loc 2 0), (4, I 0), (7, B b3), (139, B true)], ob := [(2, (enapi_Expr a0))], base := 0 } : St)) := by kernel_rfl
theorem q77_59 (rec77 : api_Expr → Bool → Option Int) (L : Nat) (a0 : api_Expr) (r18 : Int) (b5 : Bool) (a1 : Bool) (b3 : Bool) (kz : Ex → St → Prop) : EV (O77 rec77 L) L 9 c77.r.r.r.r.r.r.r.r.r.r.r.r.r.r.l.r.l ({ fr := [(139, B (decide (a0.N > r18))), (138, B (decide (a0.N > r18))), (124, B false), (137, B (decide (a0.N > r18))), (126, B true), (136, B (decide (a0.N > r18))), (130, B false), (135, I r18), (130, B false), (134, I a0.Op), (130, B false), (133, .loc 2 0), (130, B false), (132, I a0.N), (130, B false), (131, .loc 2 2), (130, B false), (130, B (decide (a0.N < 0))), (126, B true), (129, B (decide (a0.N < 0))), (126, B true), (128, I a0.N), (126, B true), (127, .loc 2 2), (126, B true), (126, B b5), (124, B false), (125, B b5), (124, B false), (124, B false), (123, B false), (122, B false), (109, B false), (121, .tup []), (118, B false), (120, .tup []), (118, B false), (119, .tup []), (118, B false), (118, B false), (109, B false), (117, B false), (109, B false), (116, .tup []), (113, B false), (115, .tup []), (113, B false), (114, .tup []), (113, B false), (113, B (a0.Op == 2)), (109, B false), (112, B (a0.Op == 2)), (109, B false), (111, I a0.Op), (109, B false), (110, .loc 2 0), (109, B false), (109, B false), (108, B false), (107, .tup []), (103, B false), (106, .tup []), (103, B false), (105, .tup []), (103, B false), (104, .tup []), (103, B false), (103, B (a0.Op == 1)), (102, B (a0.Op == 1)), (101, I a0.Op), (100, .loc 2 0), (1, B a1), (2, .loc 2 0), (4, I 0), (7, B b3), (8, B b5)], ob := [(2, (enapi_Expr a0))], base := 0 } : St) kz =
 (kz .normal ({ fr := [(1, B a1), (2, .loc 2 0), (4, I 0), (7, B b3), (139, B (decide (a0.N > r18)))], ob := [(2, (enapi_Expr a0))], base := 0 } : St)) := by kernel_rfl
theorem q77_60 (rec77 : api_Expr → Bool → Option Int) (L : Nat) (b5 : Bool) (a0 : api_Expr) (a1 : Bool) (b3 : Bool) (kz : Ex → St → Prop) : EV (O77 rec77 L) L 9 c77.r.r.r.r.r.r.r.r.r.r.r.r.r.r.l.r.l ({ fr := [(139, B false), (138, B false), (124, B false), (137, .tup []), (126, B false), (136, .tup []), (135, .tup []), (134, .tup []), (133, .tup []), (132, .tup []), (131, .tup []), (130, .tup []), (126, B false), (129, .tup []), (126, B false), (128, .tup []), (126, B false), (127, .tup []), (126, B false), (126, B b5), (124, B false), (125, B b5), (124, B false), (124, B false), (123, B false), (122, B false), (109, B false), (121, .tup []), (118, B false), (120, .tup []), (118, B false), (119, .tup []), (118, B false), (118, B false), (109, B false), (117, B false), (109, B false), (116, .tup []), (113, B false), (115, .tup []), (113, B false), (114, .tup []), (113, B false), (113, B (a0.Op == 2)), (109, B false), (112, B (a0.Op == 2)), (109, B false), (111, I a0.Op), (109, B false), (110, .loc 2 0), (109, B false), (109, B false), (108, B false), (107, .tup []), (103, B false), (106, .tup []), (103, B false), (105, .tup []), (103, B false), (104, .tup []), (103, B false), (103, B (a0.Op == 1)), (102, B (a0.Op == 1)), (101, I a0.Op), (100, .loc 2 0), (1, B a1), (2, .loc 2 0), (4, I 0), (7, B b3), (8, B b5)], ob := [(2, (enapi_Expr a0))], base := 0 } : St) kz =
 (kz .normal ({ fr := [(1, B a1), (2, .loc 2 0), (4, I 0), (7, B b3), (139, B false)], ob := [(2, (enapi_Expr a0))], base := 0 } : St)) := by kernel_rfl
def T_R09_node {A : Type} (an : An A) (rec77 : api_Expr → Bool → Option Int) (L : Nat) (a0 : api_Expr) (a1 : Bool) (out : Int → A) : A :=
 (an.bd (F_R09_Arity L a0.Op) fun r1 =>
 (an.jp (bif (decide (r1 ≥ 0)) then (bif a1 then (bif (a0.Op != 3) then true
 else (bif (!a1) then (decide (a0.Op ≤ 24))
 else false))
 else (bif (!a1) then (decide (a0.Op ≤ 24))
 else false))
 else false) (fun j => (an.cn (decide (r1 ≥ 0))
 (an.cn a1
 (an.cn (a0.Op != 3)
 (an.ap j true)
 (an.cn (!a1)
 (an.ap j (decide (a0.Op ≤ 24)))
 (an.ap j false)))
 (an.cn (!a1)
 (an.ap j (decide (a0.Op ≤ 24)))
 (an.ap j false)))
 (an.ap j false))) (fun b2 =>
 (an.jb (bif (!a1) then (bif (a0.Op == 3) then (some true)
 else (Option.bind (F_R09_object L a0.Op) fun r4 =>
 (some r4)))
 else (some false)) (fun j => (an.cn (!a1)
 (an.cn (a0.Op == 3)
 (an.lf j true)
 (an.bd (F_R09_object L a0.Op) fun r5 =>
 (an.lf j r5)))
 (an.lf j false))) (fun b3 =>
 (an.jb (bif a1 then (Option.bind (F_R09_object L a0.Op) fun r7 =>
 (bif r7 then (some true)
 else (bif (a0.Op == 25) then (some true)
 else (some (a0.Op == 26)))))
 else (some false)) (fun j => (an.cn a1
 (an.bd (F_R09_object L a0.Op) fun r8 =>
 (an.cn r8
 (an.lf j true)
 (an.cn (a0.Op == 25)
 (an.lf j true)
 (an.lf j (a0.Op == 26)))))
 (an.lf j false))) (fun b6 =>
 (an.jp (bif (a0.Op == 1) then true
 else (a0.Op == 2)) (fun j => (an.cn (a0.Op == 1)
 (an.ap j true)
 (an.ap j (a0.Op == 2)))) (fun b9 =>
 (an.jp (bif b9 then true
 else b6) (fun j => (an.cn b9
 (an.ap j true)
 (an.ap j b6))) (fun b10 =>
 (an.jp (bif (!b2) then true
 else (bif (!b3) then (!(a0.Name.toList == (⟨#[]⟩ : ByteArray).toList))
 else false)) (fun j => (an.cn (!b2)
 (an.ap j true)
 (an.cn (!b3)
 (an.ap j (!(a0.Name.toList == (⟨#[]⟩ : ByteArray).toList)))
 (an.ap j false)))) (fun b11 =>
 (an.jp (bif b11 then true
 else (bif (!b10) then (a0.N != 0)
 else false)) (fun j => (an.cn b11
 (an.ap j true)
 (an.cn (!b10)
 (an.ap j (a0.N != 0))
 (an.ap j false)))) (fun b12 =>
 (an.jp (bif b12 then true
 else ((a0.Kids.length : Int) != r1)) (fun j => (an.cn b12
 (an.ap j true)
 (an.ap j ((a0.Kids.length : Int) != r1)))) (fun b13 =>
 (an.cn b13
 (an.lf out 1)
 (an.cn (a0.Op == 1)
 (an.bd (F_R01_In L a0.N) fun r14 =>
 (an.cn (!r14)
 (an.lf out 2)
 (an.cn (a0.Op == 2)
 (an.cn (a0.N != 0)
 (an.cn (a0.N != 1)
 (an.lf out 2)
 (an.cn b6
 (an.cn (decide (a0.N < 0))
 (an.lf out 2)
 (an.bd (F_R09_most L a0.Op) fun r15 =>
 (an.cn (decide (a0.N > r15))
 (an.lf out 2)
 (an.jb (bif b3 then (Option.bind (F_R07_Check L a0.Name) fun r17 =>
 (some (r17 != 0)))
 else (some false)) (fun j => (an.cn b3
 (an.bd (F_R07_Check L a0.Name) fun r18 =>
 (an.lf j (r18 != 0)))
 (an.lf j false))) (fun b16 =>
 (an.cn b16
 (an.bd (F_R07_Check L a0.Name) fun r19 =>
 (an.lf out r19))
 (an.bd (lp_R09_node_1 rec77 L a1 a0 L 0 0) fun o20 =>
 (an.sl o20.1 [(an.lf out o20.2.1),
 (an.lf out 0)]))))))))
 (an.jb (bif b3 then (Option.bind (F_R07_Check L a0.Name) fun r22 =>
 (some (r22 != 0)))
 else (some false)) (fun j => (an.cn b3
 (an.bd (F_R07_Check L a0.Name) fun r23 =>
 (an.lf j (r23 != 0)))
 (an.lf j false))) (fun b21 =>
 (an.cn b21
 (an.bd (F_R07_Check L a0.Name) fun r24 =>
 (an.lf out r24))
 (an.bd (lp_R09_node_1 rec77 L a1 a0 L 0 0) fun o25 =>
 (an.sl o25.1 [(an.lf out o25.2.1),
 (an.lf out 0)])))))))
 (an.cn b6
 (an.cn (decide (a0.N < 0))
 (an.lf out 2)
 (an.bd (F_R09_most L a0.Op) fun r26 =>
 (an.cn (decide (a0.N > r26))
 (an.lf out 2)
 (an.jb (bif b3 then (Option.bind (F_R07_Check L a0.Name) fun r28 =>
 (some (r28 != 0)))
 else (some false)) (fun j => (an.cn b3
 (an.bd (F_R07_Check L a0.Name) fun r29 =>
 (an.lf j (r29 != 0)))
 (an.lf j false))) (fun b27 =>
 (an.cn b27
 (an.bd (F_R07_Check L a0.Name) fun r30 =>
 (an.lf out r30))
 (an.bd (lp_R09_node_1 rec77 L a1 a0 L 0 0) fun o31 =>
 (an.sl o31.1 [(an.lf out o31.2.1),
 (an.lf out 0)]))))))))
 (an.jb (bif b3 then (Option.bind (F_R07_Check L a0.Name) fun r33 =>
 (some (r33 != 0)))
 else (some false)) (fun j => (an.cn b3
 (an.bd (F_R07_Check L a0.Name) fun r34 =>
 (an.lf j (r34 != 0)))
 (an.lf j false))) (fun b32 =>
 (an.cn b32
 (an.bd (F_R07_Check L a0.Name) fun r35 =>
 (an.lf out r35))
 (an.bd (lp_R09_node_1 rec77 L a1 a0 L 0 0) fun o36 =>
 (an.sl o36.1 [(an.lf out o36.2.1),
 (an.lf out 0)])))))))
 (an.cn b6
 (an.cn (decide (a0.N < 0))
 (an.lf out 2)
 (an.bd (F_R09_most L a0.Op) fun r37 =>
 (an.cn (decide (a0.N > r37))
 (an.lf out 2)
 (an.jb (bif b3 then (Option.bind (F_R07_Check L a0.Name) fun r39 =>
 (some (r39 != 0)))
 else (some false)) (fun j => (an.cn b3
 (an.bd (F_R07_Check L a0.Name) fun r40 =>
 (an.lf j (r40 != 0)))
 (an.lf j false))) (fun b38 =>
 (an.cn b38
 (an.bd (F_R07_Check L a0.Name) fun r41 =>
 (an.lf out r41))
 (an.bd (lp_R09_node_1 rec77 L a1 a0 L 0 0) fun o42 =>
 (an.sl o42.1 [(an.lf out o42.2.1),
 (an.lf out 0)]))))))))
 (an.jb (bif b3 then (Option.bind (F_R07_Check L a0.Name) fun r44 =>
 (some (r44 != 0)))
 else (some false)) (fun j => (an.cn b3
 (an.bd (F_R07_Check L a0.Name) fun r45 =>
 (an.lf j (r45 != 0)))
 (an.lf j false))) (fun b43 =>
 (an.cn b43
 (an.bd (F_R07_Check L a0.Name) fun r46 =>
 (an.lf out r46))
 (an.bd (lp_R09_node_1 rec77 L a1 a0 L 0 0) fun o47 =>
 (an.sl o47.1 [(an.lf out o47.2.1),
 (an.lf out 0)])))))))))
 (an.cn (a0.Op == 2)
 (an.cn (a0.N != 0)
 (an.cn (a0.N != 1)
 (an.lf out 2)
 (an.cn b6
 (an.cn (decide (a0.N < 0))
 (an.lf out 2)
 (an.bd (F_R09_most L a0.Op) fun r48 =>
 (an.cn (decide (a0.N > r48))
 (an.lf out 2)
 (an.jb (bif b3 then (Option.bind (F_R07_Check L a0.Name) fun r50 =>
 (some (r50 != 0)))
 else (some false)) (fun j => (an.cn b3
 (an.bd (F_R07_Check L a0.Name) fun r51 =>
 (an.lf j (r51 != 0)))
 (an.lf j false))) (fun b49 =>
 (an.cn b49
 (an.bd (F_R07_Check L a0.Name) fun r52 =>
 (an.lf out r52))
 (an.bd (lp_R09_node_1 rec77 L a1 a0 L 0 0) fun o53 =>
 (an.sl o53.1 [(an.lf out o53.2.1),
 (an.lf out 0)]))))))))
 (an.jb (bif b3 then (Option.bind (F_R07_Check L a0.Name) fun r55 =>
 (some (r55 != 0)))
 else (some false)) (fun j => (an.cn b3
 (an.bd (F_R07_Check L a0.Name) fun r56 =>
 (an.lf j (r56 != 0)))
 (an.lf j false))) (fun b54 =>
 (an.cn b54
 (an.bd (F_R07_Check L a0.Name) fun r57 =>
 (an.lf out r57))
 (an.bd (lp_R09_node_1 rec77 L a1 a0 L 0 0) fun o58 =>
 (an.sl o58.1 [(an.lf out o58.2.1),
 (an.lf out 0)])))))))
 (an.cn b6
 (an.cn (decide (a0.N < 0))
 (an.lf out 2)
 (an.bd (F_R09_most L a0.Op) fun r59 =>
 (an.cn (decide (a0.N > r59))
 (an.lf out 2)
 (an.jb (bif b3 then (Option.bind (F_R07_Check L a0.Name) fun r61 =>
 (some (r61 != 0)))
 else (some false)) (fun j => (an.cn b3
 (an.bd (F_R07_Check L a0.Name) fun r62 =>
 (an.lf j (r62 != 0)))
 (an.lf j false))) (fun b60 =>
 (an.cn b60
 (an.bd (F_R07_Check L a0.Name) fun r63 =>
 (an.lf out r63))
 (an.bd (lp_R09_node_1 rec77 L a1 a0 L 0 0) fun o64 =>
 (an.sl o64.1 [(an.lf out o64.2.1),
 (an.lf out 0)]))))))))
 (an.jb (bif b3 then (Option.bind (F_R07_Check L a0.Name) fun r66 =>
 (some (r66 != 0)))
 else (some false)) (fun j => (an.cn b3
 (an.bd (F_R07_Check L a0.Name) fun r67 =>
 (an.lf j (r67 != 0)))
 (an.lf j false))) (fun b65 =>
 (an.cn b65
 (an.bd (F_R07_Check L a0.Name) fun r68 =>
 (an.lf out r68))
 (an.bd (lp_R09_node_1 rec77 L a1 a0 L 0 0) fun o69 =>
 (an.sl o69.1 [(an.lf out o69.2.1),
 (an.lf out 0)])))))))
 (an.cn b6
 (an.cn (decide (a0.N < 0))
 (an.lf out 2)
 (an.bd (F_R09_most L a0.Op) fun r70 =>
 (an.cn (decide (a0.N > r70))
 (an.lf out 2)
 (an.jb (bif b3 then (Option.bind (F_R07_Check L a0.Name) fun r72 =>
 (some (r72 != 0)))
 else (some false)) (fun j => (an.cn b3
 (an.bd (F_R07_Check L a0.Name) fun r73 =>
 (an.lf j (r73 != 0)))
 (an.lf j false))) (fun b71 =>
 (an.cn b71
 (an.bd (F_R07_Check L a0.Name) fun r74 =>
 (an.lf out r74))
 (an.bd (lp_R09_node_1 rec77 L a1 a0 L 0 0) fun o75 =>
 (an.sl o75.1 [(an.lf out o75.2.1),
 (an.lf out 0)]))))))))
 (an.jb (bif b3 then (Option.bind (F_R07_Check L a0.Name) fun r77 =>
 (some (r77 != 0)))
 else (some false)) (fun j => (an.cn b3
 (an.bd (F_R07_Check L a0.Name) fun r78 =>
 (an.lf j (r78 != 0)))
 (an.lf j false))) (fun b76 =>
 (an.cn b76
 (an.bd (F_R07_Check L a0.Name) fun r79 =>
 (an.lf out r79))
 (an.bd (lp_R09_node_1 rec77 L a1 a0 L 0 0) fun o80 =>
 (an.sl o80.1 [(an.lf out o80.2.1),
 (an.lf out 0)]))))))))))))))))))))))))))
def B_R09_node (rec77 : api_Expr → Bool → Option Int) (L : Nat) (a0 : api_Expr) (a1 : Bool) : Option Int := T_R09_node (anO _) rec77 L a0 a1 some
theorem e77 (rec77 : api_Expr → Bool → Option Int) (L : Nat) (a0 : api_Expr) (a1 : Bool) (kk : PV → Prop) : EW (O77 rec77 L) L 9 (RS Tryz.f77) c77 [.agg (enapi_Expr a0), B a1] kk = ob (B_R09_node rec77 L a0 a1) (fun (x : Int) => kk (I x)) := by
  refine Eq.trans (b := T_R09_node anP rec77 L a0 a1 (fun (x : Int) => kk (I x))) ?_ ?_
  · refine Eq.trans (b := EV (O77 rec77 L) L 9 c77 ({ fr := [(0, .agg (enapi_Expr a0)), (1, B a1)], ob := [], base := 0 } : St) (kEnd Tryz.prog (RS Tryz.f77) kk)) (by kernel_rfl) ?_
    unfold T_R09_node
    dsimp only [anP]
    simp only [kSeq_n, kSeq_e, kSeq_r, le77_1, es77_1, q77_1, es77_2, q77_2, es77_3, q77_3, es77_4, q77_4, es77_5, q77_5, es77_6, q77_6, es77_7, q77_7, es77_8, q77_8, es77_9, q77_9, es77_10, q77_10, es77_11, q77_11, es77_12, q77_12, es77_13, es77_14, q77_13, es77_15, q77_14, q77_15, q77_16, es77_16, q77_17, es77_17, es77_18, q77_18, es77_19, q77_19, q77_20, q77_21, q77_22, q77_23, q77_24, q77_25, q77_26, es77_20, q77_27, es77_21, es77_22, q77_28, es77_23, q77_29, q77_30, q77_31, es77_24, q77_32, es77_25, es77_26, q77_33, es77_27, q77_34, q77_36, q77_35, q77_37, es77_28, q77_38, es77_29, q77_39, q77_40, q77_41, q77_42, q77_43, q77_44, q77_45, q77_46, q77_47, q77_48, q77_49, q77_50, q77_51, q77_52, q77_53, q77_54, q77_55, q77_56, q77_57, q77_58, q77_59, q77_60]
  generalize (fun (x : Int) => kk (I x)) = Q
  unfold B_R09_node T_R09_node
  dsimp only [anP, anO]
  try simp only [y1, y2, y3, y4, y5 Q, y6, y7, y8 Q, y9, z1, z2, z3, z4]
theorem b77 (rec77 : api_Expr → Bool → Option Int) (hr77 : ∀ (y0 : api_Expr) (y1 : Bool) (r : Int), rec77 y0 y1 = some r → Holds Tryz.prog 77 [.agg (enapi_Expr y0), B y1] (I r)) (L : Nat) (a0 : api_Expr) (a1 : Bool) (r : Int) (h : B_R09_node rec77 L a0 a1 = some r) : Holds Tryz.prog 77 [.agg (enapi_Expr a0), B a1] (I r) :=
  hE grwOK (s77 rec77 hr77 L) mixed Tryz.func77 (by kernel_rfl : cFn Tryz.prog inl Tryz.f77 = some c77) (er := fun (x : Int) => I x) (by kernel_rfl) (e77 rec77 L a0 a1) h
def F_R09_node : Nat → api_Expr → Bool → Option Int
  | 0, _, _ => none
  | L + 1, a0, a1 => B_R09_node (F_R09_node L) L a0 a1
theorem hall77 : ∀ L, (∀ (y0 : api_Expr) (y1 : Bool) (r : Int), F_R09_node L y0 y1 = some r → Holds Tryz.prog 77 [.agg (enapi_Expr y0), B y1] (I r)) := by
  intro L
  induction L with
  | zero => exact fun _ _ r h => (by cases h)
  | succ L ih =>
    have i77 := ih
    exact fun y0 y1 r h => b77 (F_R09_node L) i77 L y0 y1 r h
theorem h77 (L : Nat) : ∀ (y0 : api_Expr) (y1 : Bool) (r : Int), F_R09_node L y0 y1 = some r → Holds Tryz.prog 77 [.agg (enapi_Expr y0), B y1] (I r) := hall77 L

/-! ### simulator/simulatorref09.check -/
noncomputable def c42 : EC := (cFn Tryz.prog inl Tryz.f42).getD .stop
def O42  (L : Nat) : Oracle := (orc 75 (A1 (fun (x : Int) => I x) ca_api_Expr (F_R09_Nodes L)) (orc 76 (A1 (fun (x : Int) => I x) ca_api_Expr (F_R09_Depth L)) (orc 77 (A2 (fun (x : Int) => I x) ca_api_Expr cB (F_R09_node L)) noC)))
theorem s42   (L : Nat) : SoundC Tryz.prog (O42 L) := (orc_sound (a1 _ (h75 L)) (orc_sound (a1 _ (h76 L)) (orc_sound (a2 _ (h77 L)) (noC_sound Tryz.prog))))
def T_R09_check {A : Type} (an : An A)  (L : Nat) (a0 : api_Expr) (a1 : Bool) (out : Int → A) : A :=
 (an.bd (F_R09_Nodes L (api_Expr.cp a0)) fun r1 =>
 (an.cn (decide (r1 > 60))
 (an.lf out 6)
 (an.bd (F_R09_Depth L (api_Expr.cp a0)) fun r2 =>
 (an.cn (decide (r2 > 12))
 (an.lf out 11)
 (an.bd (F_R09_node L (api_Expr.cp a0) a1) fun r3 =>
 (an.lf out r3))))))
def F_R09_check  (L : Nat) (a0 : api_Expr) (a1 : Bool) : Option Int := T_R09_check (anO _) L a0 a1 some
theorem e42  (L : Nat) (a0 : api_Expr) (a1 : Bool) (kk : PV → Prop) : EW (O42 L) L 9 (RS Tryz.f42) c42 [.agg (enapi_Expr a0), B a1] kk = ob (F_R09_check L a0 a1) (fun (x : Int) => kk (I x)) := by
  refine Eq.trans (b := T_R09_check anP L a0 a1 (fun (x : Int) => kk (I x))) (by kernel_rfl) ?_
  generalize (fun (x : Int) => kk (I x)) = Q
  unfold F_R09_check T_R09_check
  dsimp only [anP, anO]
  try simp only [y1, y2, y3, y4, y5 Q, y6, y7, y8 Q, y9, z1, z2, z3, z4]
theorem h42   (L : Nat) (a0 : api_Expr) (a1 : Bool) (r : Int) (h : F_R09_check L a0 a1 = some r) : Holds Tryz.prog 42 [.agg (enapi_Expr a0), B a1] (I r) :=
  hE grwOK (s42  L) mixed Tryz.func42 (by kernel_rfl : cFn Tryz.prog inl Tryz.f42 = some c42) (er := fun (x : Int) => I x) (by kernel_rfl) (e42 L a0 a1) h

/-! ### simulator/simulatorref09.Check -/
noncomputable def c23 : EC := (cFn Tryz.prog inl Tryz.f23).getD .stop
def O23  (L : Nat) : Oracle := (orc 42 (A2 (fun (x : Int) => I x) ca_api_Expr cB (F_R09_check L)) noC)
theorem s23   (L : Nat) : SoundC Tryz.prog (O23 L) := (orc_sound (a2 _ (h42 L)) (noC_sound Tryz.prog))
def T_R09_Check {A : Type} (an : An A)  (L : Nat) (a0 : api_Expr) (out : Int → A) : A :=
 (an.bd (F_R09_check L (api_Expr.cp a0) false) fun r1 =>
 (an.lf out r1))
def F_R09_Check  (L : Nat) (a0 : api_Expr) : Option Int := T_R09_Check (anO _) L a0 some
theorem e23  (L : Nat) (a0 : api_Expr) (kk : PV → Prop) : EW (O23 L) L 9 (RS Tryz.f23) c23 [.agg (enapi_Expr a0)] kk = ob (F_R09_Check L a0) (fun (x : Int) => kk (I x)) := by
  refine Eq.trans (b := T_R09_Check anP L a0 (fun (x : Int) => kk (I x))) (by kernel_rfl) ?_
  generalize (fun (x : Int) => kk (I x)) = Q
  unfold F_R09_Check T_R09_Check
  dsimp only [anP, anO]
  try simp only [y1, y2, y3, y4, y5 Q, y6, y7, y8 Q, y9, z1, z2, z3, z4]
theorem h23   (L : Nat) (a0 : api_Expr) (r : Int) (h : F_R09_Check L a0 = some r) : Holds Tryz.prog 23 [.agg (enapi_Expr a0)] (I r) :=
  hE grwOK (s23  L) mixed Tryz.func23 (by kernel_rfl : cFn Tryz.prog inl Tryz.f23 = some c23) (er := fun (x : Int) => I x) (by kernel_rfl) (e23 L a0) h


end Go.Proofs.YtcbandfdmbkokaaGreat.Ev
