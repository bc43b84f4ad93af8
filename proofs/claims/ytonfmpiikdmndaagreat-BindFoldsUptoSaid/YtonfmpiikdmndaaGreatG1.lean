import Derived.Test.YtonfmpiikdmndaaGreatG0
namespace Go.Proofs.YtonfmpiikdmndaaGreat.Ev
open Go
set_option maxRecDepth 100000
set_option linter.unusedVariables false
set_option linter.unusedSimpArgs false
set_option linter.unnecessarySimpa false
/-! ### simulator/simulatorref09.Nodes -/
noncomputable def c6 : EC := (cFn Tryz.prog inl Tryz.f6).getD .stop
def O6 (rec6 : api_Expr → Option Int) (L : Nat) : Oracle := (orc 6 (A1 (fun (x : Int) => I x) ca_api_Expr rec6) noC)
theorem s6 (rec6 : api_Expr → Option Int) (hr6 : ∀ (y0 : api_Expr) (r : Int), rec6 y0 = some r → Holds Tryz.prog 6 [.agg (enapi_Expr y0)] (I r)) (L : Nat) : SoundC Tryz.prog (O6 rec6 L) := (orc_sound (a1 _ hr6) (noC_sound Tryz.prog))
def sh6_1 (a0 : api_Expr) (v1_1 : Int) (v1_2 : Int) : St := ({ fr := [(0, .any), (1, .loc 1 0), (2, I 0), (3, I v1_1), (4, I v1_2)], ob := [(1, (enapi_Expr a0))], base := 0 } : St)
def KK6_1 (a0 : api_Expr) (K : Ex → St → Prop) : Nat × (Int × Int) → Prop := fun o => seln o.1 [K (.exit 0) (sh6_1 a0 o.2.1 o.2.2)]
def lb_R09_Nodes_1 {A : Type} (an : An A) (rec6 : api_Expr → Option Int) (L : Nat) (a0 : api_Expr) (rec : Int → Int → A) (out : Nat × (Int × Int) → A) (v1_1 : Int) (v1_2 : Int) : A :=
 (an.cn (decide (v1_2 < (a0.Kids.length : Int)))
 (an.gd ((0 : Int) ≤ v1_2)
 (an.gd (v1_2 < ((a0.Kids.length : Nat) : Int))
 (an.bd (rec6 (api_Expr.cp (a0.Kids.getD (Int.toNat v1_2) default))) fun r1 =>
 (rec (w64 (v1_1 + r1)) (w64 (v1_2 + 1))))))
 (an.lf out (0, (v1_1, v1_2))))
def lp_R09_Nodes_1 (rec6 : api_Expr → Option Int) (L : Nat) (a0 : api_Expr) : Nat → Int → Int → Option (Nat × (Int × Int))
  | 0, _, _ => none
  | n + 1, v1_1, v1_2 => lb_R09_Nodes_1 (anO _) rec6 L a0 (lp_R09_Nodes_1 rec6 L a0 n) some v1_1 v1_2
theorem ln6_1 (rec6 : api_Expr → Option Int) (L : Nat) (a0 : api_Expr) (g : Int → Int → Option (Nat × (Int × Int))) (Q : Nat × (Int × Int) → Prop) (v1_1 : Int) (v1_2 : Int) : lb_R09_Nodes_1 anP rec6 L a0 (fun v1_1 v1_2 => ob (g v1_1 v1_2) Q) Q v1_1 v1_2 = ob (lb_R09_Nodes_1 (anO _) rec6 L a0 g some v1_1 v1_2) Q := by
  unfold lb_R09_Nodes_1
  dsimp only [anP, anO]
  try simp only [y1, y2, y3, y4, y5 Q, y6, y7, y8 Q, y9, z1, z2, z3, z4]
theorem le6_1 (rec6 : api_Expr → Option Int) (L : Nat) (a0 : api_Expr) (n : Nat) (v1_1 : Int) (v1_2 : Int) (K : Ex → St → Prop) : loopN (EV (O6 rec6 L) L 9 c6.r.r.r.r.l.r.r.l.l) [0, 1, 2, 3, 4] [1] n (sh6_1 a0 v1_1 v1_2) K = ob (lp_R09_Nodes_1 rec6 L a0 n v1_1 v1_2) (fun o => KK6_1 a0 K o) := by
  induction n generalizing v1_1 v1_2 with
  | zero => rfl
  | succ n ih =>
    refine Eq.trans (b := lb_R09_Nodes_1 anP rec6 L a0 (fun v1_1 v1_2 => loopN (EV (O6 rec6 L) L 9 c6.r.r.r.r.l.r.r.l.l) [0, 1, 2, 3, 4] [1] n (sh6_1 a0 v1_1 v1_2) K) (KK6_1 a0 K) v1_1 v1_2) (by kernel_rfl) ?_
    simp only [ih]
    exact ln6_1 rec6 L a0 (lp_R09_Nodes_1 rec6 L a0 n) (KK6_1 a0 K) v1_1 v1_2
def kc6_1 (rec6 : api_Expr → Option Int) (L : Nat)  (kk : PV → Prop) : Ex → St → Prop := (kBlock 0 (kSeq (EV (O6 rec6 L) L 9 c6.r.r.r.r.r) (kEnd Tryz.prog (RS Tryz.f6) kk)))
theorem q6_1 (rec6 : api_Expr → Option Int) (L : Nat) (a0 : api_Expr) (kk : PV → Prop) (o1 : Nat × (Int × Int)) : KK6_1 a0 (kc6_1 rec6 L kk) o1 =
 (seln o1.1 [(ob (some o1.2.1) (fun (x : Int) => kk (I x)))]) := by kernel_rfl
def T_R09_Nodes {A : Type} (an : An A) (rec6 : api_Expr → Option Int) (L : Nat) (a0 : api_Expr) (out : Int → A) : A :=
 (an.bd (lp_R09_Nodes_1 rec6 L a0 L 1 0) fun o1 =>
 (an.sl o1.1 [(an.lf out o1.2.1)]))
def B_R09_Nodes (rec6 : api_Expr → Option Int) (L : Nat) (a0 : api_Expr) : Option Int := T_R09_Nodes (anO _) rec6 L a0 some
theorem e6 (rec6 : api_Expr → Option Int) (L : Nat) (a0 : api_Expr) (kk : PV → Prop) : EW (O6 rec6 L) L 9 (RS Tryz.f6) c6 [.agg (enapi_Expr a0)] kk = ob (B_R09_Nodes rec6 L a0) (fun (x : Int) => kk (I x)) := by
  refine Eq.trans (b := T_R09_Nodes anP rec6 L a0 (fun (x : Int) => kk (I x))) ?_ ?_
  · refine Eq.trans (b := (loopN (EV (O6 rec6 L) L 9 c6.r.r.r.r.l.r.r.l.l) [0, 1, 2, 3, 4] [1] L (sh6_1 a0 1 0) (kc6_1 rec6 L kk))) (by kernel_rfl) ?_
    unfold T_R09_Nodes
    dsimp only [anP]
    simp only [le6_1, q6_1]
  generalize (fun (x : Int) => kk (I x)) = Q
  unfold B_R09_Nodes T_R09_Nodes
  dsimp only [anP, anO]
  try simp only [y1, y2, y3, y4, y5 Q, y6, y7, y8 Q, y9, z1, z2, z3, z4]
theorem b6 (rec6 : api_Expr → Option Int) (hr6 : ∀ (y0 : api_Expr) (r : Int), rec6 y0 = some r → Holds Tryz.prog 6 [.agg (enapi_Expr y0)] (I r)) (L : Nat) (a0 : api_Expr) (r : Int) (h : B_R09_Nodes rec6 L a0 = some r) : Holds Tryz.prog 6 [.agg (enapi_Expr a0)] (I r) :=
  hE grwOK (s6 rec6 hr6 L) mixed Tryz.func6 (by kernel_rfl : cFn Tryz.prog inl Tryz.f6 = some c6) (er := fun (x : Int) => I x) (by kernel_rfl) (e6 rec6 L a0) h
def F_R09_Nodes : Nat → api_Expr → Option Int
  | 0, _ => none
  | L + 1, a0 => B_R09_Nodes (F_R09_Nodes L) L a0
theorem hall6 : ∀ L, (∀ (y0 : api_Expr) (r : Int), F_R09_Nodes L y0 = some r → Holds Tryz.prog 6 [.agg (enapi_Expr y0)] (I r)) := by
  intro L
  induction L with
  | zero => exact fun _ r h => (by cases h)
  | succ L ih =>
    have i6 := ih
    exact fun y0 r h => b6 (F_R09_Nodes L) i6 L y0 r h
theorem h6 (L : Nat) : ∀ (y0 : api_Expr) (r : Int), F_R09_Nodes L y0 = some r → Holds Tryz.prog 6 [.agg (enapi_Expr y0)] (I r) := hall6 L
/-! ### simulator/expr.Nodes -/
noncomputable def c61 : EC := (cFn Tryz.prog inl Tryz.f61).getD .stop
def O61 (rec61 : api_Expr → Option Int) (L : Nat) : Oracle := (orc 61 (A1 (fun (x : Int) => I x) ca_api_Expr rec61) noC)
theorem s61 (rec61 : api_Expr → Option Int) (hr61 : ∀ (y0 : api_Expr) (r : Int), rec61 y0 = some r → Holds Tryz.prog 61 [.agg (enapi_Expr y0)] (I r)) (L : Nat) : SoundC Tryz.prog (O61 rec61 L) := (orc_sound (a1 _ hr61) (noC_sound Tryz.prog))
def sh61_1 (a0 : api_Expr) (v1_1 : Int) (v1_4 : Int) : St := ({ fr := [(0, .any), (1, .any), (2, I 0), (3, I v1_1), (7, .lst false (.t25 a0.Kids)), (8, I (a0.Kids.length : Int)), (9, I v1_4)], ob := [(1, (enapi_Expr a0))], base := 0 } : St)
def KK61_1 (a0 : api_Expr) (K : Ex → St → Prop) : Nat × (Int × Int) → Prop := fun o => seln o.1 [K (.exit 0) (sh61_1 a0 o.2.1 o.2.2)]
def lb_expr_Nodes_1 {A : Type} (an : An A) (rec61 : api_Expr → Option Int) (L : Nat) (a0 : api_Expr) (rec : Int → Int → A) (out : Nat × (Int × Int) → A) (v1_1 : Int) (v1_4 : Int) : A :=
 (an.cn (decide (v1_4 < (a0.Kids.length : Int)))
 (an.gd ((0 : Int) ≤ v1_4)
 (an.gd (v1_4 < ((a0.Kids.length : Nat) : Int))
 (an.bd (rec61 (api_Expr.cp (a0.Kids.getD (Int.toNat v1_4) default))) fun r1 =>
 (rec (w64 (v1_1 + r1)) (w64 (v1_4 + 1))))))
 (an.lf out (0, (v1_1, v1_4))))
def lp_expr_Nodes_1 (rec61 : api_Expr → Option Int) (L : Nat) (a0 : api_Expr) : Nat → Int → Int → Option (Nat × (Int × Int))
  | 0, _, _ => none
  | n + 1, v1_1, v1_4 => lb_expr_Nodes_1 (anO _) rec61 L a0 (lp_expr_Nodes_1 rec61 L a0 n) some v1_1 v1_4
theorem ln61_1 (rec61 : api_Expr → Option Int) (L : Nat) (a0 : api_Expr) (g : Int → Int → Option (Nat × (Int × Int))) (Q : Nat × (Int × Int) → Prop) (v1_1 : Int) (v1_4 : Int) : lb_expr_Nodes_1 anP rec61 L a0 (fun v1_1 v1_4 => ob (g v1_1 v1_4) Q) Q v1_1 v1_4 = ob (lb_expr_Nodes_1 (anO _) rec61 L a0 g some v1_1 v1_4) Q := by
  unfold lb_expr_Nodes_1
  dsimp only [anP, anO]
  try simp only [y1, y2, y3, y4, y5 Q, y6, y7, y8 Q, y9, z1, z2, z3, z4]
theorem le61_1 (rec61 : api_Expr → Option Int) (L : Nat) (a0 : api_Expr) (n : Nat) (v1_1 : Int) (v1_4 : Int) (K : Ex → St → Prop) : loopN (EV (O61 rec61 L) L 9 c61.r.r.r.r.l.r.r.l.l) [0, 1, 2, 3, 7, 8, 9] [1] n (sh61_1 a0 v1_1 v1_4) K = ob (lp_expr_Nodes_1 rec61 L a0 n v1_1 v1_4) (fun o => KK61_1 a0 K o) := by
  induction n generalizing v1_1 v1_4 with
  | zero => rfl
  | succ n ih =>
    refine Eq.trans (b := lb_expr_Nodes_1 anP rec61 L a0 (fun v1_1 v1_4 => loopN (EV (O61 rec61 L) L 9 c61.r.r.r.r.l.r.r.l.l) [0, 1, 2, 3, 7, 8, 9] [1] n (sh61_1 a0 v1_1 v1_4) K) (KK61_1 a0 K) v1_1 v1_4) (by kernel_rfl) ?_
    simp only [ih]
    exact ln61_1 rec61 L a0 (lp_expr_Nodes_1 rec61 L a0 n) (KK61_1 a0 K) v1_1 v1_4
def kc61_1 (rec61 : api_Expr → Option Int) (L : Nat)  (kk : PV → Prop) : Ex → St → Prop := (kBlock 0 (kSeq (EV (O61 rec61 L) L 9 c61.r.r.r.r.r) (kEnd Tryz.prog (RS Tryz.f61) kk)))
theorem q61_1 (rec61 : api_Expr → Option Int) (L : Nat) (a0 : api_Expr) (kk : PV → Prop) (o1 : Nat × (Int × Int)) : KK61_1 a0 (kc61_1 rec61 L kk) o1 =
 (seln o1.1 [(ob (some o1.2.1) (fun (x : Int) => kk (I x)))]) := by kernel_rfl
def T_expr_Nodes {A : Type} (an : An A) (rec61 : api_Expr → Option Int) (L : Nat) (a0 : api_Expr) (out : Int → A) : A :=
 (an.bd (lp_expr_Nodes_1 rec61 L a0 L 1 0) fun o1 =>
 (an.sl o1.1 [(an.lf out o1.2.1)]))
def B_expr_Nodes (rec61 : api_Expr → Option Int) (L : Nat) (a0 : api_Expr) : Option Int := T_expr_Nodes (anO _) rec61 L a0 some
theorem e61 (rec61 : api_Expr → Option Int) (L : Nat) (a0 : api_Expr) (kk : PV → Prop) : EW (O61 rec61 L) L 9 (RS Tryz.f61) c61 [.agg (enapi_Expr a0)] kk = ob (B_expr_Nodes rec61 L a0) (fun (x : Int) => kk (I x)) := by
  refine Eq.trans (b := T_expr_Nodes anP rec61 L a0 (fun (x : Int) => kk (I x))) ?_ ?_
  · refine Eq.trans (b := (loopN (EV (O61 rec61 L) L 9 c61.r.r.r.r.l.r.r.l.l) [0, 1, 2, 3, 7, 8, 9] [1] L (sh61_1 a0 1 0) (kc61_1 rec61 L kk))) (by kernel_rfl) ?_
    unfold T_expr_Nodes
    dsimp only [anP]
    simp only [le61_1, q61_1]
  generalize (fun (x : Int) => kk (I x)) = Q
  unfold B_expr_Nodes T_expr_Nodes
  dsimp only [anP, anO]
  try simp only [y1, y2, y3, y4, y5 Q, y6, y7, y8 Q, y9, z1, z2, z3, z4]
theorem b61 (rec61 : api_Expr → Option Int) (hr61 : ∀ (y0 : api_Expr) (r : Int), rec61 y0 = some r → Holds Tryz.prog 61 [.agg (enapi_Expr y0)] (I r)) (L : Nat) (a0 : api_Expr) (r : Int) (h : B_expr_Nodes rec61 L a0 = some r) : Holds Tryz.prog 61 [.agg (enapi_Expr a0)] (I r) :=
  hE grwOK (s61 rec61 hr61 L) mixed Tryz.func61 (by kernel_rfl : cFn Tryz.prog inl Tryz.f61 = some c61) (er := fun (x : Int) => I x) (by kernel_rfl) (e61 rec61 L a0) h
def F_expr_Nodes : Nat → api_Expr → Option Int
  | 0, _ => none
  | L + 1, a0 => B_expr_Nodes (F_expr_Nodes L) L a0
theorem hall61 : ∀ L, (∀ (y0 : api_Expr) (r : Int), F_expr_Nodes L y0 = some r → Holds Tryz.prog 61 [.agg (enapi_Expr y0)] (I r)) := by
  intro L
  induction L with
  | zero => exact fun _ r h => (by cases h)
  | succ L ih =>
    have i61 := ih
    exact fun y0 r h => b61 (F_expr_Nodes L) i61 L y0 r h
theorem h61 (L : Nat) : ∀ (y0 : api_Expr) (r : Int), F_expr_Nodes L y0 = some r → Holds Tryz.prog 61 [.agg (enapi_Expr y0)] (I r) := hall61 L
/-! ### simulator/expr.Depth -/
noncomputable def c62 : EC := (cFn Tryz.prog inl Tryz.f62).getD .stop
def O62 (rec62 : api_Expr → Option Int) (L : Nat) : Oracle := (orc 62 (A1 (fun (x : Int) => I x) ca_api_Expr rec62) noC)
theorem s62 (rec62 : api_Expr → Option Int) (hr62 : ∀ (y0 : api_Expr) (r : Int), rec62 y0 = some r → Holds Tryz.prog 62 [.agg (enapi_Expr y0)] (I r)) (L : Nat) : SoundC Tryz.prog (O62 rec62 L) := (orc_sound (a1 _ hr62) (noC_sound Tryz.prog))
def sh62_1 (a0 : api_Expr) (v1_1 : Int) (v1_4 : Int) : St := ({ fr := [(0, .any), (1, .any), (2, I 0), (3, I v1_1), (7, .lst false (.t25 a0.Kids)), (8, I (a0.Kids.length : Int)), (9, I v1_4)], ob := [(1, (enapi_Expr a0))], base := 0 } : St)
def KK62_1 (a0 : api_Expr) (K : Ex → St → Prop) : Nat × (Int × Int) → Prop := fun o => seln o.1 [K (.exit 0) (sh62_1 a0 o.2.1 o.2.2)]
def lb_expr_Depth_1 {A : Type} (an : An A) (rec62 : api_Expr → Option Int) (L : Nat) (a0 : api_Expr) (rec : Int → Int → A) (out : Nat × (Int × Int) → A) (v1_1 : Int) (v1_4 : Int) : A :=
 (an.cn (decide (v1_4 < (a0.Kids.length : Int)))
 (an.gd ((0 : Int) ≤ v1_4)
 (an.gd (v1_4 < ((a0.Kids.length : Nat) : Int))
 (an.bd (rec62 (api_Expr.cp (a0.Kids.getD (Int.toNat v1_4) default))) fun r1 =>
 (rec (if r1 > v1_1 then r1 else v1_1) (w64 (v1_4 + 1))))))
 (an.lf out (0, (v1_1, v1_4))))
def lp_expr_Depth_1 (rec62 : api_Expr → Option Int) (L : Nat) (a0 : api_Expr) : Nat → Int → Int → Option (Nat × (Int × Int))
  | 0, _, _ => none
  | n + 1, v1_1, v1_4 => lb_expr_Depth_1 (anO _) rec62 L a0 (lp_expr_Depth_1 rec62 L a0 n) some v1_1 v1_4
theorem ln62_1 (rec62 : api_Expr → Option Int) (L : Nat) (a0 : api_Expr) (g : Int → Int → Option (Nat × (Int × Int))) (Q : Nat × (Int × Int) → Prop) (v1_1 : Int) (v1_4 : Int) : lb_expr_Depth_1 anP rec62 L a0 (fun v1_1 v1_4 => ob (g v1_1 v1_4) Q) Q v1_1 v1_4 = ob (lb_expr_Depth_1 (anO _) rec62 L a0 g some v1_1 v1_4) Q := by
  unfold lb_expr_Depth_1
  dsimp only [anP, anO]
  try simp only [y1, y2, y3, y4, y5 Q, y6, y7, y8 Q, y9, z1, z2, z3, z4]
theorem le62_1 (rec62 : api_Expr → Option Int) (L : Nat) (a0 : api_Expr) (n : Nat) (v1_1 : Int) (v1_4 : Int) (K : Ex → St → Prop) : loopN (EV (O62 rec62 L) L 9 c62.r.r.r.r.l.r.r.l.l) [0, 1, 2, 3, 7, 8, 9] [1] n (sh62_1 a0 v1_1 v1_4) K = ob (lp_expr_Depth_1 rec62 L a0 n v1_1 v1_4) (fun o => KK62_1 a0 K o) := by
  induction n generalizing v1_1 v1_4 with
  | zero => rfl
  | succ n ih =>
    refine Eq.trans (b := lb_expr_Depth_1 anP rec62 L a0 (fun v1_1 v1_4 => loopN (EV (O62 rec62 L) L 9 c62.r.r.r.r.l.r.r.l.l) [0, 1, 2, 3, 7, 8, 9] [1] n (sh62_1 a0 v1_1 v1_4) K) (KK62_1 a0 K) v1_1 v1_4) (by kernel_rfl) ?_
    simp only [ih]
    exact ln62_1 rec62 L a0 (lp_expr_Depth_1 rec62 L a0 n) (KK62_1 a0 K) v1_1 v1_4
def kc62_1 (rec62 : api_Expr → Option Int) (L : Nat)  (kk : PV → Prop) : Ex → St → Prop := (kBlock 0 (kSeq (EV (O62 rec62 L) L 9 c62.r.r.r.r.r) (kEnd Tryz.prog (RS Tryz.f62) kk)))
theorem q62_1 (rec62 : api_Expr → Option Int) (L : Nat) (a0 : api_Expr) (kk : PV → Prop) (o1 : Nat × (Int × Int)) : KK62_1 a0 (kc62_1 rec62 L kk) o1 =
 (seln o1.1 [(ob (some (w64 (o1.2.1 + 1))) (fun (x : Int) => kk (I x)))]) := by kernel_rfl
def T_expr_Depth {A : Type} (an : An A) (rec62 : api_Expr → Option Int) (L : Nat) (a0 : api_Expr) (out : Int → A) : A :=
 (an.bd (lp_expr_Depth_1 rec62 L a0 L 0 0) fun o1 =>
 (an.sl o1.1 [(an.lf out (w64 (o1.2.1 + 1)))]))
def B_expr_Depth (rec62 : api_Expr → Option Int) (L : Nat) (a0 : api_Expr) : Option Int := T_expr_Depth (anO _) rec62 L a0 some
theorem e62 (rec62 : api_Expr → Option Int) (L : Nat) (a0 : api_Expr) (kk : PV → Prop) : EW (O62 rec62 L) L 9 (RS Tryz.f62) c62 [.agg (enapi_Expr a0)] kk = ob (B_expr_Depth rec62 L a0) (fun (x : Int) => kk (I x)) := by
  refine Eq.trans (b := T_expr_Depth anP rec62 L a0 (fun (x : Int) => kk (I x))) ?_ ?_
  · refine Eq.trans (b := (loopN (EV (O62 rec62 L) L 9 c62.r.r.r.r.l.r.r.l.l) [0, 1, 2, 3, 7, 8, 9] [1] L (sh62_1 a0 0 0) (kc62_1 rec62 L kk))) (by kernel_rfl) ?_
    unfold T_expr_Depth
    dsimp only [anP]
    simp only [le62_1, q62_1]
  generalize (fun (x : Int) => kk (I x)) = Q
  unfold B_expr_Depth T_expr_Depth
  dsimp only [anP, anO]
  try simp only [y1, y2, y3, y4, y5 Q, y6, y7, y8 Q, y9, z1, z2, z3, z4]
theorem b62 (rec62 : api_Expr → Option Int) (hr62 : ∀ (y0 : api_Expr) (r : Int), rec62 y0 = some r → Holds Tryz.prog 62 [.agg (enapi_Expr y0)] (I r)) (L : Nat) (a0 : api_Expr) (r : Int) (h : B_expr_Depth rec62 L a0 = some r) : Holds Tryz.prog 62 [.agg (enapi_Expr a0)] (I r) :=
  hE grwOK (s62 rec62 hr62 L) mixed Tryz.func62 (by kernel_rfl : cFn Tryz.prog inl Tryz.f62 = some c62) (er := fun (x : Int) => I x) (by kernel_rfl) (e62 rec62 L a0) h
def F_expr_Depth : Nat → api_Expr → Option Int
  | 0, _ => none
  | L + 1, a0 => B_expr_Depth (F_expr_Depth L) L a0
theorem hall62 : ∀ L, (∀ (y0 : api_Expr) (r : Int), F_expr_Depth L y0 = some r → Holds Tryz.prog 62 [.agg (enapi_Expr y0)] (I r)) := by
  intro L
  induction L with
  | zero => exact fun _ r h => (by cases h)
  | succ L ih =>
    have i62 := ih
    exact fun y0 r h => b62 (F_expr_Depth L) i62 L y0 r h
theorem h62 (L : Nat) : ∀ (y0 : api_Expr) (r : Int), F_expr_Depth L y0 = some r → Holds Tryz.prog 62 [.agg (enapi_Expr y0)] (I r) := hall62 L
/-! ### simulator/expr.kids -/
noncomputable def c168 : EC := (cFn Tryz.prog inl Tryz.f168).getD .stop
def O168  (L : Nat) : Oracle := noC
theorem s168   (L : Nat) : SoundC Tryz.prog (O168 L) := (noC_sound Tryz.prog)
def T_expr_kids {A : Type} (an : An A)  (L : Nat) (a0 : Int) (out : Int → A) : A :=
 (an.jp (bif (a0 == 1) then true
 else (a0 == 2)) (fun j => (an.cn (a0 == 1)
 (an.ap j true)
 (an.ap j (a0 == 2)))) (fun b1 =>
 (an.jp (bif b1 then true
 else (a0 == 3)) (fun j => (an.cn b1
 (an.ap j true)
 (an.ap j (a0 == 3)))) (fun b2 =>
 (an.jp (bif b2 then true
 else (a0 == 4)) (fun j => (an.cn b2
 (an.ap j true)
 (an.ap j (a0 == 4)))) (fun b3 =>
 (an.cn b3
 (an.lf out 0)
 (an.jp (bif (decide (a0 ≥ 5)) then (decide (a0 ≤ 8))
 else false) (fun j => (an.cn (decide (a0 ≥ 5))
 (an.ap j (decide (a0 ≤ 8)))
 (an.ap j false))) (fun b4 =>
 (an.cn b4
 (an.lf out 1)
 (an.jp (bif (decide (a0 ≥ 9)) then (decide (a0 ≤ 21))
 else false) (fun j => (an.cn (decide (a0 ≥ 9))
 (an.ap j (decide (a0 ≤ 21)))
 (an.ap j false))) (fun b5 =>
 (an.cn b5
 (an.lf out 2)
 (an.jp (bif (decide (a0 ≥ 22)) then (decide (a0 ≤ 26))
 else false) (fun j => (an.cn (decide (a0 ≥ 22))
 (an.ap j (decide (a0 ≤ 26)))
 (an.ap j false))) (fun b6 =>
 (an.cn b6
 (an.lf out 0)
 (an.lf out (-1))))))))))))))))))
def F_expr_kids  (L : Nat) (a0 : Int) : Option Int := T_expr_kids (anO _) L a0 some
theorem e168  (L : Nat) (a0 : Int) (kk : PV → Prop) : EW (O168 L) L 9 (RS Tryz.f168) c168 [I a0] kk = ob (F_expr_kids L a0) (fun (x : Int) => kk (I x)) := by
  refine Eq.trans (b := T_expr_kids anP L a0 (fun (x : Int) => kk (I x))) (by kernel_rfl) ?_
  generalize (fun (x : Int) => kk (I x)) = Q
  unfold F_expr_kids T_expr_kids
  dsimp only [anP, anO]
  try simp only [y1, y2, y3, y4, y5 Q, y6, y7, y8 Q, y9, z1, z2, z3, z4]
theorem h168   (L : Nat) (a0 : Int) (r : Int) (h : F_expr_kids L a0 = some r) : Holds Tryz.prog 168 [I a0] (I r) :=
  hE grwOK (s168  L) mixed Tryz.func168 (by kernel_rfl : cFn Tryz.prog inl Tryz.f168 = some c168) (er := fun (x : Int) => I x) (by kernel_rfl) (e168 L a0) h
/-! ### (simulator/expr.kind).known -/
noncomputable def c167 : EC := (cFn Tryz.prog inl Tryz.f167).getD .stop
def O167  (L : Nat) : Oracle := (orc 168 (A1 (fun (x : Int) => I x) (cI .i64) (F_expr_kids L)) noC)
theorem s167   (L : Nat) : SoundC Tryz.prog (O167 L) := (orc_sound (a1 _ (h168 L)) (noC_sound Tryz.prog))
def T_expr_kind_known {A : Type} (an : An A)  (L : Nat) (a0 : expr_kind) (a1 : Int) (out : Bool → A) : A :=
 (an.cn (a1 == 3)
 (an.lf out (!a0.u_code))
 (an.cn (a1 == 25)
 (an.cn (a1 == 25)
 (an.lf out a0.u_code)
 (an.bd (F_expr_kids L a1) fun r1 =>
 (an.lf out (decide (r1 ≥ 0)))))
 (an.cn (a1 == 26)
 (an.lf out a0.u_code)
 (an.bd (F_expr_kids L a1) fun r2 =>
 (an.lf out (decide (r2 ≥ 0)))))))
def F_expr_kind_known  (L : Nat) (a0 : expr_kind) (a1 : Int) : Option Bool := T_expr_kind_known (anO _) L a0 a1 some
theorem e167  (L : Nat) (a0 : expr_kind) (a1 : Int) (kk : PV → Prop) : EW (O167 L) L 9 (RS Tryz.f167) c167 [.agg [B a0.u_code], I a1] kk = ob (F_expr_kind_known L a0 a1) (fun (x : Bool) => kk (B x)) := by
  refine Eq.trans (b := T_expr_kind_known anP L a0 a1 (fun (x : Bool) => kk (B x))) (by kernel_rfl) ?_
  generalize (fun (x : Bool) => kk (B x)) = Q
  unfold F_expr_kind_known T_expr_kind_known
  dsimp only [anP, anO]
  try simp only [y1, y2, y3, y4, y5 Q, y6, y7, y8 Q, y9, z1, z2, z3, z4]
theorem h167   (L : Nat) (a0 : expr_kind) (a1 : Int) (r : Bool) (h : F_expr_kind_known L a0 a1 = some r) : Holds Tryz.prog 167 [.agg [B a0.u_code], I a1] (B r) :=
  hE grwOK (s167  L) mixed Tryz.func167 (by kernel_rfl : cFn Tryz.prog inl Tryz.f167 = some c167) (er := fun (x : Bool) => B x) (by kernel_rfl) (e167 L a0 a1) h
/-! ### simulator/expr.object -/
noncomputable def c199 : EC := (cFn Tryz.prog inl Tryz.f199).getD .stop
def O199  (L : Nat) : Oracle := noC
theorem s199   (L : Nat) : SoundC Tryz.prog (O199 L) := (noC_sound Tryz.prog)
def T_expr_object {A : Type} (an : An A)  (L : Nat) (a0 : Int) (out : Bool → A) : A :=
 (an.jp (bif (decide (a0 ≥ 22)) then (decide (a0 ≤ 24))
 else false) (fun j => (an.cn (decide (a0 ≥ 22))
 (an.ap j (decide (a0 ≤ 24)))
 (an.ap j false))) (fun b1 =>
 (an.lf out b1)))
def F_expr_object  (L : Nat) (a0 : Int) : Option Bool := T_expr_object (anO _) L a0 some
theorem e199  (L : Nat) (a0 : Int) (kk : PV → Prop) : EW (O199 L) L 9 (RS Tryz.f199) c199 [I a0] kk = ob (F_expr_object L a0) (fun (x : Bool) => kk (B x)) := by
  refine Eq.trans (b := T_expr_object anP L a0 (fun (x : Bool) => kk (B x))) (by kernel_rfl) ?_
  generalize (fun (x : Bool) => kk (B x)) = Q
  unfold F_expr_object T_expr_object
  dsimp only [anP, anO]
  try simp only [y1, y2, y3, y4, y5 Q, y6, y7, y8 Q, y9, z1, z2, z3, z4]
theorem h199   (L : Nat) (a0 : Int) (r : Bool) (h : F_expr_object L a0 = some r) : Holds Tryz.prog 199 [I a0] (B r) :=
  hE grwOK (s199  L) mixed Tryz.func199 (by kernel_rfl : cFn Tryz.prog inl Tryz.f199 = some c199) (er := fun (x : Bool) => B x) (by kernel_rfl) (e199 L a0) h
/-! ### (simulator/expr.kind).named -/
noncomputable def c169 : EC := (cFn Tryz.prog inl Tryz.f169).getD .stop
def O169  (L : Nat) : Oracle := (orc 199 (A1 (fun (x : Bool) => B x) (cI .i64) (F_expr_object L)) noC)
theorem s169   (L : Nat) : SoundC Tryz.prog (O169 L) := (orc_sound (a1 _ (h199 L)) (noC_sound Tryz.prog))
def T_expr_kind_named {A : Type} (an : An A)  (L : Nat) (a0 : expr_kind) (a1 : Int) (out : Bool → A) : A :=
 (an.jb (bif (a1 == 3) then (some true)
 else (Option.bind (F_expr_object L a1) fun r2 =>
 (bif r2 then (some (!a0.u_code))
 else (some false)))) (fun j => (an.cn (a1 == 3)
 (an.lf j true)
 (an.bd (F_expr_object L a1) fun r3 =>
 (an.cn r3
 (an.lf j (!a0.u_code))
 (an.lf j false))))) (fun b1 =>
 (an.lf out b1)))
def F_expr_kind_named  (L : Nat) (a0 : expr_kind) (a1 : Int) : Option Bool := T_expr_kind_named (anO _) L a0 a1 some
theorem e169  (L : Nat) (a0 : expr_kind) (a1 : Int) (kk : PV → Prop) : EW (O169 L) L 9 (RS Tryz.f169) c169 [.agg [B a0.u_code], I a1] kk = ob (F_expr_kind_named L a0 a1) (fun (x : Bool) => kk (B x)) := by
  refine Eq.trans (b := T_expr_kind_named anP L a0 a1 (fun (x : Bool) => kk (B x))) (by kernel_rfl) ?_
  generalize (fun (x : Bool) => kk (B x)) = Q
  unfold F_expr_kind_named T_expr_kind_named
  dsimp only [anP, anO]
  try simp only [y1, y2, y3, y4, y5 Q, y6, y7, y8 Q, y9, z1, z2, z3, z4]
theorem h169   (L : Nat) (a0 : expr_kind) (a1 : Int) (r : Bool) (h : F_expr_kind_named L a0 a1 = some r) : Holds Tryz.prog 169 [.agg [B a0.u_code], I a1] (B r) :=
  hE grwOK (s169  L) mixed Tryz.func169 (by kernel_rfl : cFn Tryz.prog inl Tryz.f169 = some c169) (er := fun (x : Bool) => B x) (by kernel_rfl) (e169 L a0 a1) h
/-! ### simulator/num.In -/
noncomputable def c60 : EC := (cFn Tryz.prog inl Tryz.f60).getD .stop
def O60  (L : Nat) : Oracle := noC
theorem s60   (L : Nat) : SoundC Tryz.prog (O60 L) := (noC_sound Tryz.prog)
def T_num_In {A : Type} (an : An A)  (L : Nat) (a0 : Int) (out : Bool → A) : A :=
 (an.jp (bif (decide (a0 ≥ (-1000000000000))) then (decide (a0 ≤ 1000000000000))
 else false) (fun j => (an.cn (decide (a0 ≥ (-1000000000000)))
 (an.ap j (decide (a0 ≤ 1000000000000)))
 (an.ap j false))) (fun b1 =>
 (an.lf out b1)))
def F_num_In  (L : Nat) (a0 : Int) : Option Bool := T_num_In (anO _) L a0 some
theorem e60  (L : Nat) (a0 : Int) (kk : PV → Prop) : EW (O60 L) L 9 (RS Tryz.f60) c60 [I a0] kk = ob (F_num_In L a0) (fun (x : Bool) => kk (B x)) := by
  refine Eq.trans (b := T_num_In anP L a0 (fun (x : Bool) => kk (B x))) (by kernel_rfl) ?_
  generalize (fun (x : Bool) => kk (B x)) = Q
  unfold F_num_In T_num_In
  dsimp only [anP, anO]
  try simp only [y1, y2, y3, y4, y5 Q, y6, y7, y8 Q, y9, z1, z2, z3, z4]
theorem h60   (L : Nat) (a0 : Int) (r : Bool) (h : F_num_In L a0 = some r) : Holds Tryz.prog 60 [I a0] (B r) :=
  hE grwOK (s60  L) mixed Tryz.func60 (by kernel_rfl : cFn Tryz.prog inl Tryz.f60 = some c60) (er := fun (x : Bool) => B x) (by kernel_rfl) (e60 L a0) h
/-! ### (simulator/expr.kind).numbers -/
noncomputable def c170 : EC := (cFn Tryz.prog inl Tryz.f170).getD .stop
def O170  (L : Nat) : Oracle := (orc 199 (A1 (fun (x : Bool) => B x) (cI .i64) (F_expr_object L)) noC)
theorem s170   (L : Nat) : SoundC Tryz.prog (O170 L) := (orc_sound (a1 _ (h199 L)) (noC_sound Tryz.prog))
def T_expr_kind_numbers {A : Type} (an : An A)  (L : Nat) (a0 : expr_kind) (a1 : Int) (out : (Int × Int × Bool) → A) : A :=
 (an.cn (a1 == 2)
 (an.lf out (0, 1, true))
 (an.cn (a1 == 25)
 (an.lf out (0, 15, true))
 (an.cn (a1 == 26)
 (an.lf out (0, 31, true))
 (an.bd (F_expr_object L a1) fun r1 =>
 (an.jp (bif r1 then a0.u_code
 else false) (fun j => (an.cn r1
 (an.ap j a0.u_code)
 (an.ap j false))) (fun b2 =>
 (an.cn b2
 (an.lf out (0, 63, true))
 (an.lf out (0, 0, false)))))))))
def F_expr_kind_numbers  (L : Nat) (a0 : expr_kind) (a1 : Int) : Option (Int × Int × Bool) := T_expr_kind_numbers (anO _) L a0 a1 some
theorem e170  (L : Nat) (a0 : expr_kind) (a1 : Int) (kk : PV → Prop) : EW (O170 L) L 9 (RS Tryz.f170) c170 [.agg [B a0.u_code], I a1] kk = ob (F_expr_kind_numbers L a0 a1) (fun (x : (Int × Int × Bool)) => kk (.tup [I x.1, I x.2.1, B x.2.2])) := by
  refine Eq.trans (b := T_expr_kind_numbers anP L a0 a1 (fun (x : (Int × Int × Bool)) => kk (.tup [I x.1, I x.2.1, B x.2.2]))) (by kernel_rfl) ?_
  generalize (fun (x : (Int × Int × Bool)) => kk (.tup [I x.1, I x.2.1, B x.2.2])) = Q
  unfold F_expr_kind_numbers T_expr_kind_numbers
  dsimp only [anP, anO]
  try simp only [y1, y2, y3, y4, y5 Q, y6, y7, y8 Q, y9, z1, z2, z3, z4]
theorem h170   (L : Nat) (a0 : expr_kind) (a1 : Int) (r : (Int × Int × Bool)) (h : F_expr_kind_numbers L a0 a1 = some r) : Holds Tryz.prog 170 [.agg [B a0.u_code], I a1] (.tup [I r.1, I r.2.1, B r.2.2]) :=
  hE grwOK (s170  L) mixed Tryz.func170 (by kernel_rfl : cFn Tryz.prog inl Tryz.f170 = some c170) (er := fun (x : (Int × Int × Bool)) => .tup [I x.1, I x.2.1, B x.2.2]) (by kernel_rfl) (e170 L a0 a1) h
/-! ### simulator/names.letter -/
noncomputable def c125 : EC := (cFn Tryz.prog inl Tryz.f125).getD .stop
def O125  (L : Nat) : Oracle := noC
theorem s125   (L : Nat) : SoundC Tryz.prog (O125 L) := (noC_sound Tryz.prog)
def T_names_letter {A : Type} (an : An A)  (L : Nat) (a0 : Int) (out : Bool → A) : A :=
 (an.jp (bif (decide (a0 ≥ 97)) then (decide (a0 ≤ 122))
 else false) (fun j => (an.cn (decide (a0 ≥ 97))
 (an.ap j (decide (a0 ≤ 122)))
 (an.ap j false))) (fun b1 =>
 (an.lf out b1)))
def F_names_letter  (L : Nat) (a0 : Int) : Option Bool := T_names_letter (anO _) L a0 some
theorem e125  (L : Nat) (a0 : Int) (kk : PV → Prop) : EW (O125 L) L 9 (RS Tryz.f125) c125 [V .u8 a0] kk = ob (F_names_letter L a0) (fun (x : Bool) => kk (B x)) := by
  refine Eq.trans (b := T_names_letter anP L a0 (fun (x : Bool) => kk (B x))) (by kernel_rfl) ?_
  generalize (fun (x : Bool) => kk (B x)) = Q
  unfold F_names_letter T_names_letter
  dsimp only [anP, anO]
  try simp only [y1, y2, y3, y4, y5 Q, y6, y7, y8 Q, y9, z1, z2, z3, z4]
theorem h125   (L : Nat) (a0 : Int) (r : Bool) (h : F_names_letter L a0 = some r) : Holds Tryz.prog 125 [V .u8 a0] (B r) :=
  hE grwOK (s125  L) mixed Tryz.func125 (by kernel_rfl : cFn Tryz.prog inl Tryz.f125 = some c125) (er := fun (x : Bool) => B x) (by kernel_rfl) (e125 L a0) h
/-! ### simulator/names.Keyword -/
noncomputable def c126 : EC := (cFn Tryz.prog inl Tryz.f126).getD .stop
def O126  (L : Nat) : Oracle := noC
theorem s126   (L : Nat) : SoundC Tryz.prog (O126 L) := (noC_sound Tryz.prog)
def T_names_Keyword {A : Type} (an : An A)  (L : Nat) (a0 : ByteArray) (out : Bool → A) : A :=
 (an.cn (a0.toList == (⟨#[97, 100, 100]⟩ : ByteArray).toList)
 (an.cn (a0.toList == (⟨#[97, 100, 100]⟩ : ByteArray).toList)
 (an.lf out true)
 (an.lf out false))
 (an.cn (a0.toList == (⟨#[97, 102, 116, 101, 114]⟩ : ByteArray).toList)
 (an.cn (a0.toList == (⟨#[97, 102, 116, 101, 114]⟩ : ByteArray).toList)
 (an.lf out true)
 (an.lf out false))
 (an.cn (a0.toList == (⟨#[97, 110, 100]⟩ : ByteArray).toList)
 (an.cn (a0.toList == (⟨#[97, 110, 100]⟩ : ByteArray).toList)
 (an.lf out true)
 (an.lf out false))
 (an.cn (a0.toList == (⟨#[97, 116]⟩ : ByteArray).toList)
 (an.cn (a0.toList == (⟨#[97, 116]⟩ : ByteArray).toList)
 (an.lf out true)
 (an.lf out false))
 (an.cn (a0.toList == (⟨#[98, 101, 108, 116]⟩ : ByteArray).toList)
 (an.cn (a0.toList == (⟨#[98, 101, 108, 116]⟩ : ByteArray).toList)
 (an.lf out true)
 (an.lf out false))
 (an.cn (a0.toList == (⟨#[98, 111, 111, 108]⟩ : ByteArray).toList)
 (an.cn (a0.toList == (⟨#[98, 111, 111, 108]⟩ : ByteArray).toList)
 (an.lf out true)
 (an.lf out false))
 (an.cn (a0.toList == (⟨#[99, 111, 110, 115, 101, 114, 118, 101]⟩ : ByteArray).toList)
 (an.cn (a0.toList == (⟨#[99, 111, 110, 115, 101, 114, 118, 101]⟩ : ByteArray).toList)
 (an.lf out true)
 (an.lf out false))
 (an.cn (a0.toList == (⟨#[99, 111, 110, 115, 116]⟩ : ByteArray).toList)
 (an.cn (a0.toList == (⟨#[99, 111, 110, 115, 116]⟩ : ByteArray).toList)
 (an.lf out true)
 (an.lf out false))
 (an.cn (a0.toList == (⟨#[99, 111, 117, 110, 116]⟩ : ByteArray).toList)
 (an.cn (a0.toList == (⟨#[99, 111, 117, 110, 116]⟩ : ByteArray).toList)
 (an.lf out true)
 (an.lf out false))
 (an.cn (a0.toList == (⟨#[99, 121, 99, 108, 101]⟩ : ByteArray).toList)
 (an.cn (a0.toList == (⟨#[99, 121, 99, 108, 101]⟩ : ByteArray).toList)
 (an.lf out true)
 (an.lf out false))
 (an.cn (a0.toList == (⟨#[100, 111, 119, 110]⟩ : ByteArray).toList)
 (an.cn (a0.toList == (⟨#[100, 111, 119, 110]⟩ : ByteArray).toList)
 (an.lf out true)
 (an.lf out false))
 (an.cn (a0.toList == (⟨#[100, 114, 97, 119]⟩ : ByteArray).toList)
 (an.cn (a0.toList == (⟨#[100, 114, 97, 119]⟩ : ByteArray).toList)
 (an.lf out true)
 (an.lf out false))
 (an.cn (a0.toList == (⟨#[100, 117, 114]⟩ : ByteArray).toList)
 (an.cn (a0.toList == (⟨#[100, 117, 114]⟩ : ByteArray).toList)
 (an.lf out true)
 (an.lf out false))
 (an.cn (a0.toList == (⟨#[101, 108, 115, 101]⟩ : ByteArray).toList)
 (an.cn (a0.toList == (⟨#[101, 108, 115, 101]⟩ : ByteArray).toList)
 (an.lf out true)
 (an.lf out false))
 (an.cn (a0.toList == (⟨#[101, 110, 100]⟩ : ByteArray).toList)
 (an.cn (a0.toList == (⟨#[101, 110, 100]⟩ : ByteArray).toList)
 (an.lf out true)
 (an.lf out false))
 (an.cn (a0.toList == (⟨#[101, 118, 101, 114, 121]⟩ : ByteArray).toList)
 (an.cn (a0.toList == (⟨#[101, 118, 101, 114, 121]⟩ : ByteArray).toList)
 (an.lf out true)
 (an.lf out false))
 (an.cn (a0.toList == (⟨#[102, 97, 108, 115, 101]⟩ : ByteArray).toList)
 (an.cn (a0.toList == (⟨#[102, 97, 108, 115, 101]⟩ : ByteArray).toList)
 (an.lf out true)
 (an.lf out false))
 (an.cn (a0.toList == (⟨#[102, 97, 117, 108, 116]⟩ : ByteArray).toList)
 (an.cn (a0.toList == (⟨#[102, 97, 117, 108, 116]⟩ : ByteArray).toList)
 (an.lf out true)
 (an.lf out false))
 (an.cn (a0.toList == (⟨#[102, 105, 102, 111]⟩ : ByteArray).toList)
 (an.cn (a0.toList == (⟨#[102, 105, 102, 111]⟩ : ByteArray).toList)
 (an.lf out true)
 (an.lf out false))
 (an.cn (a0.toList == (⟨#[102, 114, 101, 101]⟩ : ByteArray).toList)
 (an.cn (a0.toList == (⟨#[102, 114, 101, 101]⟩ : ByteArray).toList)
 (an.lf out true)
 (an.lf out false))
 (an.cn (a0.toList == (⟨#[102, 114, 111, 109]⟩ : ByteArray).toList)
 (an.cn (a0.toList == (⟨#[102, 114, 111, 109]⟩ : ByteArray).toList)
 (an.lf out true)
 (an.lf out false))
 (an.cn (a0.toList == (⟨#[103, 101, 111, 109]⟩ : ByteArray).toList)
 (an.cn (a0.toList == (⟨#[103, 101, 111, 109]⟩ : ByteArray).toList)
 (an.lf out true)
 (an.lf out false))
 (an.cn (a0.toList == (⟨#[103, 101, 116]⟩ : ByteArray).toList)
 (an.cn (a0.toList == (⟨#[103, 101, 116]⟩ : ByteArray).toList)
 (an.lf out true)
 (an.lf out false))
 (an.cn (a0.toList == (⟨#[104, 111, 108, 100]⟩ : ByteArray).toList)
 (an.cn (a0.toList == (⟨#[104, 111, 108, 100]⟩ : ByteArray).toList)
 (an.lf out true)
 (an.lf out false))
 (an.cn (a0.toList == (⟨#[105, 102]⟩ : ByteArray).toList)
 (an.cn (a0.toList == (⟨#[105, 102]⟩ : ByteArray).toList)
 (an.lf out true)
 (an.lf out false))
 (an.cn (a0.toList == (⟨#[105, 110, 116]⟩ : ByteArray).toList)
 (an.cn (a0.toList == (⟨#[105, 110, 116]⟩ : ByteArray).toList)
 (an.lf out true)
 (an.lf out false))
 (an.cn (a0.toList == (⟨#[105, 110, 116, 111]⟩ : ByteArray).toList)
 (an.cn (a0.toList == (⟨#[105, 110, 116, 111]⟩ : ByteArray).toList)
 (an.lf out true)
 (an.lf out false))
 (an.cn (a0.toList == (⟨#[108, 101, 97, 115, 116]⟩ : ByteArray).toList)
 (an.cn (a0.toList == (⟨#[108, 101, 97, 115, 116]⟩ : ByteArray).toList)
 (an.lf out true)
 (an.lf out false))
 (an.cn (a0.toList == (⟨#[108, 101, 118, 101, 108]⟩ : ByteArray).toList)
 (an.cn (a0.toList == (⟨#[108, 101, 118, 101, 108]⟩ : ByteArray).toList)
 (an.lf out true)
 (an.lf out false))
 (an.cn (a0.toList == (⟨#[108, 105, 102, 111]⟩ : ByteArray).toList)
 (an.cn (a0.toList == (⟨#[108, 105, 102, 111]⟩ : ByteArray).toList)
 (an.lf out true)
 (an.lf out false))
 (an.cn (a0.toList == (⟨#[108, 105, 110, 107]⟩ : ByteArray).toList)
 (an.cn (a0.toList == (⟨#[108, 105, 110, 107]⟩ : ByteArray).toList)
 (an.lf out true)
 (an.lf out false))
 (an.cn (a0.toList == (⟨#[108, 111, 99, 97, 108]⟩ : ByteArray).toList)
 (an.cn (a0.toList == (⟨#[108, 111, 99, 97, 108]⟩ : ByteArray).toList)
 (an.lf out true)
 (an.lf out false))
 (an.cn (a0.toList == (⟨#[109, 97, 120]⟩ : ByteArray).toList)
 (an.cn (a0.toList == (⟨#[109, 97, 120]⟩ : ByteArray).toList)
 (an.lf out true)
 (an.lf out false))
 (an.cn (a0.toList == (⟨#[109, 105, 110]⟩ : ByteArray).toList)
 (an.cn (a0.toList == (⟨#[109, 105, 110]⟩ : ByteArray).toList)
 (an.lf out true)
 (an.lf out false))
 (an.cn (a0.toList == (⟨#[109, 111, 100, 101, 108]⟩ : ByteArray).toList)
 (an.cn (a0.toList == (⟨#[109, 111, 100, 101, 108]⟩ : ByteArray).toList)
 (an.lf out true)
 (an.lf out false))
 (an.cn (a0.toList == (⟨#[110, 111, 116]⟩ : ByteArray).toList)
 (an.cn (a0.toList == (⟨#[110, 111, 116]⟩ : ByteArray).toList)
 (an.lf out true)
 (an.lf out false))
 (an.cn (a0.toList == (⟨#[110, 111, 119]⟩ : ByteArray).toList)
 (an.cn (a0.toList == (⟨#[110, 111, 119]⟩ : ByteArray).toList)
 (an.lf out true)
 (an.lf out false))
 (an.cn (a0.toList == (⟨#[111, 98, 115, 101, 114, 118, 101]⟩ : ByteArray).toList)
 (an.cn (a0.toList == (⟨#[111, 98, 115, 101, 114, 118, 101]⟩ : ByteArray).toList)
 (an.lf out true)
 (an.lf out false))
 (an.cn (a0.toList == (⟨#[111, 114]⟩ : ByteArray).toList)
 (an.cn (a0.toList == (⟨#[111, 114]⟩ : ByteArray).toList)
 (an.lf out true)
 (an.lf out false))
 (an.cn (a0.toList == (⟨#[112, 97, 114, 97, 109]⟩ : ByteArray).toList)
 (an.cn (a0.toList == (⟨#[112, 97, 114, 97, 109]⟩ : ByteArray).toList)
 (an.lf out true)
 (an.lf out false))
 (an.cn (a0.toList == (⟨#[112, 114, 101, 101, 109, 112, 116]⟩ : ByteArray).toList)
 (an.cn (a0.toList == (⟨#[112, 114, 101, 101, 109, 112, 116]⟩ : ByteArray).toList)
 (an.lf out true)
 (an.lf out false))
 (an.cn (a0.toList == (⟨#[112, 114, 105, 111]⟩ : ByteArray).toList)
 (an.cn (a0.toList == (⟨#[112, 114, 105, 111]⟩ : ByteArray).toList)
 (an.lf out true)
 (an.lf out false))
 (an.cn (a0.toList == (⟨#[112, 117, 116]⟩ : ByteArray).toList)
 (an.cn (a0.toList == (⟨#[112, 117, 116]⟩ : ByteArray).toList)
 (an.lf out true)
 (an.lf out false))
 (an.cn (a0.toList == (⟨#[113, 117, 101, 117, 101]⟩ : ByteArray).toList)
 (an.cn (a0.toList == (⟨#[113, 117, 101, 117, 101]⟩ : ByteArray).toList)
 (an.lf out true)
 (an.lf out false))
 (an.cn (a0.toList == (⟨#[114, 101, 108, 101, 97, 115, 101]⟩ : ByteArray).toList)
 (an.cn (a0.toList == (⟨#[114, 101, 108, 101, 97, 115, 101]⟩ : ByteArray).toList)
 (an.lf out true)
 (an.lf out false))
 (an.cn (a0.toList == (⟨#[114, 101, 115, 111, 117, 114, 99, 101]⟩ : ByteArray).toList)
 (an.cn (a0.toList == (⟨#[114, 101, 115, 111, 117, 114, 99, 101]⟩ : ByteArray).toList)
 (an.lf out true)
 (an.lf out false))
 (an.cn (a0.toList == (⟨#[114, 105, 100, 101]⟩ : ByteArray).toList)
 (an.cn (a0.toList == (⟨#[114, 105, 100, 101]⟩ : ByteArray).toList)
 (an.lf out true)
 (an.lf out false))
 (an.cn (a0.toList == (⟨#[114, 111, 117, 116, 105, 110, 101]⟩ : ByteArray).toList)
 (an.cn (a0.toList == (⟨#[114, 111, 117, 116, 105, 110, 101]⟩ : ByteArray).toList)
 (an.lf out true)
 (an.lf out false))
 (an.cn (a0.toList == (⟨#[115, 101, 105, 122, 101]⟩ : ByteArray).toList)
 (an.cn (a0.toList == (⟨#[115, 101, 105, 122, 101]⟩ : ByteArray).toList)
 (an.lf out true)
 (an.lf out false))
 (an.cn (a0.toList == (⟨#[115, 101, 110, 100]⟩ : ByteArray).toList)
 (an.cn (a0.toList == (⟨#[115, 101, 110, 100]⟩ : ByteArray).toList)
 (an.lf out true)
 (an.lf out false))
 (an.cn (a0.toList == (⟨#[115, 101, 116]⟩ : ByteArray).toList)
 (an.cn (a0.toList == (⟨#[115, 101, 116]⟩ : ByteArray).toList)
 (an.lf out true)
 (an.lf out false))
 (an.cn (a0.toList == (⟨#[115, 104, 105, 102, 116]⟩ : ByteArray).toList)
 (an.cn (a0.toList == (⟨#[115, 104, 105, 102, 116]⟩ : ByteArray).toList)
 (an.lf out true)
 (an.lf out false))
 (an.cn (a0.toList == (⟨#[115, 105, 103, 110, 97, 108]⟩ : ByteArray).toList)
 (an.cn (a0.toList == (⟨#[115, 105, 103, 110, 97, 108]⟩ : ByteArray).toList)
 (an.lf out true)
 (an.lf out false))
 (an.cn (a0.toList == (⟨#[115, 105, 116, 101]⟩ : ByteArray).toList)
 (an.cn (a0.toList == (⟨#[115, 105, 116, 101]⟩ : ByteArray).toList)
 (an.lf out true)
 (an.lf out false))
 (an.cn (a0.toList == (⟨#[115, 105, 122, 101]⟩ : ByteArray).toList)
 (an.cn (a0.toList == (⟨#[115, 105, 122, 101]⟩ : ByteArray).toList)
 (an.lf out true)
 (an.lf out false))
 (an.cn (a0.toList == (⟨#[115, 112, 97, 119, 110]⟩ : ByteArray).toList)
 (an.cn (a0.toList == (⟨#[115, 112, 97, 119, 110]⟩ : ByteArray).toList)
 (an.lf out true)
 (an.lf out false))
 (an.cn (a0.toList == (⟨#[115, 116, 97, 114, 116]⟩ : ByteArray).toList)
 (an.cn (a0.toList == (⟨#[115, 116, 97, 114, 116]⟩ : ByteArray).toList)
 (an.lf out true)
 (an.lf out false))
 (an.cn (a0.toList == (⟨#[115, 116, 111, 112]⟩ : ByteArray).toList)
 (an.cn (a0.toList == (⟨#[115, 116, 111, 112]⟩ : ByteArray).toList)
 (an.lf out true)
 (an.lf out false))
 (an.cn (a0.toList == (⟨#[115, 116, 111, 114, 101]⟩ : ByteArray).toList)
 (an.cn (a0.toList == (⟨#[115, 116, 111, 114, 101]⟩ : ByteArray).toList)
 (an.lf out true)
 (an.lf out false))
 (an.cn (a0.toList == (⟨#[115, 116, 114, 101, 97, 109]⟩ : ByteArray).toList)
 (an.cn (a0.toList == (⟨#[115, 116, 114, 101, 97, 109]⟩ : ByteArray).toList)
 (an.lf out true)
 (an.lf out false))
 (an.cn (a0.toList == (⟨#[115, 117, 109]⟩ : ByteArray).toList)
 (an.cn (a0.toList == (⟨#[115, 117, 109]⟩ : ByteArray).toList)
 (an.lf out true)
 (an.lf out false))
 (an.cn (a0.toList == (⟨#[116, 97, 98, 108, 101]⟩ : ByteArray).toList)
 (an.cn (a0.toList == (⟨#[116, 97, 98, 108, 101]⟩ : ByteArray).toList)
 (an.lf out true)
 (an.lf out false))
 (an.cn (a0.toList == (⟨#[116, 97, 108, 108, 121]⟩ : ByteArray).toList)
 (an.cn (a0.toList == (⟨#[116, 97, 108, 108, 121]⟩ : ByteArray).toList)
 (an.lf out true)
 (an.lf out false))
 (an.cn (a0.toList == (⟨#[116, 105, 99, 107, 115]⟩ : ByteArray).toList)
 (an.cn (a0.toList == (⟨#[116, 105, 99, 107, 115]⟩ : ByteArray).toList)
 (an.lf out true)
 (an.lf out false))
 (an.cn (a0.toList == (⟨#[116, 105, 109, 101]⟩ : ByteArray).toList)
 (an.cn (a0.toList == (⟨#[116, 105, 109, 101]⟩ : ByteArray).toList)
 (an.lf out true)
 (an.lf out false))
 (an.cn (a0.toList == (⟨#[116, 114, 117, 101]⟩ : ByteArray).toList)
 (an.cn (a0.toList == (⟨#[116, 114, 117, 101]⟩ : ByteArray).toList)
 (an.lf out true)
 (an.lf out false))
 (an.cn (a0.toList == (⟨#[117, 110, 105, 102, 111, 114, 109]⟩ : ByteArray).toList)
 (an.cn (a0.toList == (⟨#[117, 110, 105, 102, 111, 114, 109]⟩ : ByteArray).toList)
 (an.lf out true)
 (an.lf out false))
 (an.cn (a0.toList == (⟨#[117, 110, 116, 105, 108]⟩ : ByteArray).toList)
 (an.cn (a0.toList == (⟨#[117, 110, 116, 105, 108]⟩ : ByteArray).toList)
 (an.lf out true)
 (an.lf out false))
 (an.cn (a0.toList == (⟨#[117, 112]⟩ : ByteArray).toList)
 (an.cn (a0.toList == (⟨#[117, 112]⟩ : ByteArray).toList)
 (an.lf out true)
 (an.lf out false))
 (an.cn (a0.toList == (⟨#[118, 97, 114]⟩ : ByteArray).toList)
 (an.cn (a0.toList == (⟨#[118, 97, 114]⟩ : ByteArray).toList)
 (an.lf out true)
 (an.lf out false))
 (an.cn (a0.toList == (⟨#[119, 97, 105, 116]⟩ : ByteArray).toList)
 (an.cn (a0.toList == (⟨#[119, 97, 105, 116]⟩ : ByteArray).toList)
 (an.lf out true)
 (an.lf out false))
 (an.cn (a0.toList == (⟨#[119, 97, 105, 116, 105, 110, 103]⟩ : ByteArray).toList)
 (an.cn (a0.toList == (⟨#[119, 97, 105, 116, 105, 110, 103]⟩ : ByteArray).toList)
 (an.lf out true)
 (an.lf out false))
 (an.cn (a0.toList == (⟨#[119, 104, 105, 108, 101]⟩ : ByteArray).toList)
 (an.lf out true)
 (an.lf out false))))))))))))))))))))))))))))))))))))))))))))))))))))))))))))))))))))))))))
def F_names_Keyword  (L : Nat) (a0 : ByteArray) : Option Bool := T_names_Keyword (anO _) L a0 some
theorem e126  (L : Nat) (a0 : ByteArray) (kk : PV → Prop) : EW (O126 L) L 9 (RS Tryz.f126) c126 [S a0] kk = ob (F_names_Keyword L a0) (fun (x : Bool) => kk (B x)) := by
  refine Eq.trans (b := T_names_Keyword anP L a0 (fun (x : Bool) => kk (B x))) (by kernel_rfl) ?_
  generalize (fun (x : Bool) => kk (B x)) = Q
  unfold F_names_Keyword T_names_Keyword
  dsimp only [anP, anO]
  try simp only [y1, y2, y3, y4, y5 Q, y6, y7, y8 Q, y9, z1, z2, z3, z4]
theorem h126   (L : Nat) (a0 : ByteArray) (r : Bool) (h : F_names_Keyword L a0 = some r) : Holds Tryz.prog 126 [S a0] (B r) :=
  hE grwOK (s126  L) mixed Tryz.func126 (by kernel_rfl : cFn Tryz.prog inl Tryz.f126 = some c126) (er := fun (x : Bool) => B x) (by kernel_rfl) (e126 L a0) h
/-! ### simulator/names.Check -/
noncomputable def c92 : EC := (cFn Tryz.prog inl Tryz.f92).getD .stop
def O92  (L : Nat) : Oracle := (orc 125 (A1 (fun (x : Bool) => B x) (cI .u8) (F_names_letter L)) (orc 126 (A1 (fun (x : Bool) => B x) cS (F_names_Keyword L)) noC))
theorem s92   (L : Nat) : SoundC Tryz.prog (O92 L) := (orc_sound (a1 _ (h125 L)) (orc_sound (a1 _ (h126 L)) (noC_sound Tryz.prog)))
def sh92_1 (a0 : ByteArray) (v1_1 : Int) (v1_3 : Int) : St := ({ fr := [(0, S a0), (2, I v1_1), (23, I (a0.size : Int)), (24, I v1_3)], ob := [], base := 0 } : St)
def KK92_1 (a0 : ByteArray) (K : Ex → St → Prop) : Nat × (Int × Int) → Prop := fun o => seln o.1 [K .ret (sh92_1 a0 o.2.1 o.2.2), K (.exit 0) (sh92_1 a0 o.2.1 o.2.2)]
def lb_names_Check_1 {A : Type} (an : An A)  (L : Nat) (a0 : ByteArray) (rec : Int → Int → A) (out : Nat × (Int × Int) → A) (v1_1 : Int) (v1_3 : Int) : A :=
 (an.cn (decide (v1_3 < (a0.size : Int)))
 (an.cn ((if 0 ≤ v1_3 then a0[Int.toNat v1_3]? else none).isSome)
 (an.bd (F_names_letter L (optByte (if 0 ≤ v1_3 then a0[Int.toNat v1_3]? else none))) fun r8 =>
 (an.jp (bif (!r8) then (bif (decide ((optByte (if 0 ≤ v1_3 then a0[Int.toNat v1_3]? else none)) < 48)) then true
 else (decide ((optByte (if 0 ≤ v1_3 then a0[Int.toNat v1_3]? else none)) > 57)))
 else false) (fun j => (an.cn (!r8)
 (an.cn (decide ((optByte (if 0 ≤ v1_3 then a0[Int.toNat v1_3]? else none)) < 48))
 (an.ap j true)
 (an.ap j (decide ((optByte (if 0 ≤ v1_3 then a0[Int.toNat v1_3]? else none)) > 57))))
 (an.ap j false))) (fun b9 =>
 (an.jp (bif b9 then ((optByte (if 0 ≤ v1_3 then a0[Int.toNat v1_3]? else none)) != 95)
 else false) (fun j => (an.cn b9
 (an.ap j ((optByte (if 0 ≤ v1_3 then a0[Int.toNat v1_3]? else none)) != 95))
 (an.ap j false))) (fun b10 =>
 (an.cn b10
 (an.lf out (0, (3, v1_3)))
 (rec v1_1 (w64 (v1_3 + 1)))))))))
 an.fl)
 (an.lf out (1, (v1_1, v1_3))))
def lp_names_Check_1  (L : Nat) (a0 : ByteArray) : Nat → Int → Int → Option (Nat × (Int × Int))
  | 0, _, _ => none
  | n + 1, v1_1, v1_3 => lb_names_Check_1 (anO _)  L a0 (lp_names_Check_1  L a0 n) some v1_1 v1_3
theorem ln92_1  (L : Nat) (a0 : ByteArray) (g : Int → Int → Option (Nat × (Int × Int))) (Q : Nat × (Int × Int) → Prop) (v1_1 : Int) (v1_3 : Int) : lb_names_Check_1 anP  L a0 (fun v1_1 v1_3 => ob (g v1_1 v1_3) Q) Q v1_1 v1_3 = ob (lb_names_Check_1 (anO _)  L a0 g some v1_1 v1_3) Q := by
  unfold lb_names_Check_1
  dsimp only [anP, anO]
  try simp only [y1, y2, y3, y4, y5 Q, y6, y7, y8 Q, y9, z1, z2, z3, z4]
theorem le92_1  (L : Nat) (a0 : ByteArray) (n : Nat) (v1_1 : Int) (v1_3 : Int) (K : Ex → St → Prop) : loopN (EV (O92 L) L 9 c92.r.r.r.r.l.r.r.l.l) [0, 2, 23, 24] [] n (sh92_1 a0 v1_1 v1_3) K = ob (lp_names_Check_1  L a0 n v1_1 v1_3) (fun o => KK92_1 a0 K o) := by
  induction n generalizing v1_1 v1_3 with
  | zero => rfl
  | succ n ih =>
    refine Eq.trans (b := lb_names_Check_1 anP  L a0 (fun v1_1 v1_3 => loopN (EV (O92 L) L 9 c92.r.r.r.r.l.r.r.l.l) [0, 2, 23, 24] [] n (sh92_1 a0 v1_1 v1_3) K) (KK92_1 a0 K) v1_1 v1_3) (by kernel_rfl) ?_
    simp only [ih]
    exact ln92_1  L a0 (lp_names_Check_1  L a0 n) (KK92_1 a0 K) v1_1 v1_3
def kc92_1  (L : Nat)  (kk : PV → Prop) : Ex → St → Prop := (kBlock 0 (kSeq (EV (O92 L) L 9 c92.r.r.r.r.r) (kEnd Tryz.prog (RS Tryz.f92) kk)))
theorem q92_1  (L : Nat) (a0 : ByteArray) (kk : PV → Prop) (o6 : Nat × (Int × Int)) : KK92_1 a0 (kc92_1 L kk) o6 =
 (seln o6.1 [(ob (some o6.2.1) (fun (x : Int) => kk (I x))),
 (ob (some 0) (fun (x : Int) => kk (I x)))]) := by kernel_rfl
def T_names_Check {A : Type} (an : An A)  (L : Nat) (a0 : ByteArray) (out : Int → A) : A :=
 (an.jp (bif (a0.toList == (⟨#[]⟩ : ByteArray).toList) then true
 else (decide ((a0.size : Int) > 24))) (fun j => (an.cn (a0.toList == (⟨#[]⟩ : ByteArray).toList)
 (an.ap j true)
 (an.ap j (decide ((a0.size : Int) > 24))))) (fun b1 =>
 (an.jb (bif b1 then (some true)
 else (bif ((if 0 ≤ 0 then a0[Int.toNat 0]? else none).isSome) then (Option.bind (F_names_letter L (optByte (if 0 ≤ 0 then a0[Int.toNat 0]? else none))) fun r3 =>
 (some (!r3)))
 else none)) (fun j => (an.cn b1
 (an.lf j true)
 (an.cn ((if 0 ≤ 0 then a0[Int.toNat 0]? else none).isSome)
 (an.bd (F_names_letter L (optByte (if 0 ≤ 0 then a0[Int.toNat 0]? else none))) fun r4 =>
 (an.lf j (!r4)))
 (an.bd none j)))) (fun b2 =>
 (an.jb (bif b2 then (some true)
 else (Option.bind (F_names_Keyword L a0) fun r6 =>
 (some r6))) (fun j => (an.cn b2
 (an.lf j true)
 (an.bd (F_names_Keyword L a0) fun r7 =>
 (an.lf j r7)))) (fun b5 =>
 (an.cn b5
 (an.lf out 3)
 (an.bd (lp_names_Check_1 L a0 L 0 0) fun o8 =>
 (an.sl o8.1 [(an.lf out o8.2.1),
 (an.lf out 0)])))))))))
def F_names_Check  (L : Nat) (a0 : ByteArray) : Option Int := T_names_Check (anO _) L a0 some
theorem e92  (L : Nat) (a0 : ByteArray) (kk : PV → Prop) : EW (O92 L) L 9 (RS Tryz.f92) c92 [S a0] kk = ob (F_names_Check L a0) (fun (x : Int) => kk (I x)) := by
  refine Eq.trans (b := T_names_Check anP L a0 (fun (x : Int) => kk (I x))) ?_ ?_
  · refine Eq.trans (b := (jn (fun j => (br (a0.toList == (⟨#[]⟩ : ByteArray).toList)
 (ap j true)
 (ap j (decide ((a0.size : Int) > 24))))) (fun b1 =>
 (jn (fun j => (br b1
 (ob (some true) j)
 (br ((if 0 ≤ 0 then a0[Int.toNat 0]? else none).isSome)
 (ob (F_names_letter L (optByte (if 0 ≤ 0 then a0[Int.toNat 0]? else none))) fun r3 =>
 (ob (some (!r3)) j))
 (ob none j)))) (fun b2 =>
 (jn (fun j => (br b2
 (ob (some true) j)
 (ob (F_names_Keyword L a0) fun r5 =>
 (ob (some r5) j)))) (fun b4 =>
 (br b4
 (ob (some 3) (fun (x : Int) => kk (I x)))
 (loopN (EV (O92 L) L 9 c92.r.r.r.r.l.r.r.l.l) [0, 2, 23, 24] [] L (sh92_1 a0 0 0) (kc92_1 L kk)))))))))) (by kernel_rfl) ?_
    unfold T_names_Check
    dsimp only [anP]
    simp only [le92_1, q92_1]
  generalize (fun (x : Int) => kk (I x)) = Q
  unfold F_names_Check T_names_Check
  dsimp only [anP, anO]
  try simp only [y1, y2, y3, y4, y5 Q, y6, y7, y8 Q, y9, z1, z2, z3, z4]
theorem h92   (L : Nat) (a0 : ByteArray) (r : Int) (h : F_names_Check L a0 = some r) : Holds Tryz.prog 92 [S a0] (I r) :=
  hE grwOK (s92  L) mixed Tryz.func92 (by kernel_rfl : cFn Tryz.prog inl Tryz.f92 = some c92) (er := fun (x : Int) => I x) (by kernel_rfl) (e92 L a0) h
/-! ### (simulator/expr.kind).node -/
noncomputable def c101 : EC := (cFn Tryz.prog inl Tryz.f101).getD .stop
def O101  (L : Nat) : Oracle := (orc 60 (A1 (fun (x : Bool) => B x) (cI .i64) (F_num_In L)) (orc 92 (A1 (fun (x : Int) => I x) cS (F_names_Check L)) (orc 167 (A2 (fun (x : Bool) => B x) ca_expr_kind (cI .i64) (F_expr_kind_known L)) (orc 168 (A1 (fun (x : Int) => I x) (cI .i64) (F_expr_kids L)) (orc 169 (A2 (fun (x : Bool) => B x) ca_expr_kind (cI .i64) (F_expr_kind_named L)) (orc 170 (A2 (fun (x : (Int × Int × Bool)) => .tup [I x.1, I x.2.1, B x.2.2]) ca_expr_kind (cI .i64) (F_expr_kind_numbers L)) noC))))))
theorem s101   (L : Nat) : SoundC Tryz.prog (O101 L) := (orc_sound (a1 _ (h60 L)) (orc_sound (a1 _ (h92 L)) (orc_sound (a2 _ (h167 L)) (orc_sound (a1 _ (h168 L)) (orc_sound (a2 _ (h169 L)) (orc_sound (a2 _ (h170 L)) (noC_sound Tryz.prog)))))))
def T_expr_kind_node {A : Type} (an : An A)  (L : Nat) (a0 : expr_kind) (a1 : api_Expr) (out : Int → A) : A :=
 (an.bd (F_expr_kind_known L a0 a1.Op) fun r1 =>
 (an.cn (!r1)
 (an.lf out 1)
 (an.bd (F_expr_kids L a1.Op) fun r2 =>
 (an.cn ((a1.Kids.length : Int) != r2)
 (an.lf out 1)
 (an.cn (!(a1.Name.toList == (⟨#[]⟩ : ByteArray).toList))
 (an.bd (F_expr_kind_named L a0 a1.Op) fun r3 =>
 (an.cn (!r3)
 (an.lf out 1)
 (an.cn (a1.Op == 1)
 (an.bd (F_num_In L a1.N) fun r4 =>
 (an.cn (!r4)
 (an.lf out 2)
 (an.lf out 0)))
 (an.bd (F_expr_kind_numbers L a0 a1.Op) fun r5 =>
 (an.jp (bif (!r5.2.2) then (a1.N != 0)
 else false) (fun j => (an.cn (!r5.2.2)
 (an.ap j (a1.N != 0))
 (an.ap j false))) (fun b6 =>
 (an.cn b6
 (an.lf out 1)
 (an.jp (bif r5.2.2 then (bif (decide (a1.N < r5.1)) then true
 else (decide (a1.N > r5.2.1)))
 else false) (fun j => (an.cn r5.2.2
 (an.cn (decide (a1.N < r5.1))
 (an.ap j true)
 (an.ap j (decide (a1.N > r5.2.1))))
 (an.ap j false))) (fun b7 =>
 (an.cn b7
 (an.lf out 2)
 (an.bd (F_expr_kind_named L a0 a1.Op) fun r8 =>
 (an.cn r8
 (an.bd (F_names_Check L a1.Name) fun r9 =>
 (an.lf out r9))
 (an.lf out 0)))))))))))))
 (an.cn (a1.Op == 1)
 (an.bd (F_num_In L a1.N) fun r10 =>
 (an.cn (!r10)
 (an.lf out 2)
 (an.lf out 0)))
 (an.bd (F_expr_kind_numbers L a0 a1.Op) fun r11 =>
 (an.jp (bif (!r11.2.2) then (a1.N != 0)
 else false) (fun j => (an.cn (!r11.2.2)
 (an.ap j (a1.N != 0))
 (an.ap j false))) (fun b12 =>
 (an.cn b12
 (an.lf out 1)
 (an.jp (bif r11.2.2 then (bif (decide (a1.N < r11.1)) then true
 else (decide (a1.N > r11.2.1)))
 else false) (fun j => (an.cn r11.2.2
 (an.cn (decide (a1.N < r11.1))
 (an.ap j true)
 (an.ap j (decide (a1.N > r11.2.1))))
 (an.ap j false))) (fun b13 =>
 (an.cn b13
 (an.lf out 2)
 (an.bd (F_expr_kind_named L a0 a1.Op) fun r14 =>
 (an.cn r14
 (an.bd (F_names_Check L a1.Name) fun r15 =>
 (an.lf out r15))
 (an.lf out 0))))))))))))))))
def F_expr_kind_node  (L : Nat) (a0 : expr_kind) (a1 : api_Expr) : Option Int := T_expr_kind_node (anO _) L a0 a1 some
theorem e101  (L : Nat) (a0 : expr_kind) (a1 : api_Expr) (kk : PV → Prop) : EW (O101 L) L 9 (RS Tryz.f101) c101 [.agg [B a0.u_code], .agg (enapi_Expr a1)] kk = ob (F_expr_kind_node L a0 a1) (fun (x : Int) => kk (I x)) := by
  refine Eq.trans (b := T_expr_kind_node anP L a0 a1 (fun (x : Int) => kk (I x))) (by kernel_rfl) ?_
  generalize (fun (x : Int) => kk (I x)) = Q
  unfold F_expr_kind_node T_expr_kind_node
  dsimp only [anP, anO]
  try simp only [y1, y2, y3, y4, y5 Q, y6, y7, y8 Q, y9, z1, z2, z3, z4]
theorem h101   (L : Nat) (a0 : expr_kind) (a1 : api_Expr) (r : Int) (h : F_expr_kind_node L a0 a1 = some r) : Holds Tryz.prog 101 [.agg [B a0.u_code], .agg (enapi_Expr a1)] (I r) :=
  hE grwOK (s101  L) mixed Tryz.func101 (by kernel_rfl : cFn Tryz.prog inl Tryz.f101 = some c101) (er := fun (x : Int) => I x) (by kernel_rfl) (e101 L a0 a1) h
/-! ### (simulator/expr.kind).nodes -/
noncomputable def c63 : EC := (cFn Tryz.prog inl Tryz.f63).getD .stop
def O63 (rec63 : expr_kind → api_Expr → Option Int) (L : Nat) : Oracle := (orc 63 (A2 (fun (x : Int) => I x) ca_expr_kind ca_api_Expr rec63) (orc 101 (A2 (fun (x : Int) => I x) ca_expr_kind ca_api_Expr (F_expr_kind_node L)) noC))
theorem s63 (rec63 : expr_kind → api_Expr → Option Int) (hr63 : ∀ (y0 : expr_kind) (y1 : api_Expr) (r : Int), rec63 y0 y1 = some r → Holds Tryz.prog 63 [.agg [B y0.u_code], .agg (enapi_Expr y1)] (I r)) (L : Nat) : SoundC Tryz.prog (O63 rec63 L) := (orc_sound (a2 _ hr63) (orc_sound (a2 _ (h101 L)) (noC_sound Tryz.prog)))
def sh63_1 (a1 : api_Expr) (a0 : expr_kind) (v1_0 : Int) (v1_3 : Int) : St := ({ fr := [(0, .any), (1, .any), (2, .loc 2 0), (3, .any), (4, I v1_0), (5, .any), (16, .lst false (.t25 a1.Kids)), (17, I (a1.Kids.length : Int)), (18, I v1_3)], ob := [(2, [B a0.u_code]), (3, (enapi_Expr a1))], base := 0 } : St)
def KK63_1 (a1 : api_Expr) (a0 : expr_kind) (K : Ex → St → Prop) : Nat × (Int × Int) → Prop := fun o => seln o.1 [K .ret (sh63_1 a1 a0 o.2.1 o.2.2), K (.exit 0) (sh63_1 a1 a0 o.2.1 o.2.2)]
def lb_expr_kind_nodes_1 {A : Type} (an : An A) (rec63 : expr_kind → api_Expr → Option Int) (L : Nat) (a1 : api_Expr) (a0 : expr_kind) (rec : Int → Int → A) (out : Nat × (Int × Int) → A) (v1_0 : Int) (v1_3 : Int) : A :=
 (an.cn (decide (v1_3 < (a1.Kids.length : Int)))
 (an.gd ((0 : Int) ≤ v1_3)
 (an.gd (v1_3 < ((a1.Kids.length : Nat) : Int))
 (an.bd (rec63 a0 (api_Expr.cp (a1.Kids.getD (Int.toNat v1_3) default))) fun r2 =>
 (an.cn (r2 != 0)
 (an.lf out (0, (r2, v1_3)))
 (rec v1_0 (w64 (v1_3 + 1)))))))
 (an.lf out (1, (v1_0, v1_3))))
def lp_expr_kind_nodes_1 (rec63 : expr_kind → api_Expr → Option Int) (L : Nat) (a1 : api_Expr) (a0 : expr_kind) : Nat → Int → Int → Option (Nat × (Int × Int))
  | 0, _, _ => none
  | n + 1, v1_0, v1_3 => lb_expr_kind_nodes_1 (anO _) rec63 L a1 a0 (lp_expr_kind_nodes_1 rec63 L a1 a0 n) some v1_0 v1_3
theorem ln63_1 (rec63 : expr_kind → api_Expr → Option Int) (L : Nat) (a1 : api_Expr) (a0 : expr_kind) (g : Int → Int → Option (Nat × (Int × Int))) (Q : Nat × (Int × Int) → Prop) (v1_0 : Int) (v1_3 : Int) : lb_expr_kind_nodes_1 anP rec63 L a1 a0 (fun v1_0 v1_3 => ob (g v1_0 v1_3) Q) Q v1_0 v1_3 = ob (lb_expr_kind_nodes_1 (anO _) rec63 L a1 a0 g some v1_0 v1_3) Q := by
  unfold lb_expr_kind_nodes_1
  dsimp only [anP, anO]
  try simp only [y1, y2, y3, y4, y5 Q, y6, y7, y8 Q, y9, z1, z2, z3, z4]
theorem le63_1 (rec63 : expr_kind → api_Expr → Option Int) (L : Nat) (a1 : api_Expr) (a0 : expr_kind) (n : Nat) (v1_0 : Int) (v1_3 : Int) (K : Ex → St → Prop) : loopN (EV (O63 rec63 L) L 9 c63.r.r.r.r.l.r.r.l.l) [0, 1, 2, 3, 4, 5, 16, 17, 18] [2, 3] n (sh63_1 a1 a0 v1_0 v1_3) K = ob (lp_expr_kind_nodes_1 rec63 L a1 a0 n v1_0 v1_3) (fun o => KK63_1 a1 a0 K o) := by
  induction n generalizing v1_0 v1_3 with
  | zero => rfl
  | succ n ih =>
    refine Eq.trans (b := lb_expr_kind_nodes_1 anP rec63 L a1 a0 (fun v1_0 v1_3 => loopN (EV (O63 rec63 L) L 9 c63.r.r.r.r.l.r.r.l.l) [0, 1, 2, 3, 4, 5, 16, 17, 18] [2, 3] n (sh63_1 a1 a0 v1_0 v1_3) K) (KK63_1 a1 a0 K) v1_0 v1_3) (by kernel_rfl) ?_
    simp only [ih]
    exact ln63_1 rec63 L a1 a0 (lp_expr_kind_nodes_1 rec63 L a1 a0 n) (KK63_1 a1 a0 K) v1_0 v1_3
def kc63_1 (rec63 : expr_kind → api_Expr → Option Int) (L : Nat)  (kk : PV → Prop) : Ex → St → Prop := (kBlock 0 (kSeq (EV (O63 rec63 L) L 9 c63.r.r.r.r.r) (kEnd Tryz.prog (RS Tryz.f63) kk)))
theorem q63_1 (rec63 : expr_kind → api_Expr → Option Int) (L : Nat) (a1 : api_Expr) (a0 : expr_kind) (kk : PV → Prop) (o2 : Nat × (Int × Int)) : KK63_1 a1 a0 (kc63_1 rec63 L kk) o2 =
 (seln o2.1 [(ob (some o2.2.1) (fun (x : Int) => kk (I x))),
 (ob (some 0) (fun (x : Int) => kk (I x)))]) := by kernel_rfl
def T_expr_kind_nodes {A : Type} (an : An A) (rec63 : expr_kind → api_Expr → Option Int) (L : Nat) (a0 : expr_kind) (a1 : api_Expr) (out : Int → A) : A :=
 (an.bd (F_expr_kind_node L a0 (api_Expr.cp a1)) fun r1 =>
 (an.cn (r1 != 0)
 (an.lf out r1)
 (an.bd (lp_expr_kind_nodes_1 rec63 L a1 a0 L 0 0) fun o2 =>
 (an.sl o2.1 [(an.lf out o2.2.1),
 (an.lf out 0)]))))
def B_expr_kind_nodes (rec63 : expr_kind → api_Expr → Option Int) (L : Nat) (a0 : expr_kind) (a1 : api_Expr) : Option Int := T_expr_kind_nodes (anO _) rec63 L a0 a1 some
theorem e63 (rec63 : expr_kind → api_Expr → Option Int) (L : Nat) (a0 : expr_kind) (a1 : api_Expr) (kk : PV → Prop) : EW (O63 rec63 L) L 9 (RS Tryz.f63) c63 [.agg [B a0.u_code], .agg (enapi_Expr a1)] kk = ob (B_expr_kind_nodes rec63 L a0 a1) (fun (x : Int) => kk (I x)) := by
  refine Eq.trans (b := T_expr_kind_nodes anP rec63 L a0 a1 (fun (x : Int) => kk (I x))) ?_ ?_
  · refine Eq.trans (b := (ob (F_expr_kind_node L a0 (api_Expr.cp a1)) fun r1 =>
 (br (r1 != 0)
 (ob (some r1) (fun (x : Int) => kk (I x)))
 (loopN (EV (O63 rec63 L) L 9 c63.r.r.r.r.l.r.r.l.l) [0, 1, 2, 3, 4, 5, 16, 17, 18] [2, 3] L (sh63_1 a1 a0 0 0) (kc63_1 rec63 L kk))))) (by kernel_rfl) ?_
    unfold T_expr_kind_nodes
    dsimp only [anP]
    simp only [le63_1, q63_1]
  generalize (fun (x : Int) => kk (I x)) = Q
  unfold B_expr_kind_nodes T_expr_kind_nodes
  dsimp only [anP, anO]
  try simp only [y1, y2, y3, y4, y5 Q, y6, y7, y8 Q, y9, z1, z2, z3, z4]
theorem b63 (rec63 : expr_kind → api_Expr → Option Int) (hr63 : ∀ (y0 : expr_kind) (y1 : api_Expr) (r : Int), rec63 y0 y1 = some r → Holds Tryz.prog 63 [.agg [B y0.u_code], .agg (enapi_Expr y1)] (I r)) (L : Nat) (a0 : expr_kind) (a1 : api_Expr) (r : Int) (h : B_expr_kind_nodes rec63 L a0 a1 = some r) : Holds Tryz.prog 63 [.agg [B a0.u_code], .agg (enapi_Expr a1)] (I r) :=
  hE grwOK (s63 rec63 hr63 L) mixed Tryz.func63 (by kernel_rfl : cFn Tryz.prog inl Tryz.f63 = some c63) (er := fun (x : Int) => I x) (by kernel_rfl) (e63 rec63 L a0 a1) h
def F_expr_kind_nodes : Nat → expr_kind → api_Expr → Option Int
  | 0, _, _ => none
  | L + 1, a0, a1 => B_expr_kind_nodes (F_expr_kind_nodes L) L a0 a1
theorem hall63 : ∀ L, (∀ (y0 : expr_kind) (y1 : api_Expr) (r : Int), F_expr_kind_nodes L y0 y1 = some r → Holds Tryz.prog 63 [.agg [B y0.u_code], .agg (enapi_Expr y1)] (I r)) := by
  intro L
  induction L with
  | zero => exact fun _ _ r h => (by cases h)
  | succ L ih =>
    have i63 := ih
    exact fun y0 y1 r h => b63 (F_expr_kind_nodes L) i63 L y0 y1 r h
theorem h63 (L : Nat) : ∀ (y0 : expr_kind) (y1 : api_Expr) (r : Int), F_expr_kind_nodes L y0 y1 = some r → Holds Tryz.prog 63 [.agg [B y0.u_code], .agg (enapi_Expr y1)] (I r) := hall63 L
/-! ### (simulator/expr.kind).check -/
noncomputable def c39 : EC := (cFn Tryz.prog inl Tryz.f39).getD .stop
def O39  (L : Nat) : Oracle := (orc 61 (A1 (fun (x : Int) => I x) ca_api_Expr (F_expr_Nodes L)) (orc 62 (A1 (fun (x : Int) => I x) ca_api_Expr (F_expr_Depth L)) (orc 63 (A2 (fun (x : Int) => I x) ca_expr_kind ca_api_Expr (F_expr_kind_nodes L)) noC)))
theorem s39   (L : Nat) : SoundC Tryz.prog (O39 L) := (orc_sound (a1 _ (h61 L)) (orc_sound (a1 _ (h62 L)) (orc_sound (a2 _ (h63 L)) (noC_sound Tryz.prog))))
def T_expr_kind_check {A : Type} (an : An A)  (L : Nat) (a0 : expr_kind) (a1 : api_Expr) (out : Int → A) : A :=
 (an.bd (F_expr_Nodes L (api_Expr.cp a1)) fun r1 =>
 (an.cn (decide (r1 > 60))
 (an.lf out 6)
 (an.bd (F_expr_Depth L (api_Expr.cp a1)) fun r2 =>
 (an.cn (decide (r2 > 12))
 (an.lf out 11)
 (an.bd (F_expr_kind_nodes L a0 (api_Expr.cp a1)) fun r3 =>
 (an.lf out r3))))))
def F_expr_kind_check  (L : Nat) (a0 : expr_kind) (a1 : api_Expr) : Option Int := T_expr_kind_check (anO _) L a0 a1 some
theorem e39  (L : Nat) (a0 : expr_kind) (a1 : api_Expr) (kk : PV → Prop) : EW (O39 L) L 9 (RS Tryz.f39) c39 [.agg [B a0.u_code], .agg (enapi_Expr a1)] kk = ob (F_expr_kind_check L a0 a1) (fun (x : Int) => kk (I x)) := by
  refine Eq.trans (b := T_expr_kind_check anP L a0 a1 (fun (x : Int) => kk (I x))) (by kernel_rfl) ?_
  generalize (fun (x : Int) => kk (I x)) = Q
  unfold F_expr_kind_check T_expr_kind_check
  dsimp only [anP, anO]
  try simp only [y1, y2, y3, y4, y5 Q, y6, y7, y8 Q, y9, z1, z2, z3, z4]
theorem h39   (L : Nat) (a0 : expr_kind) (a1 : api_Expr) (r : Int) (h : F_expr_kind_check L a0 a1 = some r) : Holds Tryz.prog 39 [.agg [B a0.u_code], .agg (enapi_Expr a1)] (I r) :=
  hE grwOK (s39  L) mixed Tryz.func39 (by kernel_rfl : cFn Tryz.prog inl Tryz.f39 = some c39) (er := fun (x : Int) => I x) (by kernel_rfl) (e39 L a0 a1) h
/-! ### simulator/expr.Check -/
noncomputable def c23 : EC := (cFn Tryz.prog inl Tryz.f23).getD .stop
def O23  (L : Nat) : Oracle := (orc 39 (A2 (fun (x : Int) => I x) ca_expr_kind ca_api_Expr (F_expr_kind_check L)) noC)
theorem s23   (L : Nat) : SoundC Tryz.prog (O23 L) := (orc_sound (a2 _ (h39 L)) (noC_sound Tryz.prog))
def T_expr_Check {A : Type} (an : An A)  (L : Nat) (a0 : api_Expr) (out : Int → A) : A :=
 (an.bd (F_expr_kind_check L (⟨false⟩ : expr_kind) (api_Expr.cp a0)) fun r1 =>
 (an.lf out r1))
def F_expr_Check  (L : Nat) (a0 : api_Expr) : Option Int := T_expr_Check (anO _) L a0 some
theorem e23  (L : Nat) (a0 : api_Expr) (kk : PV → Prop) : EW (O23 L) L 9 (RS Tryz.f23) c23 [.agg (enapi_Expr a0)] kk = ob (F_expr_Check L a0) (fun (x : Int) => kk (I x)) := by
  refine Eq.trans (b := T_expr_Check anP L a0 (fun (x : Int) => kk (I x))) (by kernel_rfl) ?_
  generalize (fun (x : Int) => kk (I x)) = Q
  unfold F_expr_Check T_expr_Check
  dsimp only [anP, anO]
  try simp only [y1, y2, y3, y4, y5 Q, y6, y7, y8 Q, y9, z1, z2, z3, z4]
theorem h23   (L : Nat) (a0 : api_Expr) (r : Int) (h : F_expr_Check L a0 = some r) : Holds Tryz.prog 23 [.agg (enapi_Expr a0)] (I r) :=
  hE grwOK (s23  L) mixed Tryz.func23 (by kernel_rfl : cFn Tryz.prog inl Tryz.f23 = some c23) (er := fun (x : Int) => I x) (by kernel_rfl) (e23 L a0) h
/-! ### simulator/bind.value -/
noncomputable def c40 : EC := (cFn Tryz.prog inl Tryz.f40).getD .stop
def O40  (L : Nat) : Oracle := noC
theorem s40   (L : Nat) : SoundC Tryz.prog (O40 L) := (noC_sound Tryz.prog)
def T_bind_value {A : Type} (an : An A)  (L : Nat) (a0 : api_Expr) (out : (Int × Bool) → A) : A :=
 (an.jp (bif (a0.Op == 1) then true
 else (a0.Op == 2)) (fun j => (an.cn (a0.Op == 1)
 (an.ap j true)
 (an.ap j (a0.Op == 2)))) (fun b1 =>
 (an.cn b1
 (an.lf out (a0.N, true))
 (an.jp (bif (a0.Op == 7) then ((a0.Kids.length : Int) == 1)
 else false) (fun j => (an.cn (a0.Op == 7)
 (an.ap j ((a0.Kids.length : Int) == 1))
 (an.ap j false))) (fun b2 =>
 (an.jb (bif b2 then (if (0 : Int) ≤ 0 then
 (if 0 < ((a0.Kids.length : Nat) : Int) then
 (some ((a0.Kids.getD 0 default).Op == 1)) else none) else none)
 else (some false)) (fun j => (an.cn b2
 (an.gd ((0 : Int) ≤ 0)
 (an.gd (0 < ((a0.Kids.length : Nat) : Int))
 (an.lf j ((a0.Kids.getD 0 default).Op == 1))))
 (an.lf j false))) (fun b3 =>
 (an.cn b3
 (an.gd ((0 : Int) ≤ 0)
 (an.gd (0 < ((a0.Kids.length : Nat) : Int))
 (an.lf out ((a0.Kids.getD 0 default).N, true))))
 (an.lf out (0, false))))))))))
def F_bind_value  (L : Nat) (a0 : api_Expr) : Option (Int × Bool) := T_bind_value (anO _) L a0 some
theorem e40  (L : Nat) (a0 : api_Expr) (kk : PV → Prop) : EW (O40 L) L 9 (RS Tryz.f40) c40 [.agg (enapi_Expr a0)] kk = ob (F_bind_value L a0) (fun (x : (Int × Bool)) => kk (.tup [I x.1, B x.2])) := by
  refine Eq.trans (b := T_bind_value anP L a0 (fun (x : (Int × Bool)) => kk (.tup [I x.1, B x.2]))) (by kernel_rfl) ?_
  generalize (fun (x : (Int × Bool)) => kk (.tup [I x.1, B x.2])) = Q
  unfold F_bind_value T_bind_value
  dsimp only [anP, anO]
  try simp only [y1, y2, y3, y4, y5 Q, y6, y7, y8 Q, y9, z1, z2, z3, z4]
  try simp only [z5, z6, y1, y2, y3, y4, y5 Q, y6, y7, y8 Q, y9, z1, z2, z3, z4]
theorem h40   (L : Nat) (a0 : api_Expr) (r : (Int × Bool)) (h : F_bind_value L a0 = some r) : Holds Tryz.prog 40 [.agg (enapi_Expr a0)] (.tup [I r.1, B r.2]) :=
  hE grwOK (s40  L) mixed Tryz.func40 (by kernel_rfl : cFn Tryz.prog inl Tryz.f40 = some c40) (er := fun (x : (Int × Bool)) => .tup [I x.1, B x.2]) (by kernel_rfl) (e40 L a0) h
/-! ### simulator/typing.local -/
noncomputable def c82 : EC := (cFn Tryz.prog inl Tryz.f82).getD .stop
def O82  (L : Nat) : Oracle := noC
theorem s82   (L : Nat) : SoundC Tryz.prog (O82 L) := (noC_sound Tryz.prog)
def sh82_1 (a0 : (List api_Field)) (a1 : ByteArray) (v1_2 : Int) (v1_3 : Bool) (v1_4 : Int) : St := ({ fr := [(0, .lst false (.t134 a0)), (1, S a1), (4, I v1_2), (5, B v1_3), (6, I v1_4)], ob := [], base := 0 } : St)
def KK82_1 (a0 : (List api_Field)) (a1 : ByteArray) (K : Ex → St → Prop) : Nat × (Int × Bool × Int) → Prop := fun o => seln o.1 [K .ret (sh82_1 a0 a1 o.2.1 o.2.2.1 o.2.2.2), K (.exit 0) (sh82_1 a0 a1 o.2.1 o.2.2.1 o.2.2.2)]
def lb_typing_local_1 {A : Type} (an : An A)  (L : Nat) (a0 : (List api_Field)) (a1 : ByteArray) (rec : Int → Bool → Int → A) (out : Nat × (Int × Bool × Int) → A) (v1_2 : Int) (v1_3 : Bool) (v1_4 : Int) : A :=
 (an.cn (decide (v1_4 ≥ 0))
 (an.gd ((0 : Int) ≤ v1_4)
 (an.gd (v1_4 < ((a0.length : Nat) : Int))
 (an.cn (((a0.getD (Int.toNat v1_4) default).Name).toList == a1.toList)
 (an.gd ((0 : Int) ≤ v1_4)
 (an.gd (v1_4 < ((a0.length : Nat) : Int))
 (an.lf out (0, (((a0.getD (Int.toNat v1_4) default).Type_), true, v1_4)))))
 (rec v1_2 v1_3 (w64 (v1_4 - 1))))))
 (an.lf out (1, (v1_2, v1_3, v1_4))))
def lp_typing_local_1  (L : Nat) (a0 : (List api_Field)) (a1 : ByteArray) : Nat → Int → Bool → Int → Option (Nat × (Int × Bool × Int))
  | 0, _, _, _ => none
  | n + 1, v1_2, v1_3, v1_4 => lb_typing_local_1 (anO _)  L a0 a1 (lp_typing_local_1  L a0 a1 n) some v1_2 v1_3 v1_4
theorem ln82_1  (L : Nat) (a0 : (List api_Field)) (a1 : ByteArray) (g : Int → Bool → Int → Option (Nat × (Int × Bool × Int))) (Q : Nat × (Int × Bool × Int) → Prop) (v1_2 : Int) (v1_3 : Bool) (v1_4 : Int) : lb_typing_local_1 anP  L a0 a1 (fun v1_2 v1_3 v1_4 => ob (g v1_2 v1_3 v1_4) Q) Q v1_2 v1_3 v1_4 = ob (lb_typing_local_1 (anO _)  L a0 a1 g some v1_2 v1_3 v1_4) Q := by
  unfold lb_typing_local_1
  dsimp only [anP, anO]
  try simp only [y1, y2, y3, y4, y5 Q, y6, y7, y8 Q, y9, z1, z2, z3, z4]
theorem le82_1  (L : Nat) (a0 : (List api_Field)) (a1 : ByteArray) (n : Nat) (v1_2 : Int) (v1_3 : Bool) (v1_4 : Int) (K : Ex → St → Prop) : loopN (EV (O82 L) L 9 c82.r.r.l.r.r.l.l) [0, 1, 4, 5, 6] [] n (sh82_1 a0 a1 v1_2 v1_3 v1_4) K = ob (lp_typing_local_1  L a0 a1 n v1_2 v1_3 v1_4) (fun o => KK82_1 a0 a1 K o) := by
  induction n generalizing v1_2 v1_3 v1_4 with
  | zero => rfl
  | succ n ih =>
    refine Eq.trans (b := lb_typing_local_1 anP  L a0 a1 (fun v1_2 v1_3 v1_4 => loopN (EV (O82 L) L 9 c82.r.r.l.r.r.l.l) [0, 1, 4, 5, 6] [] n (sh82_1 a0 a1 v1_2 v1_3 v1_4) K) (KK82_1 a0 a1 K) v1_2 v1_3 v1_4) (by kernel_rfl) ?_
    simp only [ih]
    exact ln82_1  L a0 a1 (lp_typing_local_1  L a0 a1 n) (KK82_1 a0 a1 K) v1_2 v1_3 v1_4
def kc82_1  (L : Nat)  (kk : PV → Prop) : Ex → St → Prop := (kBlock 0 (kSeq (EV (O82 L) L 9 c82.r.r.r) (kEnd Tryz.prog (RS Tryz.f82) kk)))
theorem q82_1  (L : Nat) (a0 : (List api_Field)) (a1 : ByteArray) (kk : PV → Prop) (o1 : Nat × (Int × Bool × Int)) : KK82_1 a0 a1 (kc82_1 L kk) o1 =
 (seln o1.1 [(ob (some (o1.2.1, o1.2.2.1)) (fun (x : (Int × Bool)) => kk (.tup [I x.1, B x.2]))),
 (ob (some (0, false)) (fun (x : (Int × Bool)) => kk (.tup [I x.1, B x.2])))]) := by kernel_rfl
def T_typing_local {A : Type} (an : An A)  (L : Nat) (a0 : (List api_Field)) (a1 : ByteArray) (out : (Int × Bool) → A) : A :=
 (an.bd (lp_typing_local_1 L a0 a1 L 0 false (w64 ((a0.length : Int) - 1))) fun o1 =>
 (an.sl o1.1 [(an.lf out (o1.2.1, o1.2.2.1)),
 (an.lf out (0, false))]))
def F_typing_local  (L : Nat) (a0 : (List api_Field)) (a1 : ByteArray) : Option (Int × Bool) := T_typing_local (anO _) L a0 a1 some
theorem e82  (L : Nat) (a0 : (List api_Field)) (a1 : ByteArray) (kk : PV → Prop) : EW (O82 L) L 9 (RS Tryz.f82) c82 [.lst false (.t134 a0), S a1] kk = ob (F_typing_local L a0 a1) (fun (x : (Int × Bool)) => kk (.tup [I x.1, B x.2])) := by
  refine Eq.trans (b := T_typing_local anP L a0 a1 (fun (x : (Int × Bool)) => kk (.tup [I x.1, B x.2]))) ?_ ?_
  · refine Eq.trans (b := (loopN (EV (O82 L) L 9 c82.r.r.l.r.r.l.l) [0, 1, 4, 5, 6] [] L (sh82_1 a0 a1 0 false (w64 ((a0.length : Int) - 1))) (kc82_1 L kk))) (by kernel_rfl) ?_
    unfold T_typing_local
    dsimp only [anP]
    simp only [le82_1, q82_1]
  generalize (fun (x : (Int × Bool)) => kk (.tup [I x.1, B x.2])) = Q
  unfold F_typing_local T_typing_local
  dsimp only [anP, anO]
  try simp only [y1, y2, y3, y4, y5 Q, y6, y7, y8 Q, y9, z1, z2, z3, z4]
theorem h82   (L : Nat) (a0 : (List api_Field)) (a1 : ByteArray) (r : (Int × Bool)) (h : F_typing_local L a0 a1 = some r) : Holds Tryz.prog 82 [.lst false (.t134 a0), S a1] (.tup [I r.1, B r.2]) :=
  hE grwOK (s82  L) mixed Tryz.func82 (by kernel_rfl : cFn Tryz.prog inl Tryz.f82 = some c82) (er := fun (x : (Int × Bool)) => .tup [I x.1, B x.2]) (by kernel_rfl) (e82 L a0 a1) h
/-! ### simulator/typing.Find -/
noncomputable def c47 : EC := (cFn Tryz.prog inl Tryz.f47).getD .stop
def O47  (L : Nat) : Oracle := (orc 82 (A2 (fun (x : (Int × Bool)) => .tup [I x.1, B x.2]) cl134 cS (F_typing_local L)) noC)
theorem s47   (L : Nat) : SoundC Tryz.prog (O47 L) := (orc_sound (a2 _ (h82 L)) (noC_sound Tryz.prog))
def sh47_1 (a1 : ByteArray) (a0 : api_Env) (v1_1 : Int) (v1_2 : Bool) (v1_5 : Int) : St := ({ fr := [(0, .any), (1, S a1), (2, .loc 2 0), (4, I v1_1), (5, B v1_2), (6, .any), (7, .any), (11, .any), (23, .lst false (.t85 a0.Site.Vars)), (24, I (a0.Site.Vars.length : Int)), (25, I v1_5), (39, .any)], ob := [(2, (enapi_Env a0))], base := 0 } : St)
def KK47_1 (a1 : ByteArray) (a0 : api_Env) (K : Ex → St → Prop) : Nat × (Int × Bool × Int) → Prop := fun o => seln o.1 [K .ret (sh47_1 a1 a0 o.2.1 o.2.2.1 o.2.2.2), K (.exit 0) (sh47_1 a1 a0 o.2.1 o.2.2.1 o.2.2.2)]
def lb_typing_Find_1 {A : Type} (an : An A)  (L : Nat) (a1 : ByteArray) (a0 : api_Env) (rec : Int → Bool → Int → A) (out : Nat × (Int × Bool × Int) → A) (v1_1 : Int) (v1_2 : Bool) (v1_5 : Int) : A :=
 (an.cn (decide (v1_5 < (a0.Site.Vars.length : Int)))
 (an.gd ((0 : Int) ≤ v1_5)
 (an.gd (v1_5 < ((a0.Site.Vars.length : Nat) : Int))
 (an.cn (((a0.Site.Vars.getD (Int.toNat v1_5) default).Name).toList == a1.toList)
 (an.lf out (0, (((a0.Site.Vars.getD (Int.toNat v1_5) default).Type_), true, v1_5)))
 (rec v1_1 v1_2 (w64 (v1_5 + 1))))))
 (an.lf out (1, (v1_1, v1_2, v1_5))))
def lp_typing_Find_1  (L : Nat) (a1 : ByteArray) (a0 : api_Env) : Nat → Int → Bool → Int → Option (Nat × (Int × Bool × Int))
  | 0, _, _, _ => none
  | n + 1, v1_1, v1_2, v1_5 => lb_typing_Find_1 (anO _)  L a1 a0 (lp_typing_Find_1  L a1 a0 n) some v1_1 v1_2 v1_5
theorem ln47_1  (L : Nat) (a1 : ByteArray) (a0 : api_Env) (g : Int → Bool → Int → Option (Nat × (Int × Bool × Int))) (Q : Nat × (Int × Bool × Int) → Prop) (v1_1 : Int) (v1_2 : Bool) (v1_5 : Int) : lb_typing_Find_1 anP  L a1 a0 (fun v1_1 v1_2 v1_5 => ob (g v1_1 v1_2 v1_5) Q) Q v1_1 v1_2 v1_5 = ob (lb_typing_Find_1 (anO _)  L a1 a0 g some v1_1 v1_2 v1_5) Q := by
  unfold lb_typing_Find_1
  dsimp only [anP, anO]
  try simp only [y1, y2, y3, y4, y5 Q, y6, y7, y8 Q, y9, z1, z2, z3, z4]
theorem le47_1  (L : Nat) (a1 : ByteArray) (a0 : api_Env) (n : Nat) (v1_1 : Int) (v1_2 : Bool) (v1_5 : Int) (K : Ex → St → Prop) : loopN (EV (O47 L) L 9 c47.r.r.r.r.l.r.r.l.l) [0, 1, 2, 4, 5, 6, 7, 11, 23, 24, 25, 39] [2] n (sh47_1 a1 a0 v1_1 v1_2 v1_5) K = ob (lp_typing_Find_1  L a1 a0 n v1_1 v1_2 v1_5) (fun o => KK47_1 a1 a0 K o) := by
  induction n generalizing v1_1 v1_2 v1_5 with
  | zero => rfl
  | succ n ih =>
    refine Eq.trans (b := lb_typing_Find_1 anP  L a1 a0 (fun v1_1 v1_2 v1_5 => loopN (EV (O47 L) L 9 c47.r.r.r.r.l.r.r.l.l) [0, 1, 2, 4, 5, 6, 7, 11, 23, 24, 25, 39] [2] n (sh47_1 a1 a0 v1_1 v1_2 v1_5) K) (KK47_1 a1 a0 K) v1_1 v1_2 v1_5) (by kernel_rfl) ?_
    simp only [ih]
    exact ln47_1  L a1 a0 (lp_typing_Find_1  L a1 a0 n) (KK47_1 a1 a0 K) v1_1 v1_2 v1_5
def sh47_2 (a1 : ByteArray) (a0 : api_Env) (v2_1 : Int) (v2_2 : Bool) (v2_5 : Int) : St := ({ fr := [(0, .any), (1, S a1), (2, .any), (4, I v2_1), (5, B v2_2), (6, .any), (7, .any), (9, .any), (25, .any), (37, .lst false (.t85 a0.Params)), (38, I (a0.Params.length : Int)), (39, I v2_5)], ob := [(2, (enapi_Env a0))], base := 0 } : St)
def KK47_2 (a1 : ByteArray) (a0 : api_Env) (K : Ex → St → Prop) : Nat × (Int × Bool × Int) → Prop := fun o => seln o.1 [K .ret (sh47_2 a1 a0 o.2.1 o.2.2.1 o.2.2.2), K (.exit 2) (sh47_2 a1 a0 o.2.1 o.2.2.1 o.2.2.2)]
def lb_typing_Find_2 {A : Type} (an : An A)  (L : Nat) (a1 : ByteArray) (a0 : api_Env) (rec : Int → Bool → Int → A) (out : Nat × (Int × Bool × Int) → A) (v2_1 : Int) (v2_2 : Bool) (v2_5 : Int) : A :=
 (an.cn (decide (v2_5 < (a0.Params.length : Int)))
 (an.gd ((0 : Int) ≤ v2_5)
 (an.gd (v2_5 < ((a0.Params.length : Nat) : Int))
 (an.cn (((a0.Params.getD (Int.toNat v2_5) default).Name).toList == a1.toList)
 (an.lf out (0, (((a0.Params.getD (Int.toNat v2_5) default).Type_), true, v2_5)))
 (rec v2_1 v2_2 (w64 (v2_5 + 1))))))
 (an.lf out (1, (v2_1, v2_2, v2_5))))
def lp_typing_Find_2  (L : Nat) (a1 : ByteArray) (a0 : api_Env) : Nat → Int → Bool → Int → Option (Nat × (Int × Bool × Int))
  | 0, _, _, _ => none
  | n + 1, v2_1, v2_2, v2_5 => lb_typing_Find_2 (anO _)  L a1 a0 (lp_typing_Find_2  L a1 a0 n) some v2_1 v2_2 v2_5
theorem ln47_2  (L : Nat) (a1 : ByteArray) (a0 : api_Env) (g : Int → Bool → Int → Option (Nat × (Int × Bool × Int))) (Q : Nat × (Int × Bool × Int) → Prop) (v2_1 : Int) (v2_2 : Bool) (v2_5 : Int) : lb_typing_Find_2 anP  L a1 a0 (fun v2_1 v2_2 v2_5 => ob (g v2_1 v2_2 v2_5) Q) Q v2_1 v2_2 v2_5 = ob (lb_typing_Find_2 (anO _)  L a1 a0 g some v2_1 v2_2 v2_5) Q := by
  unfold lb_typing_Find_2
  dsimp only [anP, anO]
  try simp only [y1, y2, y3, y4, y5 Q, y6, y7, y8 Q, y9, z1, z2, z3, z4]
theorem le47_2  (L : Nat) (a1 : ByteArray) (a0 : api_Env) (n : Nat) (v2_1 : Int) (v2_2 : Bool) (v2_5 : Int) (K : Ex → St → Prop) : loopN (EV (O47 L) L 9 c47.r.r.r.r.r.r.l.r.r.l.l) [0, 1, 2, 4, 5, 6, 7, 9, 25, 37, 38, 39] [2] n (sh47_2 a1 a0 v2_1 v2_2 v2_5) K = ob (lp_typing_Find_2  L a1 a0 n v2_1 v2_2 v2_5) (fun o => KK47_2 a1 a0 K o) := by
  induction n generalizing v2_1 v2_2 v2_5 with
  | zero => rfl
  | succ n ih =>
    refine Eq.trans (b := lb_typing_Find_2 anP  L a1 a0 (fun v2_1 v2_2 v2_5 => loopN (EV (O47 L) L 9 c47.r.r.r.r.r.r.l.r.r.l.l) [0, 1, 2, 4, 5, 6, 7, 9, 25, 37, 38, 39] [2] n (sh47_2 a1 a0 v2_1 v2_2 v2_5) K) (KK47_2 a1 a0 K) v2_1 v2_2 v2_5) (by kernel_rfl) ?_
    simp only [ih]
    exact ln47_2  L a1 a0 (lp_typing_Find_2  L a1 a0 n) (KK47_2 a1 a0 K) v2_1 v2_2 v2_5
def kc47_1  (L : Nat)  (kk : PV → Prop) : Ex → St → Prop := (kBlock 0 (kSeq (EV (O47 L) L 9 c47.r.r.r.r.r) (kEnd Tryz.prog (RS Tryz.f47) kk)))
def kc47_2  (L : Nat)  (kk : PV → Prop) : Ex → St → Prop := (kBlock 2 (kSeq (EV (O47 L) L 9 c47.r.r.r.r.r.r.r) (kEnd Tryz.prog (RS Tryz.f47) kk)))
theorem q47_1  (L : Nat) (a1 : ByteArray) (a0 : api_Env) (kk : PV → Prop) (o2 : Nat × (Int × Bool × Int)) : KK47_1 a1 a0 (kc47_1 L kk) o2 =
 (seln o2.1 [(ob (some (o2.2.1, o2.2.2.1)) (fun (x : (Int × Bool)) => kk (.tup [I x.1, B x.2]))),
 (loopN (EV (O47 L) L 9 c47.r.r.r.r.r.r.l.r.r.l.l) [0, 1, 2, 4, 5, 6, 7, 9, 25, 37, 38, 39] [2] L (sh47_2 a1 a0 o2.2.1 o2.2.2.1 0) (kc47_2 L kk))]) := by kernel_rfl
theorem q47_2  (L : Nat) (a1 : ByteArray) (a0 : api_Env) (kk : PV → Prop) (o3 : Nat × (Int × Bool × Int)) : KK47_2 a1 a0 (kc47_2 L kk) o3 =
 (seln o3.1 [(ob (some (o3.2.1, o3.2.2.1)) (fun (x : (Int × Bool)) => kk (.tup [I x.1, B x.2]))),
 (ob (some (0, false)) (fun (x : (Int × Bool)) => kk (.tup [I x.1, B x.2])))]) := by kernel_rfl
def T_typing_Find {A : Type} (an : An A)  (L : Nat) (a0 : api_Env) (a1 : ByteArray) (out : (Int × Bool) → A) : A :=
 (an.bd (F_typing_local L a0.Locals a1) fun r1 =>
 (an.cn r1.2
 (an.lf out (r1.1, true))
 (an.bd (lp_typing_Find_1 L a1 a0 L 0 false 0) fun o2 =>
 (an.sl o2.1 [(an.lf out (o2.2.1, o2.2.2.1)),
 (an.bd (lp_typing_Find_2 L a1 a0 L o2.2.1 o2.2.2.1 0) fun o3 =>
 (an.sl o3.1 [(an.lf out (o3.2.1, o3.2.2.1)),
 (an.lf out (0, false))]))]))))
def F_typing_Find  (L : Nat) (a0 : api_Env) (a1 : ByteArray) : Option (Int × Bool) := T_typing_Find (anO _) L a0 a1 some
theorem e47  (L : Nat) (a0 : api_Env) (a1 : ByteArray) (kk : PV → Prop) : EW (O47 L) L 9 (RS Tryz.f47) c47 [.agg (enapi_Env a0), S a1] kk = ob (F_typing_Find L a0 a1) (fun (x : (Int × Bool)) => kk (.tup [I x.1, B x.2])) := by
  refine Eq.trans (b := T_typing_Find anP L a0 a1 (fun (x : (Int × Bool)) => kk (.tup [I x.1, B x.2]))) ?_ ?_
  · refine Eq.trans (b := (ob (F_typing_local L a0.Locals a1) fun r1 =>
 (br r1.2
 (ob (some (r1.1, true)) (fun (x : (Int × Bool)) => kk (.tup [I x.1, B x.2])))
 (loopN (EV (O47 L) L 9 c47.r.r.r.r.l.r.r.l.l) [0, 1, 2, 4, 5, 6, 7, 11, 23, 24, 25, 39] [2] L (sh47_1 a1 a0 0 false 0) (kc47_1 L kk))))) (by kernel_rfl) ?_
    unfold T_typing_Find
    dsimp only [anP]
    simp only [le47_1, le47_2, q47_1, q47_2]
  generalize (fun (x : (Int × Bool)) => kk (.tup [I x.1, B x.2])) = Q
  unfold F_typing_Find T_typing_Find
  dsimp only [anP, anO]
  try simp only [y1, y2, y3, y4, y5 Q, y6, y7, y8 Q, y9, z1, z2, z3, z4]
theorem h47   (L : Nat) (a0 : api_Env) (a1 : ByteArray) (r : (Int × Bool)) (h : F_typing_Find L a0 a1 = some r) : Holds Tryz.prog 47 [.agg (enapi_Env a0), S a1] (.tup [I r.1, B r.2]) :=
  hE grwOK (s47  L) mixed Tryz.func47 (by kernel_rfl : cFn Tryz.prog inl Tryz.f47 = some c47) (er := fun (x : (Int × Bool)) => .tup [I x.1, B x.2]) (by kernel_rfl) (e47 L a0 a1) h
/-! ### slices.Index[[]string,string] -/
noncomputable def c120 : EC := (cFn Tryz.prog inl Tryz.f120).getD .stop
def O120  (L : Nat) : Oracle := noC
theorem s120   (L : Nat) : SoundC Tryz.prog (O120 L) := (noC_sound Tryz.prog)
def sh120_1 (a0 : (List ByteArray)) (a1 : ByteArray) (v1_2 : Int) (v1_4 : Int) : St := ({ fr := [(0, .lst false (.t9 a0)), (1, S a1), (4, I v1_2), (7, I (a0.length : Int)), (8, I v1_4)], ob := [], base := 0 } : St)
def KK120_1 (a0 : (List ByteArray)) (a1 : ByteArray) (K : Ex → St → Prop) : Nat × (Int × Int) → Prop := fun o => seln o.1 [K .ret (sh120_1 a0 a1 o.2.1 o.2.2), K (.exit 0) (sh120_1 a0 a1 o.2.1 o.2.2)]
def lb_slices_Index_string_1 {A : Type} (an : An A)  (L : Nat) (a0 : (List ByteArray)) (a1 : ByteArray) (rec : Int → Int → A) (out : Nat × (Int × Int) → A) (v1_2 : Int) (v1_4 : Int) : A :=
 (an.cn (decide (v1_4 < (a0.length : Int)))
 (an.gd ((0 : Int) ≤ v1_4)
 (an.gd (v1_4 < ((a0.length : Nat) : Int))
 (an.cn (a1.toList == (a0.getD (Int.toNat v1_4) default).toList)
 (an.lf out (0, (v1_4, v1_4)))
 (rec v1_2 (w64 (v1_4 + 1))))))
 (an.lf out (1, (v1_2, v1_4))))
def lp_slices_Index_string_1  (L : Nat) (a0 : (List ByteArray)) (a1 : ByteArray) : Nat → Int → Int → Option (Nat × (Int × Int))
  | 0, _, _ => none
  | n + 1, v1_2, v1_4 => lb_slices_Index_string_1 (anO _)  L a0 a1 (lp_slices_Index_string_1  L a0 a1 n) some v1_2 v1_4
theorem ln120_1  (L : Nat) (a0 : (List ByteArray)) (a1 : ByteArray) (g : Int → Int → Option (Nat × (Int × Int))) (Q : Nat × (Int × Int) → Prop) (v1_2 : Int) (v1_4 : Int) : lb_slices_Index_string_1 anP  L a0 a1 (fun v1_2 v1_4 => ob (g v1_2 v1_4) Q) Q v1_2 v1_4 = ob (lb_slices_Index_string_1 (anO _)  L a0 a1 g some v1_2 v1_4) Q := by
  unfold lb_slices_Index_string_1
  dsimp only [anP, anO]
  try simp only [y1, y2, y3, y4, y5 Q, y6, y7, y8 Q, y9, z1, z2, z3, z4]
theorem le120_1  (L : Nat) (a0 : (List ByteArray)) (a1 : ByteArray) (n : Nat) (v1_2 : Int) (v1_4 : Int) (K : Ex → St → Prop) : loopN (EV (O120 L) L 9 c120.r.r.l.r.r.l.l) [0, 1, 4, 7, 8] [] n (sh120_1 a0 a1 v1_2 v1_4) K = ob (lp_slices_Index_string_1  L a0 a1 n v1_2 v1_4) (fun o => KK120_1 a0 a1 K o) := by
  induction n generalizing v1_2 v1_4 with
  | zero => rfl
  | succ n ih =>
    refine Eq.trans (b := lb_slices_Index_string_1 anP  L a0 a1 (fun v1_2 v1_4 => loopN (EV (O120 L) L 9 c120.r.r.l.r.r.l.l) [0, 1, 4, 7, 8] [] n (sh120_1 a0 a1 v1_2 v1_4) K) (KK120_1 a0 a1 K) v1_2 v1_4) (by kernel_rfl) ?_
    simp only [ih]
    exact ln120_1  L a0 a1 (lp_slices_Index_string_1  L a0 a1 n) (KK120_1 a0 a1 K) v1_2 v1_4
def kc120_1  (L : Nat)  (kk : PV → Prop) : Ex → St → Prop := (kBlock 0 (kSeq (EV (O120 L) L 9 c120.r.r.r) (kEnd Tryz.prog (RS Tryz.f120) kk)))
theorem q120_1  (L : Nat) (a0 : (List ByteArray)) (a1 : ByteArray) (kk : PV → Prop) (o1 : Nat × (Int × Int)) : KK120_1 a0 a1 (kc120_1 L kk) o1 =
 (seln o1.1 [(ob (some o1.2.1) (fun (x : Int) => kk (I x))),
 (ob (some (-1)) (fun (x : Int) => kk (I x)))]) := by kernel_rfl
def T_slices_Index_string {A : Type} (an : An A)  (L : Nat) (a0 : (List ByteArray)) (a1 : ByteArray) (out : Int → A) : A :=
 (an.bd (lp_slices_Index_string_1 L a0 a1 L 0 0) fun o1 =>
 (an.sl o1.1 [(an.lf out o1.2.1),
 (an.lf out (-1))]))
def F_slices_Index_string  (L : Nat) (a0 : (List ByteArray)) (a1 : ByteArray) : Option Int := T_slices_Index_string (anO _) L a0 a1 some
theorem e120  (L : Nat) (a0 : (List ByteArray)) (a1 : ByteArray) (kk : PV → Prop) : EW (O120 L) L 9 (RS Tryz.f120) c120 [.lst false (.t9 a0), S a1] kk = ob (F_slices_Index_string L a0 a1) (fun (x : Int) => kk (I x)) := by
  refine Eq.trans (b := T_slices_Index_string anP L a0 a1 (fun (x : Int) => kk (I x))) ?_ ?_
  · refine Eq.trans (b := (loopN (EV (O120 L) L 9 c120.r.r.l.r.r.l.l) [0, 1, 4, 7, 8] [] L (sh120_1 a0 a1 0 0) (kc120_1 L kk))) (by kernel_rfl) ?_
    unfold T_slices_Index_string
    dsimp only [anP]
    simp only [le120_1, q120_1]
  generalize (fun (x : Int) => kk (I x)) = Q
  unfold F_slices_Index_string T_slices_Index_string
  dsimp only [anP, anO]
  try simp only [y1, y2, y3, y4, y5 Q, y6, y7, y8 Q, y9, z1, z2, z3, z4]
theorem h120   (L : Nat) (a0 : (List ByteArray)) (a1 : ByteArray) (r : Int) (h : F_slices_Index_string L a0 a1 = some r) : Holds Tryz.prog 120 [.lst false (.t9 a0), S a1] (I r) :=
  hE grwOK (s120  L) mixed Tryz.func120 (by kernel_rfl : cFn Tryz.prog inl Tryz.f120 = some c120) (er := fun (x : Int) => I x) (by kernel_rfl) (e120 L a0 a1) h
noncomputable def c174 : EC := (cFn Tryz.prog inl Tryz.f174).getD .stop
/-! ### simulator/model.Routine -/
noncomputable def c121 : EC := (cFn Tryz.prog inl Tryz.f121).getD .stop
def O121  (L : Nat) : Oracle := noC
theorem s121   (L : Nat) : SoundC Tryz.prog (O121 L) := (noC_sound Tryz.prog)
def sh121_1 (p1_0 : List api_Routine) (p1_1 : api_SiteDecl) (p1_2 : ByteArray) (v1_1 : Int) (v1_3 : Int) : St := ({ fr := [(0, .lst false (.t77 p1_0)), (1, .clo 175 0 [.loc 3 0]), (4, I v1_1), (7, I (p1_0.length : Int)), (8, I v1_3)], ob := [(2, (enapi_SiteDecl p1_1)), (3, [S p1_2])], base := 4 } : St)
def KK121_1 (p1_0 : List api_Routine) (p1_1 : api_SiteDecl) (p1_2 : ByteArray) (K : Ex → St → Prop) : Nat × (Int × Int) → Prop := fun o => seln o.1 [K .ret (sh121_1 p1_0 p1_1 p1_2 o.2.1 o.2.2), K (.exit 0) (sh121_1 p1_0 p1_1 p1_2 o.2.1 o.2.2)]
def lb_model_Routine_1 {A : Type} (an : An A)  (L : Nat) (p1_0 : List api_Routine) (p1_1 : api_SiteDecl) (p1_2 : ByteArray) (rec : Int → Int → A) (out : Nat × (Int × Int) → A) (v1_1 : Int) (v1_3 : Int) : A :=
 (an.cn (decide (v1_3 < (p1_0.length : Int)))
 (an.gd ((0 : Int) ≤ v1_3)
 (an.gd (v1_3 < ((p1_0.length : Nat) : Int))
 (an.cn (((p1_0.getD (Int.toNat v1_3) default).Name).toList == p1_2.toList)
 (an.lf out (0, (v1_3, v1_3)))
 (rec v1_1 (w64 (v1_3 + 1))))))
 (an.lf out (1, (v1_1, v1_3))))
def lp_model_Routine_1  (L : Nat) (p1_0 : List api_Routine) (p1_1 : api_SiteDecl) (p1_2 : ByteArray) : Nat → Int → Int → Option (Nat × (Int × Int))
  | 0, _, _ => none
  | n + 1, v1_1, v1_3 => lb_model_Routine_1 (anO _)  L p1_0 p1_1 p1_2 (lp_model_Routine_1  L p1_0 p1_1 p1_2 n) some v1_1 v1_3
theorem ln121_1  (L : Nat) (p1_0 : List api_Routine) (p1_1 : api_SiteDecl) (p1_2 : ByteArray) (g : Int → Int → Option (Nat × (Int × Int))) (Q : Nat × (Int × Int) → Prop) (v1_1 : Int) (v1_3 : Int) : lb_model_Routine_1 anP  L p1_0 p1_1 p1_2 (fun v1_1 v1_3 => ob (g v1_1 v1_3) Q) Q v1_1 v1_3 = ob (lb_model_Routine_1 (anO _)  L p1_0 p1_1 p1_2 g some v1_1 v1_3) Q := by
  unfold lb_model_Routine_1
  dsimp only [anP, anO]
  try simp only [y1, y2, y3, y4, y5 Q, y6, y7, y8 Q, y9, z1, z2, z3, z4]
theorem le121_1  (L : Nat) (p1_0 : List api_Routine) (p1_1 : api_SiteDecl) (p1_2 : ByteArray) (n : Nat) (v1_1 : Int) (v1_3 : Int) (K : Ex → St → Prop) : loopN (EV (O121 L) L 8 c174.r.r.l.r.r.l.l) [0, 1, 4, 7, 8] [2, 3] n (sh121_1 p1_0 p1_1 p1_2 v1_1 v1_3) K = ob (lp_model_Routine_1  L p1_0 p1_1 p1_2 n v1_1 v1_3) (fun o => KK121_1 p1_0 p1_1 p1_2 K o) := by
  induction n generalizing v1_1 v1_3 with
  | zero => rfl
  | succ n ih =>
    refine Eq.trans (b := lb_model_Routine_1 anP  L p1_0 p1_1 p1_2 (fun v1_1 v1_3 => loopN (EV (O121 L) L 8 c174.r.r.l.r.r.l.l) [0, 1, 4, 7, 8] [2, 3] n (sh121_1 p1_0 p1_1 p1_2 v1_1 v1_3) K) (KK121_1 p1_0 p1_1 p1_2 K) v1_1 v1_3) (by kernel_rfl) ?_
    simp only [ih]
    exact ln121_1  L p1_0 p1_1 p1_2 (lp_model_Routine_1  L p1_0 p1_1 p1_2 n) (KK121_1 p1_0 p1_1 p1_2 K) v1_1 v1_3
def ia121_1 (p1_0 : List api_Routine) (p1_1 : api_SiteDecl) (p1_2 : ByteArray) : List PV := [.lst false (.t77 p1_0), .clo 175 0 [.loc 3 0]]
def io121_1 (p1_0 : List api_Routine) (p1_1 : api_SiteDecl) (p1_2 : ByteArray) : List (Nat × List PV) := [(2, (enapi_SiteDecl p1_1)), (3, [S p1_2])]
def KI121_1 (p1_0 : List api_Routine) (p1_1 : api_SiteDecl) (p1_2 : ByteArray) (k : PV → List (Nat × List PV) → Prop) : Int → Prop := fun o => k (I o) [(2, (enapi_SiteDecl p1_1)), (3, [S p1_2])]
def ib_model_Routine_1 {A : Type} (an : An A)  (L : Nat) (p1_0 : List api_Routine) (p1_1 : api_SiteDecl) (p1_2 : ByteArray) (out : Int → A) : A :=
 (an.bd (lp_model_Routine_1 L p1_0 p1_1 p1_2 L 0 0) fun o1 =>
 (an.sl o1.1 [(an.lf out o1.2.1),
 (an.lf out (-1))]))
def ic_model_Routine_1  (L : Nat) (p1_0 : List api_Routine) (p1_1 : api_SiteDecl) (p1_2 : ByteArray) : Option Int := ib_model_Routine_1 (anO _)  L p1_0 p1_1 p1_2 some
def kc121_1  (L : Nat)  (p1_0 : List api_Routine) (p1_1 : api_SiteDecl) (p1_2 : ByteArray) (k : PV → List (Nat × List PV) → Prop) : Ex → St → Prop := (kBlock 0 (kSeq (EV (O121 L) L 8 c174.r.r.r) (kEndI Tryz.prog (RS Tryz.f174) k)))
theorem q121_1  (L : Nat)  (p1_0 : List api_Routine) (p1_1 : api_SiteDecl) (p1_2 : ByteArray) (k : PV → List (Nat × List PV) → Prop) (o1 : Nat × (Int × Int)) : KK121_1 p1_0 p1_1 p1_2 (kc121_1 L p1_0 p1_1 p1_2 k) o1 =
 (seln o1.1 [(ob (some o1.2.1) (KI121_1 p1_0 p1_1 p1_2 k)),
 (ob (some (-1)) (KI121_1 p1_0 p1_1 p1_2 k))]) := by kernel_rfl
theorem iE121_1  (L : Nat) (p1_0 : List api_Routine) (p1_1 : api_SiteDecl) (p1_2 : ByteArray) (k : PV → List (Nat × List PV) → Prop) : YO (O121 L) L 9 174 (ia121_1 p1_0 p1_1 p1_2) (io121_1 p1_0 p1_1 p1_2) k = ob (ic_model_Routine_1  L p1_0 p1_1 p1_2) (fun o => KI121_1 p1_0 p1_1 p1_2 k o) := by
  refine (Yo_step _ _ _ jn4 _ _ _ _ _ _ _).trans ?_
  refine Eq.trans (b := ib_model_Routine_1 anP  L p1_0 p1_1 p1_2 (KI121_1 p1_0 p1_1 p1_2 k)) ?_ ?_
  · refine Eq.trans (b := (loopN (EV (O121 L) L 8 c174.r.r.l.r.r.l.l) [0, 1, 4, 7, 8] [2, 3] L (sh121_1 p1_0 p1_1 p1_2 0 0) (kc121_1 L p1_0 p1_1 p1_2 k))) (by kernel_rfl) ?_
    unfold ib_model_Routine_1
    dsimp only [anP]
    simp only [le121_1, q121_1]
  generalize KI121_1 p1_0 p1_1 p1_2 k = Q
  unfold ic_model_Routine_1 ib_model_Routine_1
  dsimp only [anP, anO]
  try simp only [y1, y2, y3, y4, y5 Q, y6, y7, y8 Q, y9, z1, z2, z3, z4]
def kc121_2  (L : Nat) (a0 : api_SiteDecl) (a1 : ByteArray) (kk : PV → Prop) : PV → List (Nat × List PV) → Prop := (kCallS Tryz.prog (O121 L) (EI (O121 L) L 9) 1 (List.drop 4 c121.r.r.l.ops) ({ fr := [(7, .clo 175 0 [.loc 3 0]), (6, .lst false (.t77 a0.Routines)), (5, .loc 2 10), (2, .loc 2 0), (3, .loc 3 0), (4, I 0)], ob := [(2, (enapi_SiteDecl a0)), (3, [S a1])], base := 0 } : St) (some 8) (fun st9 => (kSeq (EV (O121 L) L 9 c121.r.r.r) (kEnd Tryz.prog (RS Tryz.f121) kk)) .normal st9))
theorem q121_2  (L : Nat) (a0 : api_SiteDecl) (a1 : ByteArray) (kk : PV → Prop) (o1 : Int) : KI121_1 a0.Routines a0 a1 (kc121_2 L a0 a1 kk) o1 =
 (ob (some o1) (fun (x : Int) => kk (I x))) := by kernel_rfl
def T_model_Routine {A : Type} (an : An A)  (L : Nat) (a0 : api_SiteDecl) (a1 : ByteArray) (out : Int → A) : A :=
 (an.bd (ic_model_Routine_1 L a0.Routines a0 a1) fun o1 =>
 (an.lf out o1))
def F_model_Routine  (L : Nat) (a0 : api_SiteDecl) (a1 : ByteArray) : Option Int := T_model_Routine (anO _) L a0 a1 some
theorem e121  (L : Nat) (a0 : api_SiteDecl) (a1 : ByteArray) (kk : PV → Prop) : EW (O121 L) L 9 (RS Tryz.f121) c121 [.agg (enapi_SiteDecl a0), S a1] kk = ob (F_model_Routine L a0 a1) (fun (x : Int) => kk (I x)) := by
  refine Eq.trans (b := T_model_Routine anP L a0 a1 (fun (x : Int) => kk (I x))) ?_ ?_
  · refine Eq.trans (b := (YO (O121 L) L 9 174 (ia121_1 a0.Routines a0 a1) (io121_1 a0.Routines a0 a1) (kc121_2 L a0 a1 kk))) (by kernel_rfl) ?_
    unfold T_model_Routine
    dsimp only [anP]
    simp only [iE121_1, q121_2]
  generalize (fun (x : Int) => kk (I x)) = Q
  unfold F_model_Routine T_model_Routine
  dsimp only [anP, anO]
  try simp only [y1, y2, y3, y4, y5 Q, y6, y7, y8 Q, y9, z1, z2, z3, z4]
theorem h121   (L : Nat) (a0 : api_SiteDecl) (a1 : ByteArray) (r : Int) (h : F_model_Routine L a0 a1 = some r) : Holds Tryz.prog 121 [.agg (enapi_SiteDecl a0), S a1] (I r) :=
  hE grwOK (s121  L) mixed Tryz.func121 (by kernel_rfl : cFn Tryz.prog inl Tryz.f121 = some c121) (er := fun (x : Int) => I x) (by kernel_rfl) (e121 L a0 a1) h
noncomputable def c35 : EC := (cFn Tryz.prog inl Tryz.f35).getD .stop
noncomputable def c114 : EC := (cFn Tryz.prog inl Tryz.f114).getD .stop
noncomputable def c116 : EC := (cFn Tryz.prog inl Tryz.f116).getD .stop
noncomputable def c118 : EC := (cFn Tryz.prog inl Tryz.f118).getD .stop
/-! ### simulator/model.place -/
noncomputable def c83 : EC := (cFn Tryz.prog inl Tryz.f83).getD .stop
def O83  (L : Nat) : Oracle := (orc 120 (A2 (fun (x : Int) => I x) cl9 cS (F_slices_Index_string L)) (orc 121 (A2 (fun (x : Int) => I x) ca_api_SiteDecl cS (F_model_Routine L)) noC))
theorem s83   (L : Nat) : SoundC Tryz.prog (O83 L) := (orc_sound (a2 _ (h120 L)) (orc_sound (a2 _ (h121 L)) (noC_sound Tryz.prog)))
def sh83_1 (p1_0 : List api_Value) (p1_1 : api_SiteDecl) (p1_2 : ByteArray) (v1_1 : Int) (v1_3 : Int) : St := ({ fr := [(0, .lst false (.t85 p1_0)), (1, .clo 113 0 [.loc 3 0]), (4, I v1_1), (7, I (p1_0.length : Int)), (8, I v1_3)], ob := [(2, (enapi_SiteDecl p1_1)), (3, [S p1_2])], base := 4 } : St)
def KK83_1 (p1_0 : List api_Value) (p1_1 : api_SiteDecl) (p1_2 : ByteArray) (K : Ex → St → Prop) : Nat × (Int × Int) → Prop := fun o => seln o.1 [K .ret (sh83_1 p1_0 p1_1 p1_2 o.2.1 o.2.2), K (.exit 0) (sh83_1 p1_0 p1_1 p1_2 o.2.1 o.2.2)]
def lb_model_place_1 {A : Type} (an : An A)  (L : Nat) (p1_0 : List api_Value) (p1_1 : api_SiteDecl) (p1_2 : ByteArray) (rec : Int → Int → A) (out : Nat × (Int × Int) → A) (v1_1 : Int) (v1_3 : Int) : A :=
 (an.cn (decide (v1_3 < (p1_0.length : Int)))
 (an.gd ((0 : Int) ≤ v1_3)
 (an.gd (v1_3 < ((p1_0.length : Nat) : Int))
 (an.cn (((p1_0.getD (Int.toNat v1_3) default).Name).toList == p1_2.toList)
 (an.lf out (0, (v1_3, v1_3)))
 (rec v1_1 (w64 (v1_3 + 1))))))
 (an.lf out (1, (v1_1, v1_3))))
def lp_model_place_1  (L : Nat) (p1_0 : List api_Value) (p1_1 : api_SiteDecl) (p1_2 : ByteArray) : Nat → Int → Int → Option (Nat × (Int × Int))
  | 0, _, _ => none
  | n + 1, v1_1, v1_3 => lb_model_place_1 (anO _)  L p1_0 p1_1 p1_2 (lp_model_place_1  L p1_0 p1_1 p1_2 n) some v1_1 v1_3
theorem ln83_1  (L : Nat) (p1_0 : List api_Value) (p1_1 : api_SiteDecl) (p1_2 : ByteArray) (g : Int → Int → Option (Nat × (Int × Int))) (Q : Nat × (Int × Int) → Prop) (v1_1 : Int) (v1_3 : Int) : lb_model_place_1 anP  L p1_0 p1_1 p1_2 (fun v1_1 v1_3 => ob (g v1_1 v1_3) Q) Q v1_1 v1_3 = ob (lb_model_place_1 (anO _)  L p1_0 p1_1 p1_2 g some v1_1 v1_3) Q := by
  unfold lb_model_place_1
  dsimp only [anP, anO]
  try simp only [y1, y2, y3, y4, y5 Q, y6, y7, y8 Q, y9, z1, z2, z3, z4]
theorem le83_1  (L : Nat) (p1_0 : List api_Value) (p1_1 : api_SiteDecl) (p1_2 : ByteArray) (n : Nat) (v1_1 : Int) (v1_3 : Int) (K : Ex → St → Prop) : loopN (EV (O83 L) L 8 c35.r.r.l.r.r.l.l) [0, 1, 4, 7, 8] [2, 3] n (sh83_1 p1_0 p1_1 p1_2 v1_1 v1_3) K = ob (lp_model_place_1  L p1_0 p1_1 p1_2 n v1_1 v1_3) (fun o => KK83_1 p1_0 p1_1 p1_2 K o) := by
  induction n generalizing v1_1 v1_3 with
  | zero => rfl
  | succ n ih =>
    refine Eq.trans (b := lb_model_place_1 anP  L p1_0 p1_1 p1_2 (fun v1_1 v1_3 => loopN (EV (O83 L) L 8 c35.r.r.l.r.r.l.l) [0, 1, 4, 7, 8] [2, 3] n (sh83_1 p1_0 p1_1 p1_2 v1_1 v1_3) K) (KK83_1 p1_0 p1_1 p1_2 K) v1_1 v1_3) (by kernel_rfl) ?_
    simp only [ih]
    exact ln83_1  L p1_0 p1_1 p1_2 (lp_model_place_1  L p1_0 p1_1 p1_2 n) (KK83_1 p1_0 p1_1 p1_2 K) v1_1 v1_3
def ia83_1 (p1_0 : List api_Value) (p1_1 : api_SiteDecl) (p1_2 : ByteArray) : List PV := [.lst false (.t85 p1_0), .clo 113 0 [.loc 3 0]]
def io83_1 (p1_0 : List api_Value) (p1_1 : api_SiteDecl) (p1_2 : ByteArray) : List (Nat × List PV) := [(2, (enapi_SiteDecl p1_1)), (3, [S p1_2])]
def KI83_1 (p1_0 : List api_Value) (p1_1 : api_SiteDecl) (p1_2 : ByteArray) (k : PV → List (Nat × List PV) → Prop) : Int → Prop := fun o => k (I o) [(2, (enapi_SiteDecl p1_1)), (3, [S p1_2])]
def ib_model_place_1 {A : Type} (an : An A)  (L : Nat) (p1_0 : List api_Value) (p1_1 : api_SiteDecl) (p1_2 : ByteArray) (out : Int → A) : A :=
 (an.bd (lp_model_place_1 L p1_0 p1_1 p1_2 L 0 0) fun o1 =>
 (an.sl o1.1 [(an.lf out o1.2.1),
 (an.lf out (-1))]))
def ic_model_place_1  (L : Nat) (p1_0 : List api_Value) (p1_1 : api_SiteDecl) (p1_2 : ByteArray) : Option Int := ib_model_place_1 (anO _)  L p1_0 p1_1 p1_2 some
def kc83_1  (L : Nat)  (p1_0 : List api_Value) (p1_1 : api_SiteDecl) (p1_2 : ByteArray) (k : PV → List (Nat × List PV) → Prop) : Ex → St → Prop := (kBlock 0 (kSeq (EV (O83 L) L 8 c35.r.r.r) (kEndI Tryz.prog (RS Tryz.f35) k)))
theorem q83_1  (L : Nat)  (p1_0 : List api_Value) (p1_1 : api_SiteDecl) (p1_2 : ByteArray) (k : PV → List (Nat × List PV) → Prop) (o1 : Nat × (Int × Int)) : KK83_1 p1_0 p1_1 p1_2 (kc83_1 L p1_0 p1_1 p1_2 k) o1 =
 (seln o1.1 [(ob (some o1.2.1) (KI83_1 p1_0 p1_1 p1_2 k)),
 (ob (some (-1)) (KI83_1 p1_0 p1_1 p1_2 k))]) := by kernel_rfl
theorem iE83_1  (L : Nat) (p1_0 : List api_Value) (p1_1 : api_SiteDecl) (p1_2 : ByteArray) (k : PV → List (Nat × List PV) → Prop) : YO (O83 L) L 9 35 (ia83_1 p1_0 p1_1 p1_2) (io83_1 p1_0 p1_1 p1_2) k = ob (ic_model_place_1  L p1_0 p1_1 p1_2) (fun o => KI83_1 p1_0 p1_1 p1_2 k o) := by
  refine (Yo_step _ _ _ jn4 _ _ _ _ _ _ _).trans ?_
  refine Eq.trans (b := ib_model_place_1 anP  L p1_0 p1_1 p1_2 (KI83_1 p1_0 p1_1 p1_2 k)) ?_ ?_
  · refine Eq.trans (b := (loopN (EV (O83 L) L 8 c35.r.r.l.r.r.l.l) [0, 1, 4, 7, 8] [2, 3] L (sh83_1 p1_0 p1_1 p1_2 0 0) (kc83_1 L p1_0 p1_1 p1_2 k))) (by kernel_rfl) ?_
    unfold ib_model_place_1
    dsimp only [anP]
    simp only [le83_1, q83_1]
  generalize KI83_1 p1_0 p1_1 p1_2 k = Q
  unfold ic_model_place_1 ib_model_place_1
  dsimp only [anP, anO]
  try simp only [y1, y2, y3, y4, y5 Q, y6, y7, y8 Q, y9, z1, z2, z3, z4]
def sh83_2 (p2_0 : List api_ResourceDecl) (p2_1 : api_SiteDecl) (p2_2 : ByteArray) (v2_1 : Int) (v2_3 : Int) : St := ({ fr := [(0, .lst false (.t159 p2_0)), (1, .clo 115 0 [.loc 3 0]), (4, I v2_1), (7, I (p2_0.length : Int)), (8, I v2_3)], ob := [(2, (enapi_SiteDecl p2_1)), (3, [S p2_2])], base := 4 } : St)
def KK83_2 (p2_0 : List api_ResourceDecl) (p2_1 : api_SiteDecl) (p2_2 : ByteArray) (K : Ex → St → Prop) : Nat × (Int × Int) → Prop := fun o => seln o.1 [K .ret (sh83_2 p2_0 p2_1 p2_2 o.2.1 o.2.2), K (.exit 0) (sh83_2 p2_0 p2_1 p2_2 o.2.1 o.2.2)]
def lb_model_place_2 {A : Type} (an : An A)  (L : Nat) (p2_0 : List api_ResourceDecl) (p2_1 : api_SiteDecl) (p2_2 : ByteArray) (rec : Int → Int → A) (out : Nat × (Int × Int) → A) (v2_1 : Int) (v2_3 : Int) : A :=
 (an.cn (decide (v2_3 < (p2_0.length : Int)))
 (an.gd ((0 : Int) ≤ v2_3)
 (an.gd (v2_3 < ((p2_0.length : Nat) : Int))
 (an.cn (((p2_0.getD (Int.toNat v2_3) default).Name).toList == p2_2.toList)
 (an.lf out (0, (v2_3, v2_3)))
 (rec v2_1 (w64 (v2_3 + 1))))))
 (an.lf out (1, (v2_1, v2_3))))
def lp_model_place_2  (L : Nat) (p2_0 : List api_ResourceDecl) (p2_1 : api_SiteDecl) (p2_2 : ByteArray) : Nat → Int → Int → Option (Nat × (Int × Int))
  | 0, _, _ => none
  | n + 1, v2_1, v2_3 => lb_model_place_2 (anO _)  L p2_0 p2_1 p2_2 (lp_model_place_2  L p2_0 p2_1 p2_2 n) some v2_1 v2_3
theorem ln83_2  (L : Nat) (p2_0 : List api_ResourceDecl) (p2_1 : api_SiteDecl) (p2_2 : ByteArray) (g : Int → Int → Option (Nat × (Int × Int))) (Q : Nat × (Int × Int) → Prop) (v2_1 : Int) (v2_3 : Int) : lb_model_place_2 anP  L p2_0 p2_1 p2_2 (fun v2_1 v2_3 => ob (g v2_1 v2_3) Q) Q v2_1 v2_3 = ob (lb_model_place_2 (anO _)  L p2_0 p2_1 p2_2 g some v2_1 v2_3) Q := by
  unfold lb_model_place_2
  dsimp only [anP, anO]
  try simp only [y1, y2, y3, y4, y5 Q, y6, y7, y8 Q, y9, z1, z2, z3, z4]
theorem le83_2  (L : Nat) (p2_0 : List api_ResourceDecl) (p2_1 : api_SiteDecl) (p2_2 : ByteArray) (n : Nat) (v2_1 : Int) (v2_3 : Int) (K : Ex → St → Prop) : loopN (EV (O83 L) L 8 c114.r.r.l.r.r.l.l) [0, 1, 4, 7, 8] [2, 3] n (sh83_2 p2_0 p2_1 p2_2 v2_1 v2_3) K = ob (lp_model_place_2  L p2_0 p2_1 p2_2 n v2_1 v2_3) (fun o => KK83_2 p2_0 p2_1 p2_2 K o) := by
  induction n generalizing v2_1 v2_3 with
  | zero => rfl
  | succ n ih =>
    refine Eq.trans (b := lb_model_place_2 anP  L p2_0 p2_1 p2_2 (fun v2_1 v2_3 => loopN (EV (O83 L) L 8 c114.r.r.l.r.r.l.l) [0, 1, 4, 7, 8] [2, 3] n (sh83_2 p2_0 p2_1 p2_2 v2_1 v2_3) K) (KK83_2 p2_0 p2_1 p2_2 K) v2_1 v2_3) (by kernel_rfl) ?_
    simp only [ih]
    exact ln83_2  L p2_0 p2_1 p2_2 (lp_model_place_2  L p2_0 p2_1 p2_2 n) (KK83_2 p2_0 p2_1 p2_2 K) v2_1 v2_3
def ia83_2 (p2_0 : List api_ResourceDecl) (p2_1 : api_SiteDecl) (p2_2 : ByteArray) : List PV := [.lst false (.t159 p2_0), .clo 115 0 [.loc 3 0]]
def io83_2 (p2_0 : List api_ResourceDecl) (p2_1 : api_SiteDecl) (p2_2 : ByteArray) : List (Nat × List PV) := [(2, (enapi_SiteDecl p2_1)), (3, [S p2_2])]
def KI83_2 (p2_0 : List api_ResourceDecl) (p2_1 : api_SiteDecl) (p2_2 : ByteArray) (k : PV → List (Nat × List PV) → Prop) : Int → Prop := fun o => k (I o) [(2, (enapi_SiteDecl p2_1)), (3, [S p2_2])]
def ib_model_place_2 {A : Type} (an : An A)  (L : Nat) (p2_0 : List api_ResourceDecl) (p2_1 : api_SiteDecl) (p2_2 : ByteArray) (out : Int → A) : A :=
 (an.bd (lp_model_place_2 L p2_0 p2_1 p2_2 L 0 0) fun o2 =>
 (an.sl o2.1 [(an.lf out o2.2.1),
 (an.lf out (-1))]))
def ic_model_place_2  (L : Nat) (p2_0 : List api_ResourceDecl) (p2_1 : api_SiteDecl) (p2_2 : ByteArray) : Option Int := ib_model_place_2 (anO _)  L p2_0 p2_1 p2_2 some
def kc83_2  (L : Nat)  (p2_0 : List api_ResourceDecl) (p2_1 : api_SiteDecl) (p2_2 : ByteArray) (k : PV → List (Nat × List PV) → Prop) : Ex → St → Prop := (kBlock 0 (kSeq (EV (O83 L) L 8 c114.r.r.r) (kEndI Tryz.prog (RS Tryz.f114) k)))
theorem q83_2  (L : Nat)  (p2_0 : List api_ResourceDecl) (p2_1 : api_SiteDecl) (p2_2 : ByteArray) (k : PV → List (Nat × List PV) → Prop) (o2 : Nat × (Int × Int)) : KK83_2 p2_0 p2_1 p2_2 (kc83_2 L p2_0 p2_1 p2_2 k) o2 =
 (seln o2.1 [(ob (some o2.2.1) (KI83_2 p2_0 p2_1 p2_2 k)),
 (ob (some (-1)) (KI83_2 p2_0 p2_1 p2_2 k))]) := by kernel_rfl
theorem iE83_2  (L : Nat) (p2_0 : List api_ResourceDecl) (p2_1 : api_SiteDecl) (p2_2 : ByteArray) (k : PV → List (Nat × List PV) → Prop) : YO (O83 L) L 9 114 (ia83_2 p2_0 p2_1 p2_2) (io83_2 p2_0 p2_1 p2_2) k = ob (ic_model_place_2  L p2_0 p2_1 p2_2) (fun o => KI83_2 p2_0 p2_1 p2_2 k o) := by
  refine (Yo_step _ _ _ jn4 _ _ _ _ _ _ _).trans ?_
  refine Eq.trans (b := ib_model_place_2 anP  L p2_0 p2_1 p2_2 (KI83_2 p2_0 p2_1 p2_2 k)) ?_ ?_
  · refine Eq.trans (b := (loopN (EV (O83 L) L 8 c114.r.r.l.r.r.l.l) [0, 1, 4, 7, 8] [2, 3] L (sh83_2 p2_0 p2_1 p2_2 0 0) (kc83_2 L p2_0 p2_1 p2_2 k))) (by kernel_rfl) ?_
    unfold ib_model_place_2
    dsimp only [anP]
    simp only [le83_2, q83_2]
  generalize KI83_2 p2_0 p2_1 p2_2 k = Q
  unfold ic_model_place_2 ib_model_place_2
  dsimp only [anP, anO]
  try simp only [y1, y2, y3, y4, y5 Q, y6, y7, y8 Q, y9, z1, z2, z3, z4]
def sh83_3 (p3_0 : List api_StoreDecl) (p3_1 : api_SiteDecl) (p3_2 : ByteArray) (v3_1 : Int) (v3_3 : Int) : St := ({ fr := [(0, .lst false (.t164 p3_0)), (1, .clo 117 0 [.loc 3 0]), (4, I v3_1), (7, I (p3_0.length : Int)), (8, I v3_3)], ob := [(2, (enapi_SiteDecl p3_1)), (3, [S p3_2])], base := 4 } : St)
def KK83_3 (p3_0 : List api_StoreDecl) (p3_1 : api_SiteDecl) (p3_2 : ByteArray) (K : Ex → St → Prop) : Nat × (Int × Int) → Prop := fun o => seln o.1 [K .ret (sh83_3 p3_0 p3_1 p3_2 o.2.1 o.2.2), K (.exit 0) (sh83_3 p3_0 p3_1 p3_2 o.2.1 o.2.2)]
def lb_model_place_3 {A : Type} (an : An A)  (L : Nat) (p3_0 : List api_StoreDecl) (p3_1 : api_SiteDecl) (p3_2 : ByteArray) (rec : Int → Int → A) (out : Nat × (Int × Int) → A) (v3_1 : Int) (v3_3 : Int) : A :=
 (an.cn (decide (v3_3 < (p3_0.length : Int)))
 (an.gd ((0 : Int) ≤ v3_3)
 (an.gd (v3_3 < ((p3_0.length : Nat) : Int))
 (an.cn (((p3_0.getD (Int.toNat v3_3) default).Name).toList == p3_2.toList)
 (an.lf out (0, (v3_3, v3_3)))
 (rec v3_1 (w64 (v3_3 + 1))))))
 (an.lf out (1, (v3_1, v3_3))))
def lp_model_place_3  (L : Nat) (p3_0 : List api_StoreDecl) (p3_1 : api_SiteDecl) (p3_2 : ByteArray) : Nat → Int → Int → Option (Nat × (Int × Int))
  | 0, _, _ => none
  | n + 1, v3_1, v3_3 => lb_model_place_3 (anO _)  L p3_0 p3_1 p3_2 (lp_model_place_3  L p3_0 p3_1 p3_2 n) some v3_1 v3_3
theorem ln83_3  (L : Nat) (p3_0 : List api_StoreDecl) (p3_1 : api_SiteDecl) (p3_2 : ByteArray) (g : Int → Int → Option (Nat × (Int × Int))) (Q : Nat × (Int × Int) → Prop) (v3_1 : Int) (v3_3 : Int) : lb_model_place_3 anP  L p3_0 p3_1 p3_2 (fun v3_1 v3_3 => ob (g v3_1 v3_3) Q) Q v3_1 v3_3 = ob (lb_model_place_3 (anO _)  L p3_0 p3_1 p3_2 g some v3_1 v3_3) Q := by
  unfold lb_model_place_3
  dsimp only [anP, anO]
  try simp only [y1, y2, y3, y4, y5 Q, y6, y7, y8 Q, y9, z1, z2, z3, z4]
theorem le83_3  (L : Nat) (p3_0 : List api_StoreDecl) (p3_1 : api_SiteDecl) (p3_2 : ByteArray) (n : Nat) (v3_1 : Int) (v3_3 : Int) (K : Ex → St → Prop) : loopN (EV (O83 L) L 8 c116.r.r.l.r.r.l.l) [0, 1, 4, 7, 8] [2, 3] n (sh83_3 p3_0 p3_1 p3_2 v3_1 v3_3) K = ob (lp_model_place_3  L p3_0 p3_1 p3_2 n v3_1 v3_3) (fun o => KK83_3 p3_0 p3_1 p3_2 K o) := by
  induction n generalizing v3_1 v3_3 with
  | zero => rfl
  | succ n ih =>
    refine Eq.trans (b := lb_model_place_3 anP  L p3_0 p3_1 p3_2 (fun v3_1 v3_3 => loopN (EV (O83 L) L 8 c116.r.r.l.r.r.l.l) [0, 1, 4, 7, 8] [2, 3] n (sh83_3 p3_0 p3_1 p3_2 v3_1 v3_3) K) (KK83_3 p3_0 p3_1 p3_2 K) v3_1 v3_3) (by kernel_rfl) ?_
    simp only [ih]
    exact ln83_3  L p3_0 p3_1 p3_2 (lp_model_place_3  L p3_0 p3_1 p3_2 n) (KK83_3 p3_0 p3_1 p3_2 K) v3_1 v3_3
def ia83_3 (p3_0 : List api_StoreDecl) (p3_1 : api_SiteDecl) (p3_2 : ByteArray) : List PV := [.lst false (.t164 p3_0), .clo 117 0 [.loc 3 0]]
def io83_3 (p3_0 : List api_StoreDecl) (p3_1 : api_SiteDecl) (p3_2 : ByteArray) : List (Nat × List PV) := [(2, (enapi_SiteDecl p3_1)), (3, [S p3_2])]
def KI83_3 (p3_0 : List api_StoreDecl) (p3_1 : api_SiteDecl) (p3_2 : ByteArray) (k : PV → List (Nat × List PV) → Prop) : Int → Prop := fun o => k (I o) [(2, (enapi_SiteDecl p3_1)), (3, [S p3_2])]
def ib_model_place_3 {A : Type} (an : An A)  (L : Nat) (p3_0 : List api_StoreDecl) (p3_1 : api_SiteDecl) (p3_2 : ByteArray) (out : Int → A) : A :=
 (an.bd (lp_model_place_3 L p3_0 p3_1 p3_2 L 0 0) fun o3 =>
 (an.sl o3.1 [(an.lf out o3.2.1),
 (an.lf out (-1))]))
def ic_model_place_3  (L : Nat) (p3_0 : List api_StoreDecl) (p3_1 : api_SiteDecl) (p3_2 : ByteArray) : Option Int := ib_model_place_3 (anO _)  L p3_0 p3_1 p3_2 some
def kc83_3  (L : Nat)  (p3_0 : List api_StoreDecl) (p3_1 : api_SiteDecl) (p3_2 : ByteArray) (k : PV → List (Nat × List PV) → Prop) : Ex → St → Prop := (kBlock 0 (kSeq (EV (O83 L) L 8 c116.r.r.r) (kEndI Tryz.prog (RS Tryz.f116) k)))
theorem q83_3  (L : Nat)  (p3_0 : List api_StoreDecl) (p3_1 : api_SiteDecl) (p3_2 : ByteArray) (k : PV → List (Nat × List PV) → Prop) (o3 : Nat × (Int × Int)) : KK83_3 p3_0 p3_1 p3_2 (kc83_3 L p3_0 p3_1 p3_2 k) o3 =
 (seln o3.1 [(ob (some o3.2.1) (KI83_3 p3_0 p3_1 p3_2 k)),
 (ob (some (-1)) (KI83_3 p3_0 p3_1 p3_2 k))]) := by kernel_rfl
theorem iE83_3  (L : Nat) (p3_0 : List api_StoreDecl) (p3_1 : api_SiteDecl) (p3_2 : ByteArray) (k : PV → List (Nat × List PV) → Prop) : YO (O83 L) L 9 116 (ia83_3 p3_0 p3_1 p3_2) (io83_3 p3_0 p3_1 p3_2) k = ob (ic_model_place_3  L p3_0 p3_1 p3_2) (fun o => KI83_3 p3_0 p3_1 p3_2 k o) := by
  refine (Yo_step _ _ _ jn4 _ _ _ _ _ _ _).trans ?_
  refine Eq.trans (b := ib_model_place_3 anP  L p3_0 p3_1 p3_2 (KI83_3 p3_0 p3_1 p3_2 k)) ?_ ?_
  · refine Eq.trans (b := (loopN (EV (O83 L) L 8 c116.r.r.l.r.r.l.l) [0, 1, 4, 7, 8] [2, 3] L (sh83_3 p3_0 p3_1 p3_2 0 0) (kc83_3 L p3_0 p3_1 p3_2 k))) (by kernel_rfl) ?_
    unfold ib_model_place_3
    dsimp only [anP]
    simp only [le83_3, q83_3]
  generalize KI83_3 p3_0 p3_1 p3_2 k = Q
  unfold ic_model_place_3 ib_model_place_3
  dsimp only [anP, anO]
  try simp only [y1, y2, y3, y4, y5 Q, y6, y7, y8 Q, y9, z1, z2, z3, z4]
def sh83_4 (p4_0 : List api_BeltDecl) (p4_1 : api_SiteDecl) (p4_2 : ByteArray) (v4_1 : Int) (v4_3 : Int) : St := ({ fr := [(0, .lst false (.t168 p4_0)), (1, .clo 119 0 [.loc 3 0]), (4, I v4_1), (7, I (p4_0.length : Int)), (8, I v4_3)], ob := [(2, (enapi_SiteDecl p4_1)), (3, [S p4_2])], base := 4 } : St)
def KK83_4 (p4_0 : List api_BeltDecl) (p4_1 : api_SiteDecl) (p4_2 : ByteArray) (K : Ex → St → Prop) : Nat × (Int × Int) → Prop := fun o => seln o.1 [K .ret (sh83_4 p4_0 p4_1 p4_2 o.2.1 o.2.2), K (.exit 0) (sh83_4 p4_0 p4_1 p4_2 o.2.1 o.2.2)]
def lb_model_place_4 {A : Type} (an : An A)  (L : Nat) (p4_0 : List api_BeltDecl) (p4_1 : api_SiteDecl) (p4_2 : ByteArray) (rec : Int → Int → A) (out : Nat × (Int × Int) → A) (v4_1 : Int) (v4_3 : Int) : A :=
 (an.cn (decide (v4_3 < (p4_0.length : Int)))
 (an.gd ((0 : Int) ≤ v4_3)
 (an.gd (v4_3 < ((p4_0.length : Nat) : Int))
 (an.cn (((p4_0.getD (Int.toNat v4_3) default).Name).toList == p4_2.toList)
 (an.lf out (0, (v4_3, v4_3)))
 (rec v4_1 (w64 (v4_3 + 1))))))
 (an.lf out (1, (v4_1, v4_3))))
def lp_model_place_4  (L : Nat) (p4_0 : List api_BeltDecl) (p4_1 : api_SiteDecl) (p4_2 : ByteArray) : Nat → Int → Int → Option (Nat × (Int × Int))
  | 0, _, _ => none
  | n + 1, v4_1, v4_3 => lb_model_place_4 (anO _)  L p4_0 p4_1 p4_2 (lp_model_place_4  L p4_0 p4_1 p4_2 n) some v4_1 v4_3
theorem ln83_4  (L : Nat) (p4_0 : List api_BeltDecl) (p4_1 : api_SiteDecl) (p4_2 : ByteArray) (g : Int → Int → Option (Nat × (Int × Int))) (Q : Nat × (Int × Int) → Prop) (v4_1 : Int) (v4_3 : Int) : lb_model_place_4 anP  L p4_0 p4_1 p4_2 (fun v4_1 v4_3 => ob (g v4_1 v4_3) Q) Q v4_1 v4_3 = ob (lb_model_place_4 (anO _)  L p4_0 p4_1 p4_2 g some v4_1 v4_3) Q := by
  unfold lb_model_place_4
  dsimp only [anP, anO]
  try simp only [y1, y2, y3, y4, y5 Q, y6, y7, y8 Q, y9, z1, z2, z3, z4]
theorem le83_4  (L : Nat) (p4_0 : List api_BeltDecl) (p4_1 : api_SiteDecl) (p4_2 : ByteArray) (n : Nat) (v4_1 : Int) (v4_3 : Int) (K : Ex → St → Prop) : loopN (EV (O83 L) L 8 c118.r.r.l.r.r.l.l) [0, 1, 4, 7, 8] [2, 3] n (sh83_4 p4_0 p4_1 p4_2 v4_1 v4_3) K = ob (lp_model_place_4  L p4_0 p4_1 p4_2 n v4_1 v4_3) (fun o => KK83_4 p4_0 p4_1 p4_2 K o) := by
  induction n generalizing v4_1 v4_3 with
  | zero => rfl
  | succ n ih =>
    refine Eq.trans (b := lb_model_place_4 anP  L p4_0 p4_1 p4_2 (fun v4_1 v4_3 => loopN (EV (O83 L) L 8 c118.r.r.l.r.r.l.l) [0, 1, 4, 7, 8] [2, 3] n (sh83_4 p4_0 p4_1 p4_2 v4_1 v4_3) K) (KK83_4 p4_0 p4_1 p4_2 K) v4_1 v4_3) (by kernel_rfl) ?_
    simp only [ih]
    exact ln83_4  L p4_0 p4_1 p4_2 (lp_model_place_4  L p4_0 p4_1 p4_2 n) (KK83_4 p4_0 p4_1 p4_2 K) v4_1 v4_3
def ia83_4 (p4_0 : List api_BeltDecl) (p4_1 : api_SiteDecl) (p4_2 : ByteArray) : List PV := [.lst false (.t168 p4_0), .clo 119 0 [.loc 3 0]]
def io83_4 (p4_0 : List api_BeltDecl) (p4_1 : api_SiteDecl) (p4_2 : ByteArray) : List (Nat × List PV) := [(2, (enapi_SiteDecl p4_1)), (3, [S p4_2])]
def KI83_4 (p4_0 : List api_BeltDecl) (p4_1 : api_SiteDecl) (p4_2 : ByteArray) (k : PV → List (Nat × List PV) → Prop) : Int → Prop := fun o => k (I o) [(2, (enapi_SiteDecl p4_1)), (3, [S p4_2])]
def ib_model_place_4 {A : Type} (an : An A)  (L : Nat) (p4_0 : List api_BeltDecl) (p4_1 : api_SiteDecl) (p4_2 : ByteArray) (out : Int → A) : A :=
 (an.bd (lp_model_place_4 L p4_0 p4_1 p4_2 L 0 0) fun o4 =>
 (an.sl o4.1 [(an.lf out o4.2.1),
 (an.lf out (-1))]))
def ic_model_place_4  (L : Nat) (p4_0 : List api_BeltDecl) (p4_1 : api_SiteDecl) (p4_2 : ByteArray) : Option Int := ib_model_place_4 (anO _)  L p4_0 p4_1 p4_2 some
def kc83_4  (L : Nat)  (p4_0 : List api_BeltDecl) (p4_1 : api_SiteDecl) (p4_2 : ByteArray) (k : PV → List (Nat × List PV) → Prop) : Ex → St → Prop := (kBlock 0 (kSeq (EV (O83 L) L 8 c118.r.r.r) (kEndI Tryz.prog (RS Tryz.f118) k)))
theorem q83_4  (L : Nat)  (p4_0 : List api_BeltDecl) (p4_1 : api_SiteDecl) (p4_2 : ByteArray) (k : PV → List (Nat × List PV) → Prop) (o4 : Nat × (Int × Int)) : KK83_4 p4_0 p4_1 p4_2 (kc83_4 L p4_0 p4_1 p4_2 k) o4 =
 (seln o4.1 [(ob (some o4.2.1) (KI83_4 p4_0 p4_1 p4_2 k)),
 (ob (some (-1)) (KI83_4 p4_0 p4_1 p4_2 k))]) := by kernel_rfl
theorem iE83_4  (L : Nat) (p4_0 : List api_BeltDecl) (p4_1 : api_SiteDecl) (p4_2 : ByteArray) (k : PV → List (Nat × List PV) → Prop) : YO (O83 L) L 9 118 (ia83_4 p4_0 p4_1 p4_2) (io83_4 p4_0 p4_1 p4_2) k = ob (ic_model_place_4  L p4_0 p4_1 p4_2) (fun o => KI83_4 p4_0 p4_1 p4_2 k o) := by
  refine (Yo_step _ _ _ jn4 _ _ _ _ _ _ _).trans ?_
  refine Eq.trans (b := ib_model_place_4 anP  L p4_0 p4_1 p4_2 (KI83_4 p4_0 p4_1 p4_2 k)) ?_ ?_
  · refine Eq.trans (b := (loopN (EV (O83 L) L 8 c118.r.r.l.r.r.l.l) [0, 1, 4, 7, 8] [2, 3] L (sh83_4 p4_0 p4_1 p4_2 0 0) (kc83_4 L p4_0 p4_1 p4_2 k))) (by kernel_rfl) ?_
    unfold ib_model_place_4
    dsimp only [anP]
    simp only [le83_4, q83_4]
  generalize KI83_4 p4_0 p4_1 p4_2 k = Q
  unfold ic_model_place_4 ib_model_place_4
  dsimp only [anP, anO]
  try simp only [y1, y2, y3, y4, y5 Q, y6, y7, y8 Q, y9, z1, z2, z3, z4]
def kc83_5  (L : Nat) (a0 : api_SiteDecl) (a1 : ByteArray) (kk : PV → Prop) : PV → List (Nat × List PV) → Prop := (kCallS Tryz.prog (O83 L) (EI (O83 L) L 9) 1 (List.drop 4 c83.r.r.l.l.ops) ({ fr := [(18, .clo 113 0 [.loc 3 0]), (17, .lst false (.t85 a0.Vars)), (16, .loc 2 1), (2, .loc 2 0), (3, .loc 3 0), (4, S (⟨#[]⟩ : ByteArray)), (5, I 0)], ob := [(2, (enapi_SiteDecl a0)), (3, [S a1])], base := 0 } : St) (some 19) (fun st9 => (kSeq (EV (O83 L) L 9 c83.r.r.l.r) (kSeq (EV (O83 L) L 9 c83.r.r.r) (kEnd Tryz.prog (RS Tryz.f83) kk))) .normal st9))
def kc83_6  (L : Nat) (a0 : api_SiteDecl) (a1 : ByteArray) (kk : PV → Prop) : PV → List (Nat × List PV) → Prop := (kCallS Tryz.prog (O83 L) (EI (O83 L) L 9) 1 (List.drop 4 c83.r.r.r.r.l.l.ops) ({ fr := [(25, .clo 115 0 [.loc 3 0]), (24, .lst false (.t159 a0.Resources)), (23, .loc 2 2), (2, .loc 2 0), (3, .loc 3 0), (4, S (⟨#[]⟩ : ByteArray)), (5, I 0)], ob := [(2, (enapi_SiteDecl a0)), (3, [S a1])], base := 0 } : St) (some 26) (fun st9 => (kSeq (EV (O83 L) L 9 c83.r.r.r.r.l.r) (kSeq (EV (O83 L) L 9 c83.r.r.r.r.r) (kEnd Tryz.prog (RS Tryz.f83) kk))) .normal st9))
def kc83_7  (L : Nat) (a0 : api_SiteDecl) (a1 : ByteArray) (kk : PV → Prop) : PV → List (Nat × List PV) → Prop := (kCallS Tryz.prog (O83 L) (EI (O83 L) L 9) 1 (List.drop 4 c83.r.r.r.r.r.r.l.l.ops) ({ fr := [(32, .clo 117 0 [.loc 3 0]), (31, .lst false (.t164 a0.Stores)), (30, .loc 2 3), (2, .loc 2 0), (3, .loc 3 0), (4, S (⟨#[]⟩ : ByteArray)), (5, I 0)], ob := [(2, (enapi_SiteDecl a0)), (3, [S a1])], base := 0 } : St) (some 33) (fun st9 => (kSeq (EV (O83 L) L 9 c83.r.r.r.r.r.r.l.r) (kSeq (EV (O83 L) L 9 c83.r.r.r.r.r.r.r) (kEnd Tryz.prog (RS Tryz.f83) kk))) .normal st9))
def kc83_8  (L : Nat) (a0 : api_SiteDecl) (a1 : ByteArray) (kk : PV → Prop) : PV → List (Nat × List PV) → Prop := (kCallS Tryz.prog (O83 L) (EI (O83 L) L 9) 1 (List.drop 4 c83.r.r.r.r.r.r.r.r.l.l.ops) ({ fr := [(39, .clo 119 0 [.loc 3 0]), (38, .lst false (.t168 a0.Belts)), (37, .loc 2 4), (2, .loc 2 0), (3, .loc 3 0), (4, S (⟨#[]⟩ : ByteArray)), (5, I 0)], ob := [(2, (enapi_SiteDecl a0)), (3, [S a1])], base := 0 } : St) (some 40) (fun st9 => (kSeq (EV (O83 L) L 9 c83.r.r.r.r.r.r.r.r.l.r) (kSeq (EV (O83 L) L 9 c83.r.r.r.r.r.r.r.r.r) (kEnd Tryz.prog (RS Tryz.f83) kk))) .normal st9))
theorem q83_5  (L : Nat) (a0 : api_SiteDecl) (a1 : ByteArray) (kk : PV → Prop) (o1 : Int) : KI83_1 a0.Vars a0 a1 (kc83_5 L a0 a1 kk) o1 =
 (br (decide (o1 ≥ 0))
 (ob (some ((⟨#[118, 97, 114]⟩ : ByteArray), o1)) (fun (x : (ByteArray × Int)) => kk (.tup [S x.1, I x.2])))
 (YO (O83 L) L 9 114 (ia83_2 a0.Resources a0 a1) (io83_2 a0.Resources a0 a1) (kc83_6 L a0 a1 kk))) := by kernel_rfl
theorem q83_6  (L : Nat) (a0 : api_SiteDecl) (a1 : ByteArray) (kk : PV → Prop) (o2 : Int) : KI83_2 a0.Resources a0 a1 (kc83_6 L a0 a1 kk) o2 =
 (br (decide (o2 ≥ 0))
 (ob (some ((⟨#[114, 101, 115, 111, 117, 114, 99, 101]⟩ : ByteArray), o2)) (fun (x : (ByteArray × Int)) => kk (.tup [S x.1, I x.2])))
 (YO (O83 L) L 9 116 (ia83_3 a0.Stores a0 a1) (io83_3 a0.Stores a0 a1) (kc83_7 L a0 a1 kk))) := by kernel_rfl
theorem q83_7  (L : Nat) (a0 : api_SiteDecl) (a1 : ByteArray) (kk : PV → Prop) (o3 : Int) : KI83_3 a0.Stores a0 a1 (kc83_7 L a0 a1 kk) o3 =
 (br (decide (o3 ≥ 0))
 (ob (some ((⟨#[115, 116, 111, 114, 101]⟩ : ByteArray), o3)) (fun (x : (ByteArray × Int)) => kk (.tup [S x.1, I x.2])))
 (YO (O83 L) L 9 118 (ia83_4 a0.Belts a0 a1) (io83_4 a0.Belts a0 a1) (kc83_8 L a0 a1 kk))) := by kernel_rfl
theorem q83_8  (L : Nat) (a0 : api_SiteDecl) (a1 : ByteArray) (kk : PV → Prop) (o4 : Int) : KI83_4 a0.Belts a0 a1 (kc83_8 L a0 a1 kk) o4 =
 (br (decide (o4 ≥ 0))
 (ob (some ((⟨#[98, 101, 108, 116]⟩ : ByteArray), o4)) (fun (x : (ByteArray × Int)) => kk (.tup [S x.1, I x.2])))
 (ob (F_slices_Index_string L a0.Queues a1) fun r5 =>
 (br (decide (r5 ≥ 0))
 (ob (some ((⟨#[113, 117, 101, 117, 101]⟩ : ByteArray), r5)) (fun (x : (ByteArray × Int)) => kk (.tup [S x.1, I x.2])))
 (ob (F_slices_Index_string L a0.Streams a1) fun r6 =>
 (br (decide (r6 ≥ 0))
 (ob (some ((⟨#[115, 116, 114, 101, 97, 109]⟩ : ByteArray), r6)) (fun (x : (ByteArray × Int)) => kk (.tup [S x.1, I x.2])))
 (ob (F_slices_Index_string L a0.Tallies a1) fun r7 =>
 (br (decide (r7 ≥ 0))
 (ob (some ((⟨#[116, 97, 108, 108, 121]⟩ : ByteArray), r7)) (fun (x : (ByteArray × Int)) => kk (.tup [S x.1, I x.2])))
 (ob (F_slices_Index_string L a0.Levels a1) fun r8 =>
 (br (decide (r8 ≥ 0))
 (ob (some ((⟨#[108, 101, 118, 101, 108]⟩ : ByteArray), r8)) (fun (x : (ByteArray × Int)) => kk (.tup [S x.1, I x.2])))
 (ob (F_slices_Index_string L a0.Counts a1) fun r9 =>
 (br (decide (r9 ≥ 0))
 (ob (some ((⟨#[99, 111, 117, 110, 116]⟩ : ByteArray), r9)) (fun (x : (ByteArray × Int)) => kk (.tup [S x.1, I x.2])))
 (ob (F_model_Routine L a0 a1) fun r10 =>
 (br (decide (r10 ≥ 0))
 (ob (some ((⟨#[114, 111, 117, 116, 105, 110, 101]⟩ : ByteArray), r10)) (fun (x : (ByteArray × Int)) => kk (.tup [S x.1, I x.2])))
 (ob (some ((⟨#[]⟩ : ByteArray), (-1))) (fun (x : (ByteArray × Int)) => kk (.tup [S x.1, I x.2])))))))))))))))) := by kernel_rfl
def T_model_place {A : Type} (an : An A)  (L : Nat) (a0 : api_SiteDecl) (a1 : ByteArray) (out : (ByteArray × Int) → A) : A :=
 (an.bd (ic_model_place_1 L a0.Vars a0 a1) fun o1 =>
 (an.cn (decide (o1 ≥ 0))
 (an.lf out ((⟨#[118, 97, 114]⟩ : ByteArray), o1))
 (an.bd (ic_model_place_2 L a0.Resources a0 a1) fun o2 =>
 (an.cn (decide (o2 ≥ 0))
 (an.lf out ((⟨#[114, 101, 115, 111, 117, 114, 99, 101]⟩ : ByteArray), o2))
 (an.bd (ic_model_place_3 L a0.Stores a0 a1) fun o3 =>
 (an.cn (decide (o3 ≥ 0))
 (an.lf out ((⟨#[115, 116, 111, 114, 101]⟩ : ByteArray), o3))
 (an.bd (ic_model_place_4 L a0.Belts a0 a1) fun o4 =>
 (an.cn (decide (o4 ≥ 0))
 (an.lf out ((⟨#[98, 101, 108, 116]⟩ : ByteArray), o4))
 (an.bd (F_slices_Index_string L a0.Queues a1) fun r5 =>
 (an.cn (decide (r5 ≥ 0))
 (an.lf out ((⟨#[113, 117, 101, 117, 101]⟩ : ByteArray), r5))
 (an.bd (F_slices_Index_string L a0.Streams a1) fun r6 =>
 (an.cn (decide (r6 ≥ 0))
 (an.lf out ((⟨#[115, 116, 114, 101, 97, 109]⟩ : ByteArray), r6))
 (an.bd (F_slices_Index_string L a0.Tallies a1) fun r7 =>
 (an.cn (decide (r7 ≥ 0))
 (an.lf out ((⟨#[116, 97, 108, 108, 121]⟩ : ByteArray), r7))
 (an.bd (F_slices_Index_string L a0.Levels a1) fun r8 =>
 (an.cn (decide (r8 ≥ 0))
 (an.lf out ((⟨#[108, 101, 118, 101, 108]⟩ : ByteArray), r8))
 (an.bd (F_slices_Index_string L a0.Counts a1) fun r9 =>
 (an.cn (decide (r9 ≥ 0))
 (an.lf out ((⟨#[99, 111, 117, 110, 116]⟩ : ByteArray), r9))
 (an.bd (F_model_Routine L a0 a1) fun r10 =>
 (an.cn (decide (r10 ≥ 0))
 (an.lf out ((⟨#[114, 111, 117, 116, 105, 110, 101]⟩ : ByteArray), r10))
 (an.lf out ((⟨#[]⟩ : ByteArray), (-1)))))))))))))))))))))))
def F_model_place  (L : Nat) (a0 : api_SiteDecl) (a1 : ByteArray) : Option (ByteArray × Int) := T_model_place (anO _) L a0 a1 some
theorem e83  (L : Nat) (a0 : api_SiteDecl) (a1 : ByteArray) (kk : PV → Prop) : EW (O83 L) L 9 (RS Tryz.f83) c83 [.agg (enapi_SiteDecl a0), S a1] kk = ob (F_model_place L a0 a1) (fun (x : (ByteArray × Int)) => kk (.tup [S x.1, I x.2])) := by
  refine Eq.trans (b := T_model_place anP L a0 a1 (fun (x : (ByteArray × Int)) => kk (.tup [S x.1, I x.2]))) ?_ ?_
  · refine Eq.trans (b := (YO (O83 L) L 9 35 (ia83_1 a0.Vars a0 a1) (io83_1 a0.Vars a0 a1) (kc83_5 L a0 a1 kk))) (by kernel_rfl) ?_
    unfold T_model_place
    dsimp only [anP]
    simp only [iE83_1, iE83_2, iE83_3, iE83_4, q83_5, q83_6, q83_7, q83_8]
  generalize (fun (x : (ByteArray × Int)) => kk (.tup [S x.1, I x.2])) = Q
  unfold F_model_place T_model_place
  dsimp only [anP, anO]
  try simp only [y1, y2, y3, y4, y5 Q, y6, y7, y8 Q, y9, z1, z2, z3, z4]
theorem h83   (L : Nat) (a0 : api_SiteDecl) (a1 : ByteArray) (r : (ByteArray × Int)) (h : F_model_place L a0 a1 = some r) : Holds Tryz.prog 83 [.agg (enapi_SiteDecl a0), S a1] (.tup [S r.1, I r.2]) :=
  hE grwOK (s83  L) mixed Tryz.func83 (by kernel_rfl : cFn Tryz.prog inl Tryz.f83 = some c83) (er := fun (x : (ByteArray × Int)) => .tup [S x.1, I x.2]) (by kernel_rfl) (e83 L a0 a1) h
/-! ### simulator/model.Kind -/
noncomputable def c49 : EC := (cFn Tryz.prog inl Tryz.f49).getD .stop
def O49  (L : Nat) : Oracle := (orc 83 (A2 (fun (x : (ByteArray × Int)) => .tup [S x.1, I x.2]) ca_api_SiteDecl cS (F_model_place L)) noC)
theorem s49   (L : Nat) : SoundC Tryz.prog (O49 L) := (orc_sound (a2 _ (h83 L)) (noC_sound Tryz.prog))
def T_model_Kind {A : Type} (an : An A)  (L : Nat) (a0 : api_SiteDecl) (a1 : ByteArray) (out : ByteArray → A) : A :=
 (an.bd (F_model_place L a0 a1) fun r1 =>
 (an.lf out r1.1))
def F_model_Kind  (L : Nat) (a0 : api_SiteDecl) (a1 : ByteArray) : Option ByteArray := T_model_Kind (anO _) L a0 a1 some
theorem e49  (L : Nat) (a0 : api_SiteDecl) (a1 : ByteArray) (kk : PV → Prop) : EW (O49 L) L 9 (RS Tryz.f49) c49 [.agg (enapi_SiteDecl a0), S a1] kk = ob (F_model_Kind L a0 a1) (fun (x : ByteArray) => kk (S x)) := by
  refine Eq.trans (b := T_model_Kind anP L a0 a1 (fun (x : ByteArray) => kk (S x))) (by kernel_rfl) ?_
  generalize (fun (x : ByteArray) => kk (S x)) = Q
  unfold F_model_Kind T_model_Kind
  dsimp only [anP, anO]
  try simp only [y1, y2, y3, y4, y5 Q, y6, y7, y8 Q, y9, z1, z2, z3, z4]
theorem h49   (L : Nat) (a0 : api_SiteDecl) (a1 : ByteArray) (r : ByteArray) (h : F_model_Kind L a0 a1 = some r) : Holds Tryz.prog 49 [.agg (enapi_SiteDecl a0), S a1] (S r) :=
  hE grwOK (s49  L) mixed Tryz.func49 (by kernel_rfl : cFn Tryz.prog inl Tryz.f49 = some c49) (er := fun (x : ByteArray) => S x) (by kernel_rfl) (e49 L a0 a1) h
/-! ### simulator/typing.object -/
noncomputable def c48 : EC := (cFn Tryz.prog inl Tryz.f48).getD .stop
def O48  (L : Nat) : Oracle := noC
theorem s48   (L : Nat) : SoundC Tryz.prog (O48 L) := (noC_sound Tryz.prog)
def T_typing_object {A : Type} (an : An A)  (L : Nat) (a0 : Int) (a1 : ByteArray) (out : Bool → A) : A :=
 (an.cn (a0 == 22)
 (an.lf out (a1.toList == (⟨#[114, 101, 115, 111, 117, 114, 99, 101]⟩ : ByteArray).toList))
 (an.cn (a0 == 23)
 (an.lf out (a1.toList == (⟨#[115, 116, 111, 114, 101]⟩ : ByteArray).toList))
 (an.jp (bif (a1.toList == (⟨#[114, 101, 115, 111, 117, 114, 99, 101]⟩ : ByteArray).toList) then true
 else (a1.toList == (⟨#[113, 117, 101, 117, 101]⟩ : ByteArray).toList)) (fun j => (an.cn (a1.toList == (⟨#[114, 101, 115, 111, 117, 114, 99, 101]⟩ : ByteArray).toList)
 (an.ap j true)
 (an.ap j (a1.toList == (⟨#[113, 117, 101, 117, 101]⟩ : ByteArray).toList)))) (fun b1 =>
 (an.lf out b1)))))
def F_typing_object  (L : Nat) (a0 : Int) (a1 : ByteArray) : Option Bool := T_typing_object (anO _) L a0 a1 some
theorem e48  (L : Nat) (a0 : Int) (a1 : ByteArray) (kk : PV → Prop) : EW (O48 L) L 9 (RS Tryz.f48) c48 [I a0, S a1] kk = ob (F_typing_object L a0 a1) (fun (x : Bool) => kk (B x)) := by
  refine Eq.trans (b := T_typing_object anP L a0 a1 (fun (x : Bool) => kk (B x))) (by kernel_rfl) ?_
  generalize (fun (x : Bool) => kk (B x)) = Q
  unfold F_typing_object T_typing_object
  dsimp only [anP, anO]
  try simp only [y1, y2, y3, y4, y5 Q, y6, y7, y8 Q, y9, z1, z2, z3, z4]
theorem h48   (L : Nat) (a0 : Int) (a1 : ByteArray) (r : Bool) (h : F_typing_object L a0 a1 = some r) : Holds Tryz.prog 48 [I a0, S a1] (B r) :=
  hE grwOK (s48  L) mixed Tryz.func48 (by kernel_rfl : cFn Tryz.prog inl Tryz.f48 = some c48) (er := fun (x : Bool) => B x) (by kernel_rfl) (e48 L a0 a1) h
end Go.Proofs.YtonfmpiikdmndaaGreat.Ev
