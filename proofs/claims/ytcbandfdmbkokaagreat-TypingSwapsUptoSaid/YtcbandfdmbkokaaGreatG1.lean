import Derived.Test.YtcbandfdmbkokaaGreatG0
namespace Go.Proofs.YtcbandfdmbkokaaGreat.Ev
open Go
set_option maxRecDepth 100000
set_option linter.unusedVariables false
set_option linter.unusedSimpArgs false
set_option linter.unnecessarySimpa false
/-! ### simulator/simulatorlaw14.light -/
noncomputable def c10 : EC := (cFn Tryz.prog inl Tryz.f10).getD .stop
def O10  (L : Nat) : Oracle := noC
theorem s10   (L : Nat) : SoundC Tryz.prog (O10 L) := (noC_sound Tryz.prog)
def T_L14_light {A : Type} (an : An A)  (L : Nat) (a0 : api_Env) (out : Bool → A) : A :=
 (an.jp (bif (decide ((a0.Params.length : Int) ≤ 40)) then (decide ((a0.Locals.length : Int) ≤ 20))
 else false) (fun j => (an.cn (decide ((a0.Params.length : Int) ≤ 40))
 (an.ap j (decide ((a0.Locals.length : Int) ≤ 20)))
 (an.ap j false))) (fun b1 =>
 (an.jp (bif b1 then (decide ((w64 ((w64 ((w64 ((w64 ((w64 ((w64 ((w64 ((w64 ((w64 ((a0.Site.Vars.length : Int) + (a0.Site.Resources.length : Int))) + (a0.Site.Stores.length : Int))) + (a0.Site.Belts.length : Int))) + (a0.Site.Queues.length : Int))) + (a0.Site.Streams.length : Int))) + (a0.Site.Tallies.length : Int))) + (a0.Site.Levels.length : Int))) + (a0.Site.Counts.length : Int))) + (a0.Site.Routines.length : Int))) ≤ 80))
 else false) (fun j => (an.cn b1
 (an.ap j (decide ((w64 ((w64 ((w64 ((w64 ((w64 ((w64 ((w64 ((w64 ((w64 ((a0.Site.Vars.length : Int) + (a0.Site.Resources.length : Int))) + (a0.Site.Stores.length : Int))) + (a0.Site.Belts.length : Int))) + (a0.Site.Queues.length : Int))) + (a0.Site.Streams.length : Int))) + (a0.Site.Tallies.length : Int))) + (a0.Site.Levels.length : Int))) + (a0.Site.Counts.length : Int))) + (a0.Site.Routines.length : Int))) ≤ 80)))
 (an.ap j false))) (fun b2 =>
 (an.lf out b2)))))
def F_L14_light  (L : Nat) (a0 : api_Env) : Option Bool := T_L14_light (anO _) L a0 some
theorem e10  (L : Nat) (a0 : api_Env) (kk : PV → Prop) : EW (O10 L) L 9 (RS Tryz.f10) c10 [.agg (enapi_Env a0)] kk = ob (F_L14_light L a0) (fun (x : Bool) => kk (B x)) := by
  refine Eq.trans (b := T_L14_light anP L a0 (fun (x : Bool) => kk (B x))) (by kernel_rfl) ?_
  generalize (fun (x : Bool) => kk (B x)) = Q
  unfold F_L14_light T_L14_light
  dsimp only [anP, anO]
  try simp only [y1, y2, y3, y4, y5 Q, y6, y7, y8 Q, y9, z1, z2, z3, z4]
theorem h10   (L : Nat) (a0 : api_Env) (r : Bool) (h : F_L14_light L a0 = some r) : Holds Tryz.prog 10 [.agg (enapi_Env a0)] (B r) :=
  hE grwOK (s10  L) mixed Tryz.func10 (by kernel_rfl : cFn Tryz.prog inl Tryz.f10 = some c10) (er := fun (x : Bool) => B x) (by kernel_rfl) (e10 L a0) h

/-! ### simulator/expr.Nodes -/
noncomputable def c81 : EC := (cFn Tryz.prog inl Tryz.f81).getD .stop
def O81 (rec81 : api_Expr → Option Int) (L : Nat) : Oracle := (orc 81 (A1 (fun (x : Int) => I x) ca_api_Expr rec81) noC)
theorem s81 (rec81 : api_Expr → Option Int) (hr81 : ∀ (y0 : api_Expr) (r : Int), rec81 y0 = some r → Holds Tryz.prog 81 [.agg (enapi_Expr y0)] (I r)) (L : Nat) : SoundC Tryz.prog (O81 rec81 L) := (orc_sound (a1 _ hr81) (noC_sound Tryz.prog))
def sh81_1 (a0 : api_Expr) (v1_1 : Int) (v1_4 : Int) : St := ({ fr := [(0, .any), (1, .any), (2, I 0), (3, I v1_1), (7, .lst false (.t38 a0.Kids)), (8, I (a0.Kids.length : Int)), (9, I v1_4)], ob := [(1, (enapi_Expr a0))], base := 0 } : St)
def KK81_1 (a0 : api_Expr) (K : Ex → St → Prop) : Nat × (Int × Int) → Prop := fun o => seln o.1 [K (.exit 0) (sh81_1 a0 o.2.1 o.2.2)]
def lb_expr_Nodes_1 {A : Type} (an : An A) (rec81 : api_Expr → Option Int) (L : Nat) (a0 : api_Expr) (rec : Int → Int → A) (out : Nat × (Int × Int) → A) (v1_1 : Int) (v1_4 : Int) : A :=
 (an.cn (decide (v1_4 < (a0.Kids.length : Int)))
 (an.gd ((0 : Int) ≤ v1_4)
 (an.gd (v1_4 < ((a0.Kids.length : Nat) : Int))
 (an.bd (rec81 (api_Expr.cp (a0.Kids.getD (Int.toNat v1_4) default))) fun r1 =>
 (rec (w64 (v1_1 + r1)) (w64 (v1_4 + 1))))))
 (an.lf out (0, (v1_1, v1_4))))
def lp_expr_Nodes_1 (rec81 : api_Expr → Option Int) (L : Nat) (a0 : api_Expr) : Nat → Int → Int → Option (Nat × (Int × Int))
  | 0, _, _ => none
  | n + 1, v1_1, v1_4 => lb_expr_Nodes_1 (anO _) rec81 L a0 (lp_expr_Nodes_1 rec81 L a0 n) some v1_1 v1_4
theorem ln81_1 (rec81 : api_Expr → Option Int) (L : Nat) (a0 : api_Expr) (g : Int → Int → Option (Nat × (Int × Int))) (Q : Nat × (Int × Int) → Prop) (v1_1 : Int) (v1_4 : Int) : lb_expr_Nodes_1 anP rec81 L a0 (fun v1_1 v1_4 => ob (g v1_1 v1_4) Q) Q v1_1 v1_4 = ob (lb_expr_Nodes_1 (anO _) rec81 L a0 g some v1_1 v1_4) Q := by
  unfold lb_expr_Nodes_1
  dsimp only [anP, anO]
  try simp only [y1, y2, y3, y4, y5 Q, y6, y7, y8 Q, y9, z1, z2, z3, z4]
theorem le81_1 (rec81 : api_Expr → Option Int) (L : Nat) (a0 : api_Expr) (n : Nat) (v1_1 : Int) (v1_4 : Int) (K : Ex → St → Prop) : loopN (EV (O81 rec81 L) L 9 c81.r.r.r.r.l.r.r.l.l) [0, 1, 2, 3, 7, 8, 9] [1] n (sh81_1 a0 v1_1 v1_4) K = ob (lp_expr_Nodes_1 rec81 L a0 n v1_1 v1_4) (fun o => KK81_1 a0 K o) := by
  induction n generalizing v1_1 v1_4 with
  | zero => rfl
  | succ n ih =>
    refine Eq.trans (b := lb_expr_Nodes_1 anP rec81 L a0 (fun v1_1 v1_4 => loopN (EV (O81 rec81 L) L 9 c81.r.r.r.r.l.r.r.l.l) [0, 1, 2, 3, 7, 8, 9] [1] n (sh81_1 a0 v1_1 v1_4) K) (KK81_1 a0 K) v1_1 v1_4) (by kernel_rfl) ?_
    simp only [ih]
    exact ln81_1 rec81 L a0 (lp_expr_Nodes_1 rec81 L a0 n) (KK81_1 a0 K) v1_1 v1_4
def kc81_1 (rec81 : api_Expr → Option Int) (L : Nat)  (kk : PV → Prop) : Ex → St → Prop := (kBlock 0 (kSeq (EV (O81 rec81 L) L 9 c81.r.r.r.r.r) (kEnd Tryz.prog (RS Tryz.f81) kk)))
theorem q81_1 (rec81 : api_Expr → Option Int) (L : Nat) (a0 : api_Expr) (kk : PV → Prop) (o1 : Nat × (Int × Int)) : KK81_1 a0 (kc81_1 rec81 L kk) o1 =
 (seln o1.1 [(ob (some o1.2.1) (fun (x : Int) => kk (I x)))]) := by kernel_rfl
def T_expr_Nodes {A : Type} (an : An A) (rec81 : api_Expr → Option Int) (L : Nat) (a0 : api_Expr) (out : Int → A) : A :=
 (an.bd (lp_expr_Nodes_1 rec81 L a0 L 1 0) fun o1 =>
 (an.sl o1.1 [(an.lf out o1.2.1)]))
def B_expr_Nodes (rec81 : api_Expr → Option Int) (L : Nat) (a0 : api_Expr) : Option Int := T_expr_Nodes (anO _) rec81 L a0 some
theorem e81 (rec81 : api_Expr → Option Int) (L : Nat) (a0 : api_Expr) (kk : PV → Prop) : EW (O81 rec81 L) L 9 (RS Tryz.f81) c81 [.agg (enapi_Expr a0)] kk = ob (B_expr_Nodes rec81 L a0) (fun (x : Int) => kk (I x)) := by
  refine Eq.trans (b := T_expr_Nodes anP rec81 L a0 (fun (x : Int) => kk (I x))) ?_ ?_
  · refine Eq.trans (b := (loopN (EV (O81 rec81 L) L 9 c81.r.r.r.r.l.r.r.l.l) [0, 1, 2, 3, 7, 8, 9] [1] L (sh81_1 a0 1 0) (kc81_1 rec81 L kk))) (by kernel_rfl) ?_
    unfold T_expr_Nodes
    dsimp only [anP]
    simp only [le81_1, q81_1]
  generalize (fun (x : Int) => kk (I x)) = Q
  unfold B_expr_Nodes T_expr_Nodes
  dsimp only [anP, anO]
  try simp only [y1, y2, y3, y4, y5 Q, y6, y7, y8 Q, y9, z1, z2, z3, z4]
theorem b81 (rec81 : api_Expr → Option Int) (hr81 : ∀ (y0 : api_Expr) (r : Int), rec81 y0 = some r → Holds Tryz.prog 81 [.agg (enapi_Expr y0)] (I r)) (L : Nat) (a0 : api_Expr) (r : Int) (h : B_expr_Nodes rec81 L a0 = some r) : Holds Tryz.prog 81 [.agg (enapi_Expr a0)] (I r) :=
  hE grwOK (s81 rec81 hr81 L) mixed Tryz.func81 (by kernel_rfl : cFn Tryz.prog inl Tryz.f81 = some c81) (er := fun (x : Int) => I x) (by kernel_rfl) (e81 rec81 L a0) h
def F_expr_Nodes : Nat → api_Expr → Option Int
  | 0, _ => none
  | L + 1, a0 => B_expr_Nodes (F_expr_Nodes L) L a0
theorem hall81 : ∀ L, (∀ (y0 : api_Expr) (r : Int), F_expr_Nodes L y0 = some r → Holds Tryz.prog 81 [.agg (enapi_Expr y0)] (I r)) := by
  intro L
  induction L with
  | zero => exact fun _ r h => (by cases h)
  | succ L ih =>
    have i81 := ih
    exact fun y0 r h => b81 (F_expr_Nodes L) i81 L y0 r h
theorem h81 (L : Nat) : ∀ (y0 : api_Expr) (r : Int), F_expr_Nodes L y0 = some r → Holds Tryz.prog 81 [.agg (enapi_Expr y0)] (I r) := hall81 L

/-! ### simulator/expr.Depth -/
noncomputable def c82 : EC := (cFn Tryz.prog inl Tryz.f82).getD .stop
def O82 (rec82 : api_Expr → Option Int) (L : Nat) : Oracle := (orc 82 (A1 (fun (x : Int) => I x) ca_api_Expr rec82) noC)
theorem s82 (rec82 : api_Expr → Option Int) (hr82 : ∀ (y0 : api_Expr) (r : Int), rec82 y0 = some r → Holds Tryz.prog 82 [.agg (enapi_Expr y0)] (I r)) (L : Nat) : SoundC Tryz.prog (O82 rec82 L) := (orc_sound (a1 _ hr82) (noC_sound Tryz.prog))
def sh82_1 (a0 : api_Expr) (v1_1 : Int) (v1_4 : Int) : St := ({ fr := [(0, .any), (1, .any), (2, I 0), (3, I v1_1), (7, .lst false (.t38 a0.Kids)), (8, I (a0.Kids.length : Int)), (9, I v1_4)], ob := [(1, (enapi_Expr a0))], base := 0 } : St)
def KK82_1 (a0 : api_Expr) (K : Ex → St → Prop) : Nat × (Int × Int) → Prop := fun o => seln o.1 [K (.exit 0) (sh82_1 a0 o.2.1 o.2.2)]
def lb_expr_Depth_1 {A : Type} (an : An A) (rec82 : api_Expr → Option Int) (L : Nat) (a0 : api_Expr) (rec : Int → Int → A) (out : Nat × (Int × Int) → A) (v1_1 : Int) (v1_4 : Int) : A :=
 (an.cn (decide (v1_4 < (a0.Kids.length : Int)))
 (an.gd ((0 : Int) ≤ v1_4)
 (an.gd (v1_4 < ((a0.Kids.length : Nat) : Int))
 (an.bd (rec82 (api_Expr.cp (a0.Kids.getD (Int.toNat v1_4) default))) fun r1 =>
 (rec (if r1 > v1_1 then r1 else v1_1) (w64 (v1_4 + 1))))))
 (an.lf out (0, (v1_1, v1_4))))
def lp_expr_Depth_1 (rec82 : api_Expr → Option Int) (L : Nat) (a0 : api_Expr) : Nat → Int → Int → Option (Nat × (Int × Int))
  | 0, _, _ => none
  | n + 1, v1_1, v1_4 => lb_expr_Depth_1 (anO _) rec82 L a0 (lp_expr_Depth_1 rec82 L a0 n) some v1_1 v1_4
theorem ln82_1 (rec82 : api_Expr → Option Int) (L : Nat) (a0 : api_Expr) (g : Int → Int → Option (Nat × (Int × Int))) (Q : Nat × (Int × Int) → Prop) (v1_1 : Int) (v1_4 : Int) : lb_expr_Depth_1 anP rec82 L a0 (fun v1_1 v1_4 => ob (g v1_1 v1_4) Q) Q v1_1 v1_4 = ob (lb_expr_Depth_1 (anO _) rec82 L a0 g some v1_1 v1_4) Q := by
  unfold lb_expr_Depth_1
  dsimp only [anP, anO]
  try simp only [y1, y2, y3, y4, y5 Q, y6, y7, y8 Q, y9, z1, z2, z3, z4]
theorem le82_1 (rec82 : api_Expr → Option Int) (L : Nat) (a0 : api_Expr) (n : Nat) (v1_1 : Int) (v1_4 : Int) (K : Ex → St → Prop) : loopN (EV (O82 rec82 L) L 9 c82.r.r.r.r.l.r.r.l.l) [0, 1, 2, 3, 7, 8, 9] [1] n (sh82_1 a0 v1_1 v1_4) K = ob (lp_expr_Depth_1 rec82 L a0 n v1_1 v1_4) (fun o => KK82_1 a0 K o) := by
  induction n generalizing v1_1 v1_4 with
  | zero => rfl
  | succ n ih =>
    refine Eq.trans (b := lb_expr_Depth_1 anP rec82 L a0 (fun v1_1 v1_4 => loopN (EV (O82 rec82 L) L 9 c82.r.r.r.r.l.r.r.l.l) [0, 1, 2, 3, 7, 8, 9] [1] n (sh82_1 a0 v1_1 v1_4) K) (KK82_1 a0 K) v1_1 v1_4) (by kernel_rfl) ?_
    simp only [ih]
    exact ln82_1 rec82 L a0 (lp_expr_Depth_1 rec82 L a0 n) (KK82_1 a0 K) v1_1 v1_4
def kc82_1 (rec82 : api_Expr → Option Int) (L : Nat)  (kk : PV → Prop) : Ex → St → Prop := (kBlock 0 (kSeq (EV (O82 rec82 L) L 9 c82.r.r.r.r.r) (kEnd Tryz.prog (RS Tryz.f82) kk)))
theorem q82_1 (rec82 : api_Expr → Option Int) (L : Nat) (a0 : api_Expr) (kk : PV → Prop) (o1 : Nat × (Int × Int)) : KK82_1 a0 (kc82_1 rec82 L kk) o1 =
 (seln o1.1 [(ob (some (w64 (o1.2.1 + 1))) (fun (x : Int) => kk (I x)))]) := by kernel_rfl
def T_expr_Depth {A : Type} (an : An A) (rec82 : api_Expr → Option Int) (L : Nat) (a0 : api_Expr) (out : Int → A) : A :=
 (an.bd (lp_expr_Depth_1 rec82 L a0 L 0 0) fun o1 =>
 (an.sl o1.1 [(an.lf out (w64 (o1.2.1 + 1)))]))
def B_expr_Depth (rec82 : api_Expr → Option Int) (L : Nat) (a0 : api_Expr) : Option Int := T_expr_Depth (anO _) rec82 L a0 some
theorem e82 (rec82 : api_Expr → Option Int) (L : Nat) (a0 : api_Expr) (kk : PV → Prop) : EW (O82 rec82 L) L 9 (RS Tryz.f82) c82 [.agg (enapi_Expr a0)] kk = ob (B_expr_Depth rec82 L a0) (fun (x : Int) => kk (I x)) := by
  refine Eq.trans (b := T_expr_Depth anP rec82 L a0 (fun (x : Int) => kk (I x))) ?_ ?_
  · refine Eq.trans (b := (loopN (EV (O82 rec82 L) L 9 c82.r.r.r.r.l.r.r.l.l) [0, 1, 2, 3, 7, 8, 9] [1] L (sh82_1 a0 0 0) (kc82_1 rec82 L kk))) (by kernel_rfl) ?_
    unfold T_expr_Depth
    dsimp only [anP]
    simp only [le82_1, q82_1]
  generalize (fun (x : Int) => kk (I x)) = Q
  unfold B_expr_Depth T_expr_Depth
  dsimp only [anP, anO]
  try simp only [y1, y2, y3, y4, y5 Q, y6, y7, y8 Q, y9, z1, z2, z3, z4]
theorem b82 (rec82 : api_Expr → Option Int) (hr82 : ∀ (y0 : api_Expr) (r : Int), rec82 y0 = some r → Holds Tryz.prog 82 [.agg (enapi_Expr y0)] (I r)) (L : Nat) (a0 : api_Expr) (r : Int) (h : B_expr_Depth rec82 L a0 = some r) : Holds Tryz.prog 82 [.agg (enapi_Expr a0)] (I r) :=
  hE grwOK (s82 rec82 hr82 L) mixed Tryz.func82 (by kernel_rfl : cFn Tryz.prog inl Tryz.f82 = some c82) (er := fun (x : Int) => I x) (by kernel_rfl) (e82 rec82 L a0) h
def F_expr_Depth : Nat → api_Expr → Option Int
  | 0, _ => none
  | L + 1, a0 => B_expr_Depth (F_expr_Depth L) L a0
theorem hall82 : ∀ L, (∀ (y0 : api_Expr) (r : Int), F_expr_Depth L y0 = some r → Holds Tryz.prog 82 [.agg (enapi_Expr y0)] (I r)) := by
  intro L
  induction L with
  | zero => exact fun _ r h => (by cases h)
  | succ L ih =>
    have i82 := ih
    exact fun y0 r h => b82 (F_expr_Depth L) i82 L y0 r h
theorem h82 (L : Nat) : ∀ (y0 : api_Expr) (r : Int), F_expr_Depth L y0 = some r → Holds Tryz.prog 82 [.agg (enapi_Expr y0)] (I r) := hall82 L

/-! ### simulator/expr.kids -/
noncomputable def c216 : EC := (cFn Tryz.prog inl Tryz.f216).getD .stop
def O216  (L : Nat) : Oracle := noC
theorem s216   (L : Nat) : SoundC Tryz.prog (O216 L) := (noC_sound Tryz.prog)
def T_expr_kids {A : Type} (an : An A)  (L : Nat) (a0 : Int) (out : Int → A) : A :=
 (an.jp (bif (a0 == 1) then true
 else (a0 == 2)) (fun j => (an.cn (a0 == 1)
 (an.ap j true)
 (an.ap j (a0 == 2)))) (fun b1 =>
 (an.jp (bif b1 then true
 else (a0 == 3)) (fun j => (an.cn b1
 (an.ap j true)
 (an.ap j (a0 == 3)))) (fun b2 =>
 (an.jp (bif b2 then true
 else (a0 == 4)) (fun j => (an.cn b2
 (an.ap j true)
 (an.ap j (a0 == 4)))) (fun b3 =>
 (an.cn b3
 (an.lf out 0)
 (an.jp (bif (decide (a0 ≥ 5)) then (decide (a0 ≤ 8))
 else false) (fun j => (an.cn (decide (a0 ≥ 5))
 (an.ap j (decide (a0 ≤ 8)))
 (an.ap j false))) (fun b4 =>
 (an.cn b4
 (an.lf out 1)
 (an.jp (bif (decide (a0 ≥ 9)) then (decide (a0 ≤ 21))
 else false) (fun j => (an.cn (decide (a0 ≥ 9))
 (an.ap j (decide (a0 ≤ 21)))
 (an.ap j false))) (fun b5 =>
 (an.cn b5
 (an.lf out 2)
 (an.jp (bif (decide (a0 ≥ 22)) then (decide (a0 ≤ 26))
 else false) (fun j => (an.cn (decide (a0 ≥ 22))
 (an.ap j (decide (a0 ≤ 26)))
 (an.ap j false))) (fun b6 =>
 (an.cn b6
 (an.lf out 0)
 (an.lf out (-1))))))))))))))))))
def F_expr_kids  (L : Nat) (a0 : Int) : Option Int := T_expr_kids (anO _) L a0 some
theorem e216  (L : Nat) (a0 : Int) (kk : PV → Prop) : EW (O216 L) L 9 (RS Tryz.f216) c216 [I a0] kk = ob (F_expr_kids L a0) (fun (x : Int) => kk (I x)) := by
  refine Eq.trans (b := T_expr_kids anP L a0 (fun (x : Int) => kk (I x))) (by kernel_rfl) ?_
  generalize (fun (x : Int) => kk (I x)) = Q
  unfold F_expr_kids T_expr_kids
  dsimp only [anP, anO]
  try simp only [y1, y2, y3, y4, y5 Q, y6, y7, y8 Q, y9, z1, z2, z3, z4]
theorem h216   (L : Nat) (a0 : Int) (r : Int) (h : F_expr_kids L a0 = some r) : Holds Tryz.prog 216 [I a0] (I r) :=
  hE grwOK (s216  L) mixed Tryz.func216 (by kernel_rfl : cFn Tryz.prog inl Tryz.f216 = some c216) (er := fun (x : Int) => I x) (by kernel_rfl) (e216 L a0) h

/-! ### (simulator/expr.kind).known -/
noncomputable def c215 : EC := (cFn Tryz.prog inl Tryz.f215).getD .stop
def O215  (L : Nat) : Oracle := (orc 216 (A1 (fun (x : Int) => I x) (cI .i64) (F_expr_kids L)) noC)
theorem s215   (L : Nat) : SoundC Tryz.prog (O215 L) := (orc_sound (a1 _ (h216 L)) (noC_sound Tryz.prog))
def T_expr_kind_known {A : Type} (an : An A)  (L : Nat) (a0 : expr_kind) (a1 : Int) (out : Bool → A) : A :=
 (an.cn (a1 == 3)
 (an.lf out (!a0.u_code))
 (an.cn (a1 == 25)
 (an.cn (a1 == 25)
 (an.lf out a0.u_code)
 (an.bd (F_expr_kids L a1) fun r1 =>
 (an.lf out (decide (r1 ≥ 0)))))
 (an.cn (a1 == 26)
 (an.lf out a0.u_code)
 (an.bd (F_expr_kids L a1) fun r2 =>
 (an.lf out (decide (r2 ≥ 0)))))))
def F_expr_kind_known  (L : Nat) (a0 : expr_kind) (a1 : Int) : Option Bool := T_expr_kind_known (anO _) L a0 a1 some
theorem e215  (L : Nat) (a0 : expr_kind) (a1 : Int) (kk : PV → Prop) : EW (O215 L) L 9 (RS Tryz.f215) c215 [.agg [B a0.u_code], I a1] kk = ob (F_expr_kind_known L a0 a1) (fun (x : Bool) => kk (B x)) := by
  refine Eq.trans (b := T_expr_kind_known anP L a0 a1 (fun (x : Bool) => kk (B x))) (by kernel_rfl) ?_
  generalize (fun (x : Bool) => kk (B x)) = Q
  unfold F_expr_kind_known T_expr_kind_known
  dsimp only [anP, anO]
  try simp only [y1, y2, y3, y4, y5 Q, y6, y7, y8 Q, y9, z1, z2, z3, z4]
theorem h215   (L : Nat) (a0 : expr_kind) (a1 : Int) (r : Bool) (h : F_expr_kind_known L a0 a1 = some r) : Holds Tryz.prog 215 [.agg [B a0.u_code], I a1] (B r) :=
  hE grwOK (s215  L) mixed Tryz.func215 (by kernel_rfl : cFn Tryz.prog inl Tryz.f215 = some c215) (er := fun (x : Bool) => B x) (by kernel_rfl) (e215 L a0 a1) h

/-! ### simulator/expr.object -/
noncomputable def c78 : EC := (cFn Tryz.prog inl Tryz.f78).getD .stop
def O78  (L : Nat) : Oracle := noC
theorem s78   (L : Nat) : SoundC Tryz.prog (O78 L) := (noC_sound Tryz.prog)
def T_expr_object {A : Type} (an : An A)  (L : Nat) (a0 : Int) (out : Bool → A) : A :=
 (an.jp (bif (decide (a0 ≥ 22)) then (decide (a0 ≤ 24))
 else false) (fun j => (an.cn (decide (a0 ≥ 22))
 (an.ap j (decide (a0 ≤ 24)))
 (an.ap j false))) (fun b1 =>
 (an.lf out b1)))
def F_expr_object  (L : Nat) (a0 : Int) : Option Bool := T_expr_object (anO _) L a0 some
theorem e78  (L : Nat) (a0 : Int) (kk : PV → Prop) : EW (O78 L) L 9 (RS Tryz.f78) c78 [I a0] kk = ob (F_expr_object L a0) (fun (x : Bool) => kk (B x)) := by
  refine Eq.trans (b := T_expr_object anP L a0 (fun (x : Bool) => kk (B x))) (by kernel_rfl) ?_
  generalize (fun (x : Bool) => kk (B x)) = Q
  unfold F_expr_object T_expr_object
  dsimp only [anP, anO]
  try simp only [y1, y2, y3, y4, y5 Q, y6, y7, y8 Q, y9, z1, z2, z3, z4]
theorem h78   (L : Nat) (a0 : Int) (r : Bool) (h : F_expr_object L a0 = some r) : Holds Tryz.prog 78 [I a0] (B r) :=
  hE grwOK (s78  L) mixed Tryz.func78 (by kernel_rfl : cFn Tryz.prog inl Tryz.f78 = some c78) (er := fun (x : Bool) => B x) (by kernel_rfl) (e78 L a0) h

/-! ### (simulator/expr.kind).named -/
noncomputable def c217 : EC := (cFn Tryz.prog inl Tryz.f217).getD .stop
def O217  (L : Nat) : Oracle := (orc 78 (A1 (fun (x : Bool) => B x) (cI .i64) (F_expr_object L)) noC)
theorem s217   (L : Nat) : SoundC Tryz.prog (O217 L) := (orc_sound (a1 _ (h78 L)) (noC_sound Tryz.prog))
def T_expr_kind_named {A : Type} (an : An A)  (L : Nat) (a0 : expr_kind) (a1 : Int) (out : Bool → A) : A :=
 (an.jb (bif (a1 == 3) then (some true)
 else (Option.bind (F_expr_object L a1) fun r2 =>
 (bif r2 then (some (!a0.u_code))
 else (some false)))) (fun j => (an.cn (a1 == 3)
 (an.lf j true)
 (an.bd (F_expr_object L a1) fun r3 =>
 (an.cn r3
 (an.lf j (!a0.u_code))
 (an.lf j false))))) (fun b1 =>
 (an.lf out b1)))
def F_expr_kind_named  (L : Nat) (a0 : expr_kind) (a1 : Int) : Option Bool := T_expr_kind_named (anO _) L a0 a1 some
theorem e217  (L : Nat) (a0 : expr_kind) (a1 : Int) (kk : PV → Prop) : EW (O217 L) L 9 (RS Tryz.f217) c217 [.agg [B a0.u_code], I a1] kk = ob (F_expr_kind_named L a0 a1) (fun (x : Bool) => kk (B x)) := by
  refine Eq.trans (b := T_expr_kind_named anP L a0 a1 (fun (x : Bool) => kk (B x))) (by kernel_rfl) ?_
  generalize (fun (x : Bool) => kk (B x)) = Q
  unfold F_expr_kind_named T_expr_kind_named
  dsimp only [anP, anO]
  try simp only [y1, y2, y3, y4, y5 Q, y6, y7, y8 Q, y9, z1, z2, z3, z4]
theorem h217   (L : Nat) (a0 : expr_kind) (a1 : Int) (r : Bool) (h : F_expr_kind_named L a0 a1 = some r) : Holds Tryz.prog 217 [.agg [B a0.u_code], I a1] (B r) :=
  hE grwOK (s217  L) mixed Tryz.func217 (by kernel_rfl : cFn Tryz.prog inl Tryz.f217 = some c217) (er := fun (x : Bool) => B x) (by kernel_rfl) (e217 L a0 a1) h

/-! ### simulator/num.In -/
noncomputable def c199 : EC := (cFn Tryz.prog inl Tryz.f199).getD .stop
def O199  (L : Nat) : Oracle := noC
theorem s199   (L : Nat) : SoundC Tryz.prog (O199 L) := (noC_sound Tryz.prog)
def T_num_In {A : Type} (an : An A)  (L : Nat) (a0 : Int) (out : Bool → A) : A :=
 (an.jp (bif (decide (a0 ≥ (-1000000000000))) then (decide (a0 ≤ 1000000000000))
 else false) (fun j => (an.cn (decide (a0 ≥ (-1000000000000)))
 (an.ap j (decide (a0 ≤ 1000000000000)))
 (an.ap j false))) (fun b1 =>
 (an.lf out b1)))
def F_num_In  (L : Nat) (a0 : Int) : Option Bool := T_num_In (anO _) L a0 some
theorem e199  (L : Nat) (a0 : Int) (kk : PV → Prop) : EW (O199 L) L 9 (RS Tryz.f199) c199 [I a0] kk = ob (F_num_In L a0) (fun (x : Bool) => kk (B x)) := by
  refine Eq.trans (b := T_num_In anP L a0 (fun (x : Bool) => kk (B x))) (by kernel_rfl) ?_
  generalize (fun (x : Bool) => kk (B x)) = Q
  unfold F_num_In T_num_In
  dsimp only [anP, anO]
  try simp only [y1, y2, y3, y4, y5 Q, y6, y7, y8 Q, y9, z1, z2, z3, z4]
theorem h199   (L : Nat) (a0 : Int) (r : Bool) (h : F_num_In L a0 = some r) : Holds Tryz.prog 199 [I a0] (B r) :=
  hE grwOK (s199  L) mixed Tryz.func199 (by kernel_rfl : cFn Tryz.prog inl Tryz.f199 = some c199) (er := fun (x : Bool) => B x) (by kernel_rfl) (e199 L a0) h

/-! ### (simulator/expr.kind).numbers -/
noncomputable def c218 : EC := (cFn Tryz.prog inl Tryz.f218).getD .stop
def O218  (L : Nat) : Oracle := (orc 78 (A1 (fun (x : Bool) => B x) (cI .i64) (F_expr_object L)) noC)
theorem s218   (L : Nat) : SoundC Tryz.prog (O218 L) := (orc_sound (a1 _ (h78 L)) (noC_sound Tryz.prog))
def T_expr_kind_numbers {A : Type} (an : An A)  (L : Nat) (a0 : expr_kind) (a1 : Int) (out : (Int × Int × Bool) → A) : A :=
 (an.cn (a1 == 2)
 (an.lf out (0, 1, true))
 (an.cn (a1 == 25)
 (an.lf out (0, 15, true))
 (an.cn (a1 == 26)
 (an.lf out (0, 31, true))
 (an.bd (F_expr_object L a1) fun r1 =>
 (an.jp (bif r1 then a0.u_code
 else false) (fun j => (an.cn r1
 (an.ap j a0.u_code)
 (an.ap j false))) (fun b2 =>
 (an.cn b2
 (an.lf out (0, 63, true))
 (an.lf out (0, 0, false)))))))))
def F_expr_kind_numbers  (L : Nat) (a0 : expr_kind) (a1 : Int) : Option (Int × Int × Bool) := T_expr_kind_numbers (anO _) L a0 a1 some
theorem e218  (L : Nat) (a0 : expr_kind) (a1 : Int) (kk : PV → Prop) : EW (O218 L) L 9 (RS Tryz.f218) c218 [.agg [B a0.u_code], I a1] kk = ob (F_expr_kind_numbers L a0 a1) (fun (x : (Int × Int × Bool)) => kk (.tup [I x.1, I x.2.1, B x.2.2])) := by
  refine Eq.trans (b := T_expr_kind_numbers anP L a0 a1 (fun (x : (Int × Int × Bool)) => kk (.tup [I x.1, I x.2.1, B x.2.2]))) (by kernel_rfl) ?_
  generalize (fun (x : (Int × Int × Bool)) => kk (.tup [I x.1, I x.2.1, B x.2.2])) = Q
  unfold F_expr_kind_numbers T_expr_kind_numbers
  dsimp only [anP, anO]
  try simp only [y1, y2, y3, y4, y5 Q, y6, y7, y8 Q, y9, z1, z2, z3, z4]
theorem h218   (L : Nat) (a0 : expr_kind) (a1 : Int) (r : (Int × Int × Bool)) (h : F_expr_kind_numbers L a0 a1 = some r) : Holds Tryz.prog 218 [.agg [B a0.u_code], I a1] (.tup [I r.1, I r.2.1, B r.2.2]) :=
  hE grwOK (s218  L) mixed Tryz.func218 (by kernel_rfl : cFn Tryz.prog inl Tryz.f218 = some c218) (er := fun (x : (Int × Int × Bool)) => .tup [I x.1, I x.2.1, B x.2.2]) (by kernel_rfl) (e218 L a0 a1) h

/-! ### simulator/names.letter -/
noncomputable def c101 : EC := (cFn Tryz.prog inl Tryz.f101).getD .stop
def O101  (L : Nat) : Oracle := noC
theorem s101   (L : Nat) : SoundC Tryz.prog (O101 L) := (noC_sound Tryz.prog)
def T_names_letter {A : Type} (an : An A)  (L : Nat) (a0 : Int) (out : Bool → A) : A :=
 (an.jp (bif (decide (a0 ≥ 97)) then (decide (a0 ≤ 122))
 else false) (fun j => (an.cn (decide (a0 ≥ 97))
 (an.ap j (decide (a0 ≤ 122)))
 (an.ap j false))) (fun b1 =>
 (an.lf out b1)))
def F_names_letter  (L : Nat) (a0 : Int) : Option Bool := T_names_letter (anO _) L a0 some
theorem e101  (L : Nat) (a0 : Int) (kk : PV → Prop) : EW (O101 L) L 9 (RS Tryz.f101) c101 [V .u8 a0] kk = ob (F_names_letter L a0) (fun (x : Bool) => kk (B x)) := by
  refine Eq.trans (b := T_names_letter anP L a0 (fun (x : Bool) => kk (B x))) (by kernel_rfl) ?_
  generalize (fun (x : Bool) => kk (B x)) = Q
  unfold F_names_letter T_names_letter
  dsimp only [anP, anO]
  try simp only [y1, y2, y3, y4, y5 Q, y6, y7, y8 Q, y9, z1, z2, z3, z4]
theorem h101   (L : Nat) (a0 : Int) (r : Bool) (h : F_names_letter L a0 = some r) : Holds Tryz.prog 101 [V .u8 a0] (B r) :=
  hE grwOK (s101  L) mixed Tryz.func101 (by kernel_rfl : cFn Tryz.prog inl Tryz.f101 = some c101) (er := fun (x : Bool) => B x) (by kernel_rfl) (e101 L a0) h

/-! ### simulator/names.Keyword -/
noncomputable def c102 : EC := (cFn Tryz.prog inl Tryz.f102).getD .stop
def O102  (L : Nat) : Oracle := noC
theorem s102   (L : Nat) : SoundC Tryz.prog (O102 L) := (noC_sound Tryz.prog)
def T_names_Keyword {A : Type} (an : An A)  (L : Nat) (a0 : ByteArray) (out : Bool → A) : A :=
 (an.cn (a0.toList == (⟨#[97, 100, 100]⟩ : ByteArray).toList)
 (an.cn (a0.toList == (⟨#[97, 100, 100]⟩ : ByteArray).toList)
 (an.lf out true)
 (an.lf out false))
 (an.cn (a0.toList == (⟨#[97, 102, 116, 101, 114]⟩ : ByteArray).toList)
 (an.cn (a0.toList == (⟨#[97, 102, 116, 101, 114]⟩ : ByteArray).toList)
 (an.lf out true)
 (an.lf out false))
 (an.cn (a0.toList == (⟨#[97, 110, 100]⟩ : ByteArray).toList)
 (an.cn (a0.toList == (⟨#[97, 110, 100]⟩ : ByteArray).toList)
 (an.lf out true)
 (an.lf out false))
 (an.cn (a0.toList == (⟨#[97, 116]⟩ : ByteArray).toList)
 (an.cn (a0.toList == (⟨#[97, 116]⟩ : ByteArray).toList)
 (an.lf out true)
 (an.lf out false))
 (an.cn (a0.toList == (⟨#[98, 101, 108, 116]⟩ : ByteArray).toList)
 (an.cn (a0.toList == (⟨#[98, 101, 108, 116]⟩ : ByteArray).toList)
 (an.lf out true)
 (an.lf out false))
 (an.cn (a0.toList == (⟨#[98, 111, 111, 108]⟩ : ByteArray).toList)
 (an.cn (a0.toList == (⟨#[98, 111, 111, 108]⟩ : ByteArray).toList)
 (an.lf out true)
 (an.lf out false))
 (an.cn (a0.toList == (⟨#[99, 111, 110, 115, 101, 114, 118, 101]⟩ : ByteArray).toList)
 (an.cn (a0.toList == (⟨#[99, 111, 110, 115, 101, 114, 118, 101]⟩ : ByteArray).toList)
 (an.lf out true)
 (an.lf out false))
 (an.cn (a0.toList == (⟨#[99, 111, 110, 115, 116]⟩ : ByteArray).toList)
 (an.cn (a0.toList == (⟨#[99, 111, 110, 115, 116]⟩ : ByteArray).toList)
 (an.lf out true)
 (an.lf out false))
 (an.cn (a0.toList == (⟨#[99, 111, 117, 110, 116]⟩ : ByteArray).toList)
 (an.cn (a0.toList == (⟨#[99, 111, 117, 110, 116]⟩ : ByteArray).toList)
 (an.lf out true)
 (an.lf out false))
 (an.cn (a0.toList == (⟨#[99, 121, 99, 108, 101]⟩ : ByteArray).toList)
 (an.cn (a0.toList == (⟨#[99, 121, 99, 108, 101]⟩ : ByteArray).toList)
 (an.lf out true)
 (an.lf out false))
 (an.cn (a0.toList == (⟨#[100, 111, 119, 110]⟩ : ByteArray).toList)
 (an.cn (a0.toList == (⟨#[100, 111, 119, 110]⟩ : ByteArray).toList)
 (an.lf out true)
 (an.lf out false))
 (an.cn (a0.toList == (⟨#[100, 114, 97, 119]⟩ : ByteArray).toList)
 (an.cn (a0.toList == (⟨#[100, 114, 97, 119]⟩ : ByteArray).toList)
 (an.lf out true)
 (an.lf out false))
 (an.cn (a0.toList == (⟨#[100, 117, 114]⟩ : ByteArray).toList)
 (an.cn (a0.toList == (⟨#[100, 117, 114]⟩ : ByteArray).toList)
 (an.lf out true)
 (an.lf out false))
 (an.cn (a0.toList == (⟨#[101, 108, 115, 101]⟩ : ByteArray).toList)
 (an.cn (a0.toList == (⟨#[101, 108, 115, 101]⟩ : ByteArray).toList)
 (an.lf out true)
 (an.lf out false))
 (an.cn (a0.toList == (⟨#[101, 110, 100]⟩ : ByteArray).toList)
 (an.cn (a0.toList == (⟨#[101, 110, 100]⟩ : ByteArray).toList)
 (an.lf out true)
 (an.lf out false))
 (an.cn (a0.toList == (⟨#[101, 118, 101, 114, 121]⟩ : ByteArray).toList)
 (an.cn (a0.toList == (⟨#[101, 118, 101, 114, 121]⟩ : ByteArray).toList)
 (an.lf out true)
 (an.lf out false))
 (an.cn (a0.toList == (⟨#[102, 97, 108, 115, 101]⟩ : ByteArray).toList)
 (an.cn (a0.toList == (⟨#[102, 97, 108, 115, 101]⟩ : ByteArray).toList)
 (an.lf out true)
 (an.lf out false))
 (an.cn (a0.toList == (⟨#[102, 97, 117, 108, 116]⟩ : ByteArray).toList)
 (an.cn (a0.toList == (⟨#[102, 97, 117, 108, 116]⟩ : ByteArray).toList)
 (an.lf out true)
 (an.lf out false))
 (an.cn (a0.toList == (⟨#[102, 105, 102, 111]⟩ : ByteArray).toList)
 (an.cn (a0.toList == (⟨#[102, 105, 102, 111]⟩ : ByteArray).toList)
 (an.lf out true)
 (an.lf out false))
 (an.cn (a0.toList == (⟨#[102, 114, 101, 101]⟩ : ByteArray).toList)
 (an.cn (a0.toList == (⟨#[102, 114, 101, 101]⟩ : ByteArray).toList)
 (an.lf out true)
 (an.lf out false))
 (an.cn (a0.toList == (⟨#[102, 114, 111, 109]⟩ : ByteArray).toList)
 (an.cn (a0.toList == (⟨#[102, 114, 111, 109]⟩ : ByteArray).toList)
 (an.lf out true)
 (an.lf out false))
 (an.cn (a0.toList == (⟨#[103, 101, 111, 109]⟩ : ByteArray).toList)
 (an.cn (a0.toList == (⟨#[103, 101, 111, 109]⟩ : ByteArray).toList)
 (an.lf out true)
 (an.lf out false))
 (an.cn (a0.toList == (⟨#[103, 101, 116]⟩ : ByteArray).toList)
 (an.cn (a0.toList == (⟨#[103, 101, 116]⟩ : ByteArray).toList)
 (an.lf out true)
 (an.lf out false))
 (an.cn (a0.toList == (⟨#[104, 111, 108, 100]⟩ : ByteArray).toList)
 (an.cn (a0.toList == (⟨#[104, 111, 108, 100]⟩ : ByteArray).toList)
 (an.lf out true)
 (an.lf out false))
 (an.cn (a0.toList == (⟨#[105, 102]⟩ : ByteArray).toList)
 (an.cn (a0.toList == (⟨#[105, 102]⟩ : ByteArray).toList)
 (an.lf out true)
 (an.lf out false))
 (an.cn (a0.toList == (⟨#[105, 110, 116]⟩ : ByteArray).toList)
 (an.cn (a0.toList == (⟨#[105, 110, 116]⟩ : ByteArray).toList)
 (an.lf out true)
 (an.lf out false))
 (an.cn (a0.toList == (⟨#[105, 110, 116, 111]⟩ : ByteArray).toList)
 (an.cn (a0.toList == (⟨#[105, 110, 116, 111]⟩ : ByteArray).toList)
 (an.lf out true)
 (an.lf out false))
 (an.cn (a0.toList == (⟨#[108, 101, 97, 115, 116]⟩ : ByteArray).toList)
 (an.cn (a0.toList == (⟨#[108, 101, 97, 115, 116]⟩ : ByteArray).toList)
 (an.lf out true)
 (an.lf out false))
 (an.cn (a0.toList == (⟨#[108, 101, 118, 101, 108]⟩ : ByteArray).toList)
 (an.cn (a0.toList == (⟨#[108, 101, 118, 101, 108]⟩ : ByteArray).toList)
 (an.lf out true)
 (an.lf out false))
 (an.cn (a0.toList == (⟨#[108, 105, 102, 111]⟩ : ByteArray).toList)
 (an.cn (a0.toList == (⟨#[108, 105, 102, 111]⟩ : ByteArray).toList)
 (an.lf out true)
 (an.lf out false))
 (an.cn (a0.toList == (⟨#[108, 105, 110, 107]⟩ : ByteArray).toList)
 (an.cn (a0.toList == (⟨#[108, 105, 110, 107]⟩ : ByteArray).toList)
 (an.lf out true)
 (an.lf out false))
 (an.cn (a0.toList == (⟨#[108, 111, 99, 97, 108]⟩ : ByteArray).toList)
 (an.cn (a0.toList == (⟨#[108, 111, 99, 97, 108]⟩ : ByteArray).toList)
 (an.lf out true)
 (an.lf out false))
 (an.cn (a0.toList == (⟨#[109, 97, 120]⟩ : ByteArray).toList)
 (an.cn (a0.toList == (⟨#[109, 97, 120]⟩ : ByteArray).toList)
 (an.lf out true)
 (an.lf out false))
 (an.cn (a0.toList == (⟨#[109, 105, 110]⟩ : ByteArray).toList)
 (an.cn (a0.toList == (⟨#[109, 105, 110]⟩ : ByteArray).toList)
 (an.lf out true)
 (an.lf out false))
 (an.cn (a0.toList == (⟨#[109, 111, 100, 101, 108]⟩ : ByteArray).toList)
 (an.cn (a0.toList == (⟨#[109, 111, 100, 101, 108]⟩ : ByteArray).toList)
 (an.lf out true)
 (an.lf out false))
 (an.cn (a0.toList == (⟨#[110, 111, 116]⟩ : ByteArray).toList)
 (an.cn (a0.toList == (⟨#[110, 111, 116]⟩ : ByteArray).toList)
 (an.lf out true)
 (an.lf out false))
 (an.cn (a0.toList == (⟨#[110, 111, 119]⟩ : ByteArray).toList)
 (an.cn (a0.toList == (⟨#[110, 111, 119]⟩ : ByteArray).toList)
 (an.lf out true)
 (an.lf out false))
 (an.cn (a0.toList == (⟨#[111, 98, 115, 101, 114, 118, 101]⟩ : ByteArray).toList)
 (an.cn (a0.toList == (⟨#[111, 98, 115, 101, 114, 118, 101]⟩ : ByteArray).toList)
 (an.lf out true)
 (an.lf out false))
 (an.cn (a0.toList == (⟨#[111, 114]⟩ : ByteArray).toList)
 (an.cn (a0.toList == (⟨#[111, 114]⟩ : ByteArray).toList)
 (an.lf out true)
 (an.lf out false))
 (an.cn (a0.toList == (⟨#[112, 97, 114, 97, 109]⟩ : ByteArray).toList)
 (an.cn (a0.toList == (⟨#[112, 97, 114, 97, 109]⟩ : ByteArray).toList)
 (an.lf out true)
 (an.lf out false))
 (an.cn (a0.toList == (⟨#[112, 114, 101, 101, 109, 112, 116]⟩ : ByteArray).toList)
 (an.cn (a0.toList == (⟨#[112, 114, 101, 101, 109, 112, 116]⟩ : ByteArray).toList)
 (an.lf out true)
 (an.lf out false))
 (an.cn (a0.toList == (⟨#[112, 114, 105, 111]⟩ : ByteArray).toList)
 (an.cn (a0.toList == (⟨#[112, 114, 105, 111]⟩ : ByteArray).toList)
 (an.lf out true)
 (an.lf out false))
 (an.cn (a0.toList == (⟨#[112, 117, 116]⟩ : ByteArray).toList)
 (an.cn (a0.toList == (⟨#[112, 117, 116]⟩ : ByteArray).toList)
 (an.lf out true)
 (an.lf out false))
 (an.cn (a0.toList == (⟨#[113, 117, 101, 117, 101]⟩ : ByteArray).toList)
 (an.cn (a0.toList == (⟨#[113, 117, 101, 117, 101]⟩ : ByteArray).toList)
 (an.lf out true)
 (an.lf out false))
 (an.cn (a0.toList == (⟨#[114, 101, 108, 101, 97, 115, 101]⟩ : ByteArray).toList)
 (an.cn (a0.toList == (⟨#[114, 101, 108, 101, 97, 115, 101]⟩ : ByteArray).toList)
 (an.lf out true)
 (an.lf out false))
 (an.cn (a0.toList == (⟨#[114, 101, 115, 111, 117, 114, 99, 101]⟩ : ByteArray).toList)
 (an.cn (a0.toList == (⟨#[114, 101, 115, 111, 117, 114, 99, 101]⟩ : ByteArray).toList)
 (an.lf out true)
 (an.lf out false))
 (an.cn (a0.toList == (⟨#[114, 105, 100, 101]⟩ : ByteArray).toList)
 (an.cn (a0.toList == (⟨#[114, 105, 100, 101]⟩ : ByteArray).toList)
 (an.lf out true)
 (an.lf out false))
 (an.cn (a0.toList == (⟨#[114, 111, 117, 116, 105, 110, 101]⟩ : ByteArray).toList)
 (an.cn (a0.toList == (⟨#[114, 111, 117, 116, 105, 110, 101]⟩ : ByteArray).toList)
 (an.lf out true)
 (an.lf out false))
 (an.cn (a0.toList == (⟨#[115, 101, 105, 122, 101]⟩ : ByteArray).toList)
 (an.cn (a0.toList == (⟨#[115, 101, 105, 122, 101]⟩ : ByteArray).toList)
 (an.lf out true)
 (an.lf out false))
 (an.cn (a0.toList == (⟨#[115, 101, 110, 100]⟩ : ByteArray).toList)
 (an.cn (a0.toList == (⟨#[115, 101, 110, 100]⟩ : ByteArray).toList)
 (an.lf out true)
 (an.lf out false))
 (an.cn (a0.toList == (⟨#[115, 101, 116]⟩ : ByteArray).toList)
 (an.cn (a0.toList == (⟨#[115, 101, 116]⟩ : ByteArray).toList)
 (an.lf out true)
 (an.lf out false))
 (an.cn (a0.toList == (⟨#[115, 104, 105, 102, 116]⟩ : ByteArray).toList)
 (an.cn (a0.toList == (⟨#[115, 104, 105, 102, 116]⟩ : ByteArray).toList)
 (an.lf out true)
 (an.lf out false))
 (an.cn (a0.toList == (⟨#[115, 105, 103, 110, 97, 108]⟩ : ByteArray).toList)
 (an.cn (a0.toList == (⟨#[115, 105, 103, 110, 97, 108]⟩ : ByteArray).toList)
 (an.lf out true)
 (an.lf out false))
 (an.cn (a0.toList == (⟨#[115, 105, 116, 101]⟩ : ByteArray).toList)
 (an.cn (a0.toList == (⟨#[115, 105, 116, 101]⟩ : ByteArray).toList)
 (an.lf out true)
 (an.lf out false))
 (an.cn (a0.toList == (⟨#[115, 105, 122, 101]⟩ : ByteArray).toList)
 (an.cn (a0.toList == (⟨#[115, 105, 122, 101]⟩ : ByteArray).toList)
 (an.lf out true)
 (an.lf out false))
 (an.cn (a0.toList == (⟨#[115, 112, 97, 119, 110]⟩ : ByteArray).toList)
 (an.cn (a0.toList == (⟨#[115, 112, 97, 119, 110]⟩ : ByteArray).toList)
 (an.lf out true)
 (an.lf out false))
 (an.cn (a0.toList == (⟨#[115, 116, 97, 114, 116]⟩ : ByteArray).toList)
 (an.cn (a0.toList == (⟨#[115, 116, 97, 114, 116]⟩ : ByteArray).toList)
 (an.lf out true)
 (an.lf out false))
 (an.cn (a0.toList == (⟨#[115, 116, 111, 112]⟩ : ByteArray).toList)
 (an.cn (a0.toList == (⟨#[115, 116, 111, 112]⟩ : ByteArray).toList)
 (an.lf out true)
 (an.lf out false))
 (an.cn (a0.toList == (⟨#[115, 116, 111, 114, 101]⟩ : ByteArray).toList)
 (an.cn (a0.toList == (⟨#[115, 116, 111, 114, 101]⟩ : ByteArray).toList)
 (an.lf out true)
 (an.lf out false))
 (an.cn (a0.toList == (⟨#[115, 116, 114, 101, 97, 109]⟩ : ByteArray).toList)
 (an.cn (a0.toList == (⟨#[115, 116, 114, 101, 97, 109]⟩ : ByteArray).toList)
 (an.lf out true)
 (an.lf out false))
 (an.cn (a0.toList == (⟨#[115, 117, 109]⟩ : ByteArray).toList)
 (an.cn (a0.toList == (⟨#[115, 117, 109]⟩ : ByteArray).toList)
 (an.lf out true)
 (an.lf out false))
 (an.cn (a0.toList == (⟨#[116, 97, 98, 108, 101]⟩ : ByteArray).toList)
 (an.cn (a0.toList == (⟨#[116, 97, 98, 108, 101]⟩ : ByteArray).toList)
 (an.lf out true)
 (an.lf out false))
 (an.cn (a0.toList == (⟨#[116, 97, 108, 108, 121]⟩ : ByteArray).toList)
 (an.cn (a0.toList == (⟨#[116, 97, 108, 108, 121]⟩ : ByteArray).toList)
 (an.lf out true)
 (an.lf out false))
 (an.cn (a0.toList == (⟨#[116, 105, 99, 107, 115]⟩ : ByteArray).toList)
 (an.cn (a0.toList == (⟨#[116, 105, 99, 107, 115]⟩ : ByteArray).toList)
 (an.lf out true)
 (an.lf out false))
 (an.cn (a0.toList == (⟨#[116, 105, 109, 101]⟩ : ByteArray).toList)
 (an.cn (a0.toList == (⟨#[116, 105, 109, 101]⟩ : ByteArray).toList)
 (an.lf out true)
 (an.lf out false))
 (an.cn (a0.toList == (⟨#[116, 114, 117, 101]⟩ : ByteArray).toList)
 (an.cn (a0.toList == (⟨#[116, 114, 117, 101]⟩ : ByteArray).toList)
 (an.lf out true)
 (an.lf out false))
 (an.cn (a0.toList == (⟨#[117, 110, 105, 102, 111, 114, 109]⟩ : ByteArray).toList)
 (an.cn (a0.toList == (⟨#[117, 110, 105, 102, 111, 114, 109]⟩ : ByteArray).toList)
 (an.lf out true)
 (an.lf out false))
 (an.cn (a0.toList == (⟨#[117, 110, 116, 105, 108]⟩ : ByteArray).toList)
 (an.cn (a0.toList == (⟨#[117, 110, 116, 105, 108]⟩ : ByteArray).toList)
 (an.lf out true)
 (an.lf out false))
 (an.cn (a0.toList == (⟨#[117, 112]⟩ : ByteArray).toList)
 (an.cn (a0.toList == (⟨#[117, 112]⟩ : ByteArray).toList)
 (an.lf out true)
 (an.lf out false))
 (an.cn (a0.toList == (⟨#[118, 97, 114]⟩ : ByteArray).toList)
 (an.cn (a0.toList == (⟨#[118, 97, 114]⟩ : ByteArray).toList)
 (an.lf out true)
 (an.lf out false))
 (an.cn (a0.toList == (⟨#[119, 97, 105, 116]⟩ : ByteArray).toList)
 (an.cn (a0.toList == (⟨#[119, 97, 105, 116]⟩ : ByteArray).toList)
 (an.lf out true)
 (an.lf out false))
 (an.cn (a0.toList == (⟨#[119, 97, 105, 116, 105, 110, 103]⟩ : ByteArray).toList)
 (an.cn (a0.toList == (⟨#[119, 97, 105, 116, 105, 110, 103]⟩ : ByteArray).toList)
 (an.lf out true)
 (an.lf out false))
 (an.cn (a0.toList == (⟨#[119, 104, 105, 108, 101]⟩ : ByteArray).toList)
 (an.lf out true)
 (an.lf out false))))))))))))))))))))))))))))))))))))))))))))))))))))))))))))))))))))))))))
def F_names_Keyword  (L : Nat) (a0 : ByteArray) : Option Bool := T_names_Keyword (anO _) L a0 some
theorem e102  (L : Nat) (a0 : ByteArray) (kk : PV → Prop) : EW (O102 L) L 9 (RS Tryz.f102) c102 [S a0] kk = ob (F_names_Keyword L a0) (fun (x : Bool) => kk (B x)) := by
  refine Eq.trans (b := T_names_Keyword anP L a0 (fun (x : Bool) => kk (B x))) (by kernel_rfl) ?_
  generalize (fun (x : Bool) => kk (B x)) = Q
  unfold F_names_Keyword T_names_Keyword
  dsimp only [anP, anO]
  try simp only [y1, y2, y3, y4, y5 Q, y6, y7, y8 Q, y9, z1, z2, z3, z4]
theorem h102   (L : Nat) (a0 : ByteArray) (r : Bool) (h : F_names_Keyword L a0 = some r) : Holds Tryz.prog 102 [S a0] (B r) :=
  hE grwOK (s102  L) mixed Tryz.func102 (by kernel_rfl : cFn Tryz.prog inl Tryz.f102 = some c102) (er := fun (x : Bool) => B x) (by kernel_rfl) (e102 L a0) h

/-! ### simulator/names.Check -/
noncomputable def c58 : EC := (cFn Tryz.prog inl Tryz.f58).getD .stop
def O58  (L : Nat) : Oracle := (orc 101 (A1 (fun (x : Bool) => B x) (cI .u8) (F_names_letter L)) (orc 102 (A1 (fun (x : Bool) => B x) cS (F_names_Keyword L)) noC))
theorem s58   (L : Nat) : SoundC Tryz.prog (O58 L) := (orc_sound (a1 _ (h101 L)) (orc_sound (a1 _ (h102 L)) (noC_sound Tryz.prog)))
def sh58_1 (a0 : ByteArray) (v1_1 : Int) (v1_3 : Int) : St := ({ fr := [(0, S a0), (2, I v1_1), (23, I (a0.size : Int)), (24, I v1_3)], ob := [], base := 0 } : St)
def KK58_1 (a0 : ByteArray) (K : Ex → St → Prop) : Nat × (Int × Int) → Prop := fun o => seln o.1 [K .ret (sh58_1 a0 o.2.1 o.2.2), K (.exit 0) (sh58_1 a0 o.2.1 o.2.2)]
def lb_names_Check_1 {A : Type} (an : An A)  (L : Nat) (a0 : ByteArray) (rec : Int → Int → A) (out : Nat × (Int × Int) → A) (v1_1 : Int) (v1_3 : Int) : A :=
 (an.cn (decide (v1_3 < (a0.size : Int)))
 (an.cn ((if 0 ≤ v1_3 then a0[Int.toNat v1_3]? else none).isSome)
 (an.bd (F_names_letter L (optByte (if 0 ≤ v1_3 then a0[Int.toNat v1_3]? else none))) fun r8 =>
 (an.jp (bif (!r8) then (bif (decide ((optByte (if 0 ≤ v1_3 then a0[Int.toNat v1_3]? else none)) < 48)) then true
 else (decide ((optByte (if 0 ≤ v1_3 then a0[Int.toNat v1_3]? else none)) > 57)))
 else false) (fun j => (an.cn (!r8)
 (an.cn (decide ((optByte (if 0 ≤ v1_3 then a0[Int.toNat v1_3]? else none)) < 48))
 (an.ap j true)
 (an.ap j (decide ((optByte (if 0 ≤ v1_3 then a0[Int.toNat v1_3]? else none)) > 57))))
 (an.ap j false))) (fun b9 =>
 (an.jp (bif b9 then ((optByte (if 0 ≤ v1_3 then a0[Int.toNat v1_3]? else none)) != 95)
 else false) (fun j => (an.cn b9
 (an.ap j ((optByte (if 0 ≤ v1_3 then a0[Int.toNat v1_3]? else none)) != 95))
 (an.ap j false))) (fun b10 =>
 (an.cn b10
 (an.lf out (0, (3, v1_3)))
 (rec v1_1 (w64 (v1_3 + 1)))))))))
 an.fl)
 (an.lf out (1, (v1_1, v1_3))))
def lp_names_Check_1  (L : Nat) (a0 : ByteArray) : Nat → Int → Int → Option (Nat × (Int × Int))
  | 0, _, _ => none
  | n + 1, v1_1, v1_3 => lb_names_Check_1 (anO _)  L a0 (lp_names_Check_1  L a0 n) some v1_1 v1_3
theorem ln58_1  (L : Nat) (a0 : ByteArray) (g : Int → Int → Option (Nat × (Int × Int))) (Q : Nat × (Int × Int) → Prop) (v1_1 : Int) (v1_3 : Int) : lb_names_Check_1 anP  L a0 (fun v1_1 v1_3 => ob (g v1_1 v1_3) Q) Q v1_1 v1_3 = ob (lb_names_Check_1 (anO _)  L a0 g some v1_1 v1_3) Q := by
  unfold lb_names_Check_1
  dsimp only [anP, anO]
  try simp only [y1, y2, y3, y4, y5 Q, y6, y7, y8 Q, y9, z1, z2, z3, z4]
theorem le58_1  (L : Nat) (a0 : ByteArray) (n : Nat) (v1_1 : Int) (v1_3 : Int) (K : Ex → St → Prop) : loopN (EV (O58 L) L 9 c58.r.r.r.r.l.r.r.l.l) [0, 2, 23, 24] [] n (sh58_1 a0 v1_1 v1_3) K = ob (lp_names_Check_1  L a0 n v1_1 v1_3) (fun o => KK58_1 a0 K o) := by
  induction n generalizing v1_1 v1_3 with
  | zero => rfl
  | succ n ih =>
    refine Eq.trans (b := lb_names_Check_1 anP  L a0 (fun v1_1 v1_3 => loopN (EV (O58 L) L 9 c58.r.r.r.r.l.r.r.l.l) [0, 2, 23, 24] [] n (sh58_1 a0 v1_1 v1_3) K) (KK58_1 a0 K) v1_1 v1_3) (by kernel_rfl) ?_
    simp only [ih]
    exact ln58_1  L a0 (lp_names_Check_1  L a0 n) (KK58_1 a0 K) v1_1 v1_3
def kc58_1  (L : Nat)  (kk : PV → Prop) : Ex → St → Prop := (kBlock 0 (kSeq (EV (O58 L) L 9 c58.r.r.r.r.r) (kEnd Tryz.prog (RS Tryz.f58) kk)))
theorem q58_1  (L : Nat) (a0 : ByteArray) (kk : PV → Prop) (o6 : Nat × (Int × Int)) : KK58_1 a0 (kc58_1 L kk) o6 =
 (seln o6.1 [(ob (some o6.2.1) (fun (x : Int) => kk (I x))),
 (ob (some 0) (fun (x : Int) => kk (I x)))]) := by kernel_rfl
def T_names_Check {A : Type} (an : An A)  (L : Nat) (a0 : ByteArray) (out : Int → A) : A :=
 (an.jp (bif (a0.toList == (⟨#[]⟩ : ByteArray).toList) then true
 else (decide ((a0.size : Int) > 24))) (fun j => (an.cn (a0.toList == (⟨#[]⟩ : ByteArray).toList)
 (an.ap j true)
 (an.ap j (decide ((a0.size : Int) > 24))))) (fun b1 =>
 (an.jb (bif b1 then (some true)
 else (bif ((if 0 ≤ 0 then a0[Int.toNat 0]? else none).isSome) then (Option.bind (F_names_letter L (optByte (if 0 ≤ 0 then a0[Int.toNat 0]? else none))) fun r3 =>
 (some (!r3)))
 else none)) (fun j => (an.cn b1
 (an.lf j true)
 (an.cn ((if 0 ≤ 0 then a0[Int.toNat 0]? else none).isSome)
 (an.bd (F_names_letter L (optByte (if 0 ≤ 0 then a0[Int.toNat 0]? else none))) fun r4 =>
 (an.lf j (!r4)))
 (an.bd none j)))) (fun b2 =>
 (an.jb (bif b2 then (some true)
 else (Option.bind (F_names_Keyword L a0) fun r6 =>
 (some r6))) (fun j => (an.cn b2
 (an.lf j true)
 (an.bd (F_names_Keyword L a0) fun r7 =>
 (an.lf j r7)))) (fun b5 =>
 (an.cn b5
 (an.lf out 3)
 (an.bd (lp_names_Check_1 L a0 L 0 0) fun o8 =>
 (an.sl o8.1 [(an.lf out o8.2.1),
 (an.lf out 0)])))))))))
def F_names_Check  (L : Nat) (a0 : ByteArray) : Option Int := T_names_Check (anO _) L a0 some
theorem e58  (L : Nat) (a0 : ByteArray) (kk : PV → Prop) : EW (O58 L) L 9 (RS Tryz.f58) c58 [S a0] kk = ob (F_names_Check L a0) (fun (x : Int) => kk (I x)) := by
  refine Eq.trans (b := T_names_Check anP L a0 (fun (x : Int) => kk (I x))) ?_ ?_
  · refine Eq.trans (b := (jn (fun j => (br (a0.toList == (⟨#[]⟩ : ByteArray).toList)
 (ap j true)
 (ap j (decide ((a0.size : Int) > 24))))) (fun b1 =>
 (jn (fun j => (br b1
 (ob (some true) j)
 (br ((if 0 ≤ 0 then a0[Int.toNat 0]? else none).isSome)
 (ob (F_names_letter L (optByte (if 0 ≤ 0 then a0[Int.toNat 0]? else none))) fun r3 =>
 (ob (some (!r3)) j))
 (ob none j)))) (fun b2 =>
 (jn (fun j => (br b2
 (ob (some true) j)
 (ob (F_names_Keyword L a0) fun r5 =>
 (ob (some r5) j)))) (fun b4 =>
 (br b4
 (ob (some 3) (fun (x : Int) => kk (I x)))
 (loopN (EV (O58 L) L 9 c58.r.r.r.r.l.r.r.l.l) [0, 2, 23, 24] [] L (sh58_1 a0 0 0) (kc58_1 L kk)))))))))) (by kernel_rfl) ?_
    unfold T_names_Check
    dsimp only [anP]
    simp only [le58_1, q58_1]
  generalize (fun (x : Int) => kk (I x)) = Q
  unfold F_names_Check T_names_Check
  dsimp only [anP, anO]
  try simp only [y1, y2, y3, y4, y5 Q, y6, y7, y8 Q, y9, z1, z2, z3, z4]
theorem h58   (L : Nat) (a0 : ByteArray) (r : Int) (h : F_names_Check L a0 = some r) : Holds Tryz.prog 58 [S a0] (I r) :=
  hE grwOK (s58  L) mixed Tryz.func58 (by kernel_rfl : cFn Tryz.prog inl Tryz.f58 = some c58) (er := fun (x : Int) => I x) (by kernel_rfl) (e58 L a0) h

/-! ### (simulator/expr.kind).node -/
noncomputable def c169 : EC := (cFn Tryz.prog inl Tryz.f169).getD .stop
def O169  (L : Nat) : Oracle := (orc 58 (A1 (fun (x : Int) => I x) cS (F_names_Check L)) (orc 199 (A1 (fun (x : Bool) => B x) (cI .i64) (F_num_In L)) (orc 215 (A2 (fun (x : Bool) => B x) ca_expr_kind (cI .i64) (F_expr_kind_known L)) (orc 216 (A1 (fun (x : Int) => I x) (cI .i64) (F_expr_kids L)) (orc 217 (A2 (fun (x : Bool) => B x) ca_expr_kind (cI .i64) (F_expr_kind_named L)) (orc 218 (A2 (fun (x : (Int × Int × Bool)) => .tup [I x.1, I x.2.1, B x.2.2]) ca_expr_kind (cI .i64) (F_expr_kind_numbers L)) noC))))))
theorem s169   (L : Nat) : SoundC Tryz.prog (O169 L) := (orc_sound (a1 _ (h58 L)) (orc_sound (a1 _ (h199 L)) (orc_sound (a2 _ (h215 L)) (orc_sound (a1 _ (h216 L)) (orc_sound (a2 _ (h217 L)) (orc_sound (a2 _ (h218 L)) (noC_sound Tryz.prog)))))))
def T_expr_kind_node {A : Type} (an : An A)  (L : Nat) (a0 : expr_kind) (a1 : api_Expr) (out : Int → A) : A :=
 (an.bd (F_expr_kind_known L a0 a1.Op) fun r1 =>
 (an.cn (!r1)
 (an.lf out 1)
 (an.bd (F_expr_kids L a1.Op) fun r2 =>
 (an.cn ((a1.Kids.length : Int) != r2)
 (an.lf out 1)
 (an.cn (!(a1.Name.toList == (⟨#[]⟩ : ByteArray).toList))
 (an.bd (F_expr_kind_named L a0 a1.Op) fun r3 =>
 (an.cn (!r3)
 (an.lf out 1)
 (an.cn (a1.Op == 1)
 (an.bd (F_num_In L a1.N) fun r4 =>
 (an.cn (!r4)
 (an.lf out 2)
 (an.lf out 0)))
 (an.bd (F_expr_kind_numbers L a0 a1.Op) fun r5 =>
 (an.jp (bif (!r5.2.2) then (a1.N != 0)
 else false) (fun j => (an.cn (!r5.2.2)
 (an.ap j (a1.N != 0))
 (an.ap j false))) (fun b6 =>
 (an.cn b6
 (an.lf out 1)
 (an.jp (bif r5.2.2 then (bif (decide (a1.N < r5.1)) then true
 else (decide (a1.N > r5.2.1)))
 else false) (fun j => (an.cn r5.2.2
 (an.cn (decide (a1.N < r5.1))
 (an.ap j true)
 (an.ap j (decide (a1.N > r5.2.1))))
 (an.ap j false))) (fun b7 =>
 (an.cn b7
 (an.lf out 2)
 (an.bd (F_expr_kind_named L a0 a1.Op) fun r8 =>
 (an.cn r8
 (an.bd (F_names_Check L a1.Name) fun r9 =>
 (an.lf out r9))
 (an.lf out 0)))))))))))))
 (an.cn (a1.Op == 1)
 (an.bd (F_num_In L a1.N) fun r10 =>
 (an.cn (!r10)
 (an.lf out 2)
 (an.lf out 0)))
 (an.bd (F_expr_kind_numbers L a0 a1.Op) fun r11 =>
 (an.jp (bif (!r11.2.2) then (a1.N != 0)
 else false) (fun j => (an.cn (!r11.2.2)
 (an.ap j (a1.N != 0))
 (an.ap j false))) (fun b12 =>
 (an.cn b12
 (an.lf out 1)
 (an.jp (bif r11.2.2 then (bif (decide (a1.N < r11.1)) then true
 else (decide (a1.N > r11.2.1)))
 else false) (fun j => (an.cn r11.2.2
 (an.cn (decide (a1.N < r11.1))
 (an.ap j true)
 (an.ap j (decide (a1.N > r11.2.1))))
 (an.ap j false))) (fun b13 =>
 (an.cn b13
 (an.lf out 2)
 (an.bd (F_expr_kind_named L a0 a1.Op) fun r14 =>
 (an.cn r14
 (an.bd (F_names_Check L a1.Name) fun r15 =>
 (an.lf out r15))
 (an.lf out 0))))))))))))))))
def F_expr_kind_node  (L : Nat) (a0 : expr_kind) (a1 : api_Expr) : Option Int := T_expr_kind_node (anO _) L a0 a1 some
theorem e169  (L : Nat) (a0 : expr_kind) (a1 : api_Expr) (kk : PV → Prop) : EW (O169 L) L 9 (RS Tryz.f169) c169 [.agg [B a0.u_code], .agg (enapi_Expr a1)] kk = ob (F_expr_kind_node L a0 a1) (fun (x : Int) => kk (I x)) := by
  refine Eq.trans (b := T_expr_kind_node anP L a0 a1 (fun (x : Int) => kk (I x))) (by kernel_rfl) ?_
  generalize (fun (x : Int) => kk (I x)) = Q
  unfold F_expr_kind_node T_expr_kind_node
  dsimp only [anP, anO]
  try simp only [y1, y2, y3, y4, y5 Q, y6, y7, y8 Q, y9, z1, z2, z3, z4]
theorem h169   (L : Nat) (a0 : expr_kind) (a1 : api_Expr) (r : Int) (h : F_expr_kind_node L a0 a1 = some r) : Holds Tryz.prog 169 [.agg [B a0.u_code], .agg (enapi_Expr a1)] (I r) :=
  hE grwOK (s169  L) mixed Tryz.func169 (by kernel_rfl : cFn Tryz.prog inl Tryz.f169 = some c169) (er := fun (x : Int) => I x) (by kernel_rfl) (e169 L a0 a1) h

/-! ### (simulator/expr.kind).nodes -/
noncomputable def c83 : EC := (cFn Tryz.prog inl Tryz.f83).getD .stop
def O83 (rec83 : expr_kind → api_Expr → Option Int) (L : Nat) : Oracle := (orc 83 (A2 (fun (x : Int) => I x) ca_expr_kind ca_api_Expr rec83) (orc 169 (A2 (fun (x : Int) => I x) ca_expr_kind ca_api_Expr (F_expr_kind_node L)) noC))
theorem s83 (rec83 : expr_kind → api_Expr → Option Int) (hr83 : ∀ (y0 : expr_kind) (y1 : api_Expr) (r : Int), rec83 y0 y1 = some r → Holds Tryz.prog 83 [.agg [B y0.u_code], .agg (enapi_Expr y1)] (I r)) (L : Nat) : SoundC Tryz.prog (O83 rec83 L) := (orc_sound (a2 _ hr83) (orc_sound (a2 _ (h169 L)) (noC_sound Tryz.prog)))
def sh83_1 (a1 : api_Expr) (a0 : expr_kind) (v1_0 : Int) (v1_3 : Int) : St := ({ fr := [(0, .any), (1, .any), (2, .loc 2 0), (3, .any), (4, I v1_0), (5, .any), (16, .lst false (.t38 a1.Kids)), (17, I (a1.Kids.length : Int)), (18, I v1_3)], ob := [(2, [B a0.u_code]), (3, (enapi_Expr a1))], base := 0 } : St)
def KK83_1 (a1 : api_Expr) (a0 : expr_kind) (K : Ex → St → Prop) : Nat × (Int × Int) → Prop := fun o => seln o.1 [K .ret (sh83_1 a1 a0 o.2.1 o.2.2), K (.exit 0) (sh83_1 a1 a0 o.2.1 o.2.2)]
def lb_expr_kind_nodes_1 {A : Type} (an : An A) (rec83 : expr_kind → api_Expr → Option Int) (L : Nat) (a1 : api_Expr) (a0 : expr_kind) (rec : Int → Int → A) (out : Nat × (Int × Int) → A) (v1_0 : Int) (v1_3 : Int) : A :=
 (an.cn (decide (v1_3 < (a1.Kids.length : Int)))
 (an.gd ((0 : Int) ≤ v1_3)
 (an.gd (v1_3 < ((a1.Kids.length : Nat) : Int))
 (an.bd (rec83 a0 (api_Expr.cp (a1.Kids.getD (Int.toNat v1_3) default))) fun r2 =>
 (an.cn (r2 != 0)
 (an.lf out (0, (r2, v1_3)))
 (rec v1_0 (w64 (v1_3 + 1)))))))
 (an.lf out (1, (v1_0, v1_3))))
def lp_expr_kind_nodes_1 (rec83 : expr_kind → api_Expr → Option Int) (L : Nat) (a1 : api_Expr) (a0 : expr_kind) : Nat → Int → Int → Option (Nat × (Int × Int))
  | 0, _, _ => none
  | n + 1, v1_0, v1_3 => lb_expr_kind_nodes_1 (anO _) rec83 L a1 a0 (lp_expr_kind_nodes_1 rec83 L a1 a0 n) some v1_0 v1_3
theorem ln83_1 (rec83 : expr_kind → api_Expr → Option Int) (L : Nat) (a1 : api_Expr) (a0 : expr_kind) (g : Int → Int → Option (Nat × (Int × Int))) (Q : Nat × (Int × Int) → Prop) (v1_0 : Int) (v1_3 : Int) : lb_expr_kind_nodes_1 anP rec83 L a1 a0 (fun v1_0 v1_3 => ob (g v1_0 v1_3) Q) Q v1_0 v1_3 = ob (lb_expr_kind_nodes_1 (anO _) rec83 L a1 a0 g some v1_0 v1_3) Q := by
  unfold lb_expr_kind_nodes_1
  dsimp only [anP, anO]
  try simp only [y1, y2, y3, y4, y5 Q, y6, y7, y8 Q, y9, z1, z2, z3, z4]
theorem le83_1 (rec83 : expr_kind → api_Expr → Option Int) (L : Nat) (a1 : api_Expr) (a0 : expr_kind) (n : Nat) (v1_0 : Int) (v1_3 : Int) (K : Ex → St → Prop) : loopN (EV (O83 rec83 L) L 9 c83.r.r.r.r.l.r.r.l.l) [0, 1, 2, 3, 4, 5, 16, 17, 18] [2, 3] n (sh83_1 a1 a0 v1_0 v1_3) K = ob (lp_expr_kind_nodes_1 rec83 L a1 a0 n v1_0 v1_3) (fun o => KK83_1 a1 a0 K o) := by
  induction n generalizing v1_0 v1_3 with
  | zero => rfl
  | succ n ih =>
    refine Eq.trans (b := lb_expr_kind_nodes_1 anP rec83 L a1 a0 (fun v1_0 v1_3 => loopN (EV (O83 rec83 L) L 9 c83.r.r.r.r.l.r.r.l.l) [0, 1, 2, 3, 4, 5, 16, 17, 18] [2, 3] n (sh83_1 a1 a0 v1_0 v1_3) K) (KK83_1 a1 a0 K) v1_0 v1_3) (by kernel_rfl) ?_
    simp only [ih]
    exact ln83_1 rec83 L a1 a0 (lp_expr_kind_nodes_1 rec83 L a1 a0 n) (KK83_1 a1 a0 K) v1_0 v1_3
def kc83_1 (rec83 : expr_kind → api_Expr → Option Int) (L : Nat)  (kk : PV → Prop) : Ex → St → Prop := (kBlock 0 (kSeq (EV (O83 rec83 L) L 9 c83.r.r.r.r.r) (kEnd Tryz.prog (RS Tryz.f83) kk)))
theorem q83_1 (rec83 : expr_kind → api_Expr → Option Int) (L : Nat) (a1 : api_Expr) (a0 : expr_kind) (kk : PV → Prop) (o2 : Nat × (Int × Int)) : KK83_1 a1 a0 (kc83_1 rec83 L kk) o2 =
 (seln o2.1 [(ob (some o2.2.1) (fun (x : Int) => kk (I x))),
 (ob (some 0) (fun (x : Int) => kk (I x)))]) := by kernel_rfl
def T_expr_kind_nodes {A : Type} (an : An A) (rec83 : expr_kind → api_Expr → Option Int) (L : Nat) (a0 : expr_kind) (a1 : api_Expr) (out : Int → A) : A :=
 (an.bd (F_expr_kind_node L a0 (api_Expr.cp a1)) fun r1 =>
 (an.cn (r1 != 0)
 (an.lf out r1)
 (an.bd (lp_expr_kind_nodes_1 rec83 L a1 a0 L 0 0) fun o2 =>
 (an.sl o2.1 [(an.lf out o2.2.1),
 (an.lf out 0)]))))
def B_expr_kind_nodes (rec83 : expr_kind → api_Expr → Option Int) (L : Nat) (a0 : expr_kind) (a1 : api_Expr) : Option Int := T_expr_kind_nodes (anO _) rec83 L a0 a1 some
theorem e83 (rec83 : expr_kind → api_Expr → Option Int) (L : Nat) (a0 : expr_kind) (a1 : api_Expr) (kk : PV → Prop) : EW (O83 rec83 L) L 9 (RS Tryz.f83) c83 [.agg [B a0.u_code], .agg (enapi_Expr a1)] kk = ob (B_expr_kind_nodes rec83 L a0 a1) (fun (x : Int) => kk (I x)) := by
  refine Eq.trans (b := T_expr_kind_nodes anP rec83 L a0 a1 (fun (x : Int) => kk (I x))) ?_ ?_
  · refine Eq.trans (b := (ob (F_expr_kind_node L a0 (api_Expr.cp a1)) fun r1 =>
 (br (r1 != 0)
 (ob (some r1) (fun (x : Int) => kk (I x)))
 (loopN (EV (O83 rec83 L) L 9 c83.r.r.r.r.l.r.r.l.l) [0, 1, 2, 3, 4, 5, 16, 17, 18] [2, 3] L (sh83_1 a1 a0 0 0) (kc83_1 rec83 L kk))))) (by kernel_rfl) ?_
    unfold T_expr_kind_nodes
    dsimp only [anP]
    simp only [le83_1, q83_1]
  generalize (fun (x : Int) => kk (I x)) = Q
  unfold B_expr_kind_nodes T_expr_kind_nodes
  dsimp only [anP, anO]
  try simp only [y1, y2, y3, y4, y5 Q, y6, y7, y8 Q, y9, z1, z2, z3, z4]
theorem b83 (rec83 : expr_kind → api_Expr → Option Int) (hr83 : ∀ (y0 : expr_kind) (y1 : api_Expr) (r : Int), rec83 y0 y1 = some r → Holds Tryz.prog 83 [.agg [B y0.u_code], .agg (enapi_Expr y1)] (I r)) (L : Nat) (a0 : expr_kind) (a1 : api_Expr) (r : Int) (h : B_expr_kind_nodes rec83 L a0 a1 = some r) : Holds Tryz.prog 83 [.agg [B a0.u_code], .agg (enapi_Expr a1)] (I r) :=
  hE grwOK (s83 rec83 hr83 L) mixed Tryz.func83 (by kernel_rfl : cFn Tryz.prog inl Tryz.f83 = some c83) (er := fun (x : Int) => I x) (by kernel_rfl) (e83 rec83 L a0 a1) h
def F_expr_kind_nodes : Nat → expr_kind → api_Expr → Option Int
  | 0, _, _ => none
  | L + 1, a0, a1 => B_expr_kind_nodes (F_expr_kind_nodes L) L a0 a1
theorem hall83 : ∀ L, (∀ (y0 : expr_kind) (y1 : api_Expr) (r : Int), F_expr_kind_nodes L y0 y1 = some r → Holds Tryz.prog 83 [.agg [B y0.u_code], .agg (enapi_Expr y1)] (I r)) := by
  intro L
  induction L with
  | zero => exact fun _ _ r h => (by cases h)
  | succ L ih =>
    have i83 := ih
    exact fun y0 y1 r h => b83 (F_expr_kind_nodes L) i83 L y0 y1 r h
theorem h83 (L : Nat) : ∀ (y0 : expr_kind) (y1 : api_Expr) (r : Int), F_expr_kind_nodes L y0 y1 = some r → Holds Tryz.prog 83 [.agg [B y0.u_code], .agg (enapi_Expr y1)] (I r) := hall83 L

/-! ### (simulator/expr.kind).check -/
noncomputable def c46 : EC := (cFn Tryz.prog inl Tryz.f46).getD .stop
def O46  (L : Nat) : Oracle := (orc 81 (A1 (fun (x : Int) => I x) ca_api_Expr (F_expr_Nodes L)) (orc 82 (A1 (fun (x : Int) => I x) ca_api_Expr (F_expr_Depth L)) (orc 83 (A2 (fun (x : Int) => I x) ca_expr_kind ca_api_Expr (F_expr_kind_nodes L)) noC)))
theorem s46   (L : Nat) : SoundC Tryz.prog (O46 L) := (orc_sound (a1 _ (h81 L)) (orc_sound (a1 _ (h82 L)) (orc_sound (a2 _ (h83 L)) (noC_sound Tryz.prog))))
def T_expr_kind_check {A : Type} (an : An A)  (L : Nat) (a0 : expr_kind) (a1 : api_Expr) (out : Int → A) : A :=
 (an.bd (F_expr_Nodes L (api_Expr.cp a1)) fun r1 =>
 (an.cn (decide (r1 > 60))
 (an.lf out 6)
 (an.bd (F_expr_Depth L (api_Expr.cp a1)) fun r2 =>
 (an.cn (decide (r2 > 12))
 (an.lf out 11)
 (an.bd (F_expr_kind_nodes L a0 (api_Expr.cp a1)) fun r3 =>
 (an.lf out r3))))))
def F_expr_kind_check  (L : Nat) (a0 : expr_kind) (a1 : api_Expr) : Option Int := T_expr_kind_check (anO _) L a0 a1 some
theorem e46  (L : Nat) (a0 : expr_kind) (a1 : api_Expr) (kk : PV → Prop) : EW (O46 L) L 9 (RS Tryz.f46) c46 [.agg [B a0.u_code], .agg (enapi_Expr a1)] kk = ob (F_expr_kind_check L a0 a1) (fun (x : Int) => kk (I x)) := by
  refine Eq.trans (b := T_expr_kind_check anP L a0 a1 (fun (x : Int) => kk (I x))) (by kernel_rfl) ?_
  generalize (fun (x : Int) => kk (I x)) = Q
  unfold F_expr_kind_check T_expr_kind_check
  dsimp only [anP, anO]
  try simp only [y1, y2, y3, y4, y5 Q, y6, y7, y8 Q, y9, z1, z2, z3, z4]
theorem h46   (L : Nat) (a0 : expr_kind) (a1 : api_Expr) (r : Int) (h : F_expr_kind_check L a0 a1 = some r) : Holds Tryz.prog 46 [.agg [B a0.u_code], .agg (enapi_Expr a1)] (I r) :=
  hE grwOK (s46  L) mixed Tryz.func46 (by kernel_rfl : cFn Tryz.prog inl Tryz.f46 = some c46) (er := fun (x : Int) => I x) (by kernel_rfl) (e46 L a0 a1) h

/-! ### simulator/expr.Check -/
noncomputable def c26 : EC := (cFn Tryz.prog inl Tryz.f26).getD .stop
def O26  (L : Nat) : Oracle := (orc 46 (A2 (fun (x : Int) => I x) ca_expr_kind ca_api_Expr (F_expr_kind_check L)) noC)
theorem s26   (L : Nat) : SoundC Tryz.prog (O26 L) := (orc_sound (a2 _ (h46 L)) (noC_sound Tryz.prog))
def T_expr_Check {A : Type} (an : An A)  (L : Nat) (a0 : api_Expr) (out : Int → A) : A :=
 (an.bd (F_expr_kind_check L (⟨false⟩ : expr_kind) (api_Expr.cp a0)) fun r1 =>
 (an.lf out r1))
def F_expr_Check  (L : Nat) (a0 : api_Expr) : Option Int := T_expr_Check (anO _) L a0 some
theorem e26  (L : Nat) (a0 : api_Expr) (kk : PV → Prop) : EW (O26 L) L 9 (RS Tryz.f26) c26 [.agg (enapi_Expr a0)] kk = ob (F_expr_Check L a0) (fun (x : Int) => kk (I x)) := by
  refine Eq.trans (b := T_expr_Check anP L a0 (fun (x : Int) => kk (I x))) (by kernel_rfl) ?_
  generalize (fun (x : Int) => kk (I x)) = Q
  unfold F_expr_Check T_expr_Check
  dsimp only [anP, anO]
  try simp only [y1, y2, y3, y4, y5 Q, y6, y7, y8 Q, y9, z1, z2, z3, z4]
theorem h26   (L : Nat) (a0 : api_Expr) (r : Int) (h : F_expr_Check L a0 = some r) : Holds Tryz.prog 26 [.agg (enapi_Expr a0)] (I r) :=
  hE grwOK (s26  L) mixed Tryz.func26 (by kernel_rfl : cFn Tryz.prog inl Tryz.f26 = some c26) (er := fun (x : Int) => I x) (by kernel_rfl) (e26 L a0) h

/-! ### simulator/typing.local -/
noncomputable def c29 : EC := (cFn Tryz.prog inl Tryz.f29).getD .stop
def O29  (L : Nat) : Oracle := noC
theorem s29   (L : Nat) : SoundC Tryz.prog (O29 L) := (noC_sound Tryz.prog)
def sh29_1 (a0 : (List api_Field)) (a1 : ByteArray) (v1_2 : Int) (v1_3 : Bool) (v1_4 : Int) : St := ({ fr := [(0, .lst false (.t68 a0)), (1, S a1), (4, I v1_2), (5, B v1_3), (6, I v1_4)], ob := [], base := 0 } : St)
def KK29_1 (a0 : (List api_Field)) (a1 : ByteArray) (K : Ex → St → Prop) : Nat × (Int × Bool × Int) → Prop := fun o => seln o.1 [K .ret (sh29_1 a0 a1 o.2.1 o.2.2.1 o.2.2.2), K (.exit 0) (sh29_1 a0 a1 o.2.1 o.2.2.1 o.2.2.2)]
def lb_typing_local_1 {A : Type} (an : An A)  (L : Nat) (a0 : (List api_Field)) (a1 : ByteArray) (rec : Int → Bool → Int → A) (out : Nat × (Int × Bool × Int) → A) (v1_2 : Int) (v1_3 : Bool) (v1_4 : Int) : A :=
 (an.cn (decide (v1_4 ≥ 0))
 (an.gd ((0 : Int) ≤ v1_4)
 (an.gd (v1_4 < ((a0.length : Nat) : Int))
 (an.cn (((a0.getD (Int.toNat v1_4) default).Name).toList == a1.toList)
 (an.gd ((0 : Int) ≤ v1_4)
 (an.gd (v1_4 < ((a0.length : Nat) : Int))
 (an.lf out (0, (((a0.getD (Int.toNat v1_4) default).Type_), true, v1_4)))))
 (rec v1_2 v1_3 (w64 (v1_4 - 1))))))
 (an.lf out (1, (v1_2, v1_3, v1_4))))
def lp_typing_local_1  (L : Nat) (a0 : (List api_Field)) (a1 : ByteArray) : Nat → Int → Bool → Int → Option (Nat × (Int × Bool × Int))
  | 0, _, _, _ => none
  | n + 1, v1_2, v1_3, v1_4 => lb_typing_local_1 (anO _)  L a0 a1 (lp_typing_local_1  L a0 a1 n) some v1_2 v1_3 v1_4
theorem ln29_1  (L : Nat) (a0 : (List api_Field)) (a1 : ByteArray) (g : Int → Bool → Int → Option (Nat × (Int × Bool × Int))) (Q : Nat × (Int × Bool × Int) → Prop) (v1_2 : Int) (v1_3 : Bool) (v1_4 : Int) : lb_typing_local_1 anP  L a0 a1 (fun v1_2 v1_3 v1_4 => ob (g v1_2 v1_3 v1_4) Q) Q v1_2 v1_3 v1_4 = ob (lb_typing_local_1 (anO _)  L a0 a1 g some v1_2 v1_3 v1_4) Q := by
  unfold lb_typing_local_1
  dsimp only [anP, anO]
  try simp only [y1, y2, y3, y4, y5 Q, y6, y7, y8 Q, y9, z1, z2, z3, z4]
theorem le29_1  (L : Nat) (a0 : (List api_Field)) (a1 : ByteArray) (n : Nat) (v1_2 : Int) (v1_3 : Bool) (v1_4 : Int) (K : Ex → St → Prop) : loopN (EV (O29 L) L 9 c29.r.r.l.r.r.l.l) [0, 1, 4, 5, 6] [] n (sh29_1 a0 a1 v1_2 v1_3 v1_4) K = ob (lp_typing_local_1  L a0 a1 n v1_2 v1_3 v1_4) (fun o => KK29_1 a0 a1 K o) := by
  induction n generalizing v1_2 v1_3 v1_4 with
  | zero => rfl
  | succ n ih =>
    refine Eq.trans (b := lb_typing_local_1 anP  L a0 a1 (fun v1_2 v1_3 v1_4 => loopN (EV (O29 L) L 9 c29.r.r.l.r.r.l.l) [0, 1, 4, 5, 6] [] n (sh29_1 a0 a1 v1_2 v1_3 v1_4) K) (KK29_1 a0 a1 K) v1_2 v1_3 v1_4) (by kernel_rfl) ?_
    simp only [ih]
    exact ln29_1  L a0 a1 (lp_typing_local_1  L a0 a1 n) (KK29_1 a0 a1 K) v1_2 v1_3 v1_4
def kc29_1  (L : Nat)  (kk : PV → Prop) : Ex → St → Prop := (kBlock 0 (kSeq (EV (O29 L) L 9 c29.r.r.r) (kEnd Tryz.prog (RS Tryz.f29) kk)))
theorem q29_1  (L : Nat) (a0 : (List api_Field)) (a1 : ByteArray) (kk : PV → Prop) (o1 : Nat × (Int × Bool × Int)) : KK29_1 a0 a1 (kc29_1 L kk) o1 =
 (seln o1.1 [(ob (some (o1.2.1, o1.2.2.1)) (fun (x : (Int × Bool)) => kk (.tup [I x.1, B x.2]))),
 (ob (some (0, false)) (fun (x : (Int × Bool)) => kk (.tup [I x.1, B x.2])))]) := by kernel_rfl
def T_typing_local {A : Type} (an : An A)  (L : Nat) (a0 : (List api_Field)) (a1 : ByteArray) (out : (Int × Bool) → A) : A :=
 (an.bd (lp_typing_local_1 L a0 a1 L 0 false (w64 ((a0.length : Int) - 1))) fun o1 =>
 (an.sl o1.1 [(an.lf out (o1.2.1, o1.2.2.1)),
 (an.lf out (0, false))]))
def F_typing_local  (L : Nat) (a0 : (List api_Field)) (a1 : ByteArray) : Option (Int × Bool) := T_typing_local (anO _) L a0 a1 some
theorem e29  (L : Nat) (a0 : (List api_Field)) (a1 : ByteArray) (kk : PV → Prop) : EW (O29 L) L 9 (RS Tryz.f29) c29 [.lst false (.t68 a0), S a1] kk = ob (F_typing_local L a0 a1) (fun (x : (Int × Bool)) => kk (.tup [I x.1, B x.2])) := by
  refine Eq.trans (b := T_typing_local anP L a0 a1 (fun (x : (Int × Bool)) => kk (.tup [I x.1, B x.2]))) ?_ ?_
  · refine Eq.trans (b := (loopN (EV (O29 L) L 9 c29.r.r.l.r.r.l.l) [0, 1, 4, 5, 6] [] L (sh29_1 a0 a1 0 false (w64 ((a0.length : Int) - 1))) (kc29_1 L kk))) (by kernel_rfl) ?_
    unfold T_typing_local
    dsimp only [anP]
    simp only [le29_1, q29_1]
  generalize (fun (x : (Int × Bool)) => kk (.tup [I x.1, B x.2])) = Q
  unfold F_typing_local T_typing_local
  dsimp only [anP, anO]
  try simp only [y1, y2, y3, y4, y5 Q, y6, y7, y8 Q, y9, z1, z2, z3, z4]
theorem h29   (L : Nat) (a0 : (List api_Field)) (a1 : ByteArray) (r : (Int × Bool)) (h : F_typing_local L a0 a1 = some r) : Holds Tryz.prog 29 [.lst false (.t68 a0), S a1] (.tup [I r.1, B r.2]) :=
  hE grwOK (s29  L) mixed Tryz.func29 (by kernel_rfl : cFn Tryz.prog inl Tryz.f29 = some c29) (er := fun (x : (Int × Bool)) => .tup [I x.1, B x.2]) (by kernel_rfl) (e29 L a0 a1) h

/-! ### simulator/typing.Find -/
noncomputable def c14 : EC := (cFn Tryz.prog inl Tryz.f14).getD .stop
def O14  (L : Nat) : Oracle := (orc 29 (A2 (fun (x : (Int × Bool)) => .tup [I x.1, B x.2]) cl68 cS (F_typing_local L)) noC)
theorem s14   (L : Nat) : SoundC Tryz.prog (O14 L) := (orc_sound (a2 _ (h29 L)) (noC_sound Tryz.prog))
def sh14_1 (a1 : ByteArray) (a0 : api_Env) (v1_1 : Int) (v1_2 : Bool) (v1_5 : Int) : St := ({ fr := [(0, .any), (1, S a1), (2, .loc 2 0), (4, I v1_1), (5, B v1_2), (6, .any), (7, .any), (11, .any), (23, .lst false (.t72 a0.Site.Vars)), (24, I (a0.Site.Vars.length : Int)), (25, I v1_5), (39, .any)], ob := [(2, (enapi_Env a0))], base := 0 } : St)
def KK14_1 (a1 : ByteArray) (a0 : api_Env) (K : Ex → St → Prop) : Nat × (Int × Bool × Int) → Prop := fun o => seln o.1 [K .ret (sh14_1 a1 a0 o.2.1 o.2.2.1 o.2.2.2), K (.exit 0) (sh14_1 a1 a0 o.2.1 o.2.2.1 o.2.2.2)]
def lb_typing_Find_1 {A : Type} (an : An A)  (L : Nat) (a1 : ByteArray) (a0 : api_Env) (rec : Int → Bool → Int → A) (out : Nat × (Int × Bool × Int) → A) (v1_1 : Int) (v1_2 : Bool) (v1_5 : Int) : A :=
 (an.cn (decide (v1_5 < (a0.Site.Vars.length : Int)))
 (an.gd ((0 : Int) ≤ v1_5)
 (an.gd (v1_5 < ((a0.Site.Vars.length : Nat) : Int))
 (an.cn (((a0.Site.Vars.getD (Int.toNat v1_5) default).Name).toList == a1.toList)
 (an.lf out (0, (((a0.Site.Vars.getD (Int.toNat v1_5) default).Type_), true, v1_5)))
 (rec v1_1 v1_2 (w64 (v1_5 + 1))))))
 (an.lf out (1, (v1_1, v1_2, v1_5))))
def lp_typing_Find_1  (L : Nat) (a1 : ByteArray) (a0 : api_Env) : Nat → Int → Bool → Int → Option (Nat × (Int × Bool × Int))
  | 0, _, _, _ => none
  | n + 1, v1_1, v1_2, v1_5 => lb_typing_Find_1 (anO _)  L a1 a0 (lp_typing_Find_1  L a1 a0 n) some v1_1 v1_2 v1_5
theorem ln14_1  (L : Nat) (a1 : ByteArray) (a0 : api_Env) (g : Int → Bool → Int → Option (Nat × (Int × Bool × Int))) (Q : Nat × (Int × Bool × Int) → Prop) (v1_1 : Int) (v1_2 : Bool) (v1_5 : Int) : lb_typing_Find_1 anP  L a1 a0 (fun v1_1 v1_2 v1_5 => ob (g v1_1 v1_2 v1_5) Q) Q v1_1 v1_2 v1_5 = ob (lb_typing_Find_1 (anO _)  L a1 a0 g some v1_1 v1_2 v1_5) Q := by
  unfold lb_typing_Find_1
  dsimp only [anP, anO]
  try simp only [y1, y2, y3, y4, y5 Q, y6, y7, y8 Q, y9, z1, z2, z3, z4]
theorem le14_1  (L : Nat) (a1 : ByteArray) (a0 : api_Env) (n : Nat) (v1_1 : Int) (v1_2 : Bool) (v1_5 : Int) (K : Ex → St → Prop) : loopN (EV (O14 L) L 9 c14.r.r.r.r.l.r.r.l.l) [0, 1, 2, 4, 5, 6, 7, 11, 23, 24, 25, 39] [2] n (sh14_1 a1 a0 v1_1 v1_2 v1_5) K = ob (lp_typing_Find_1  L a1 a0 n v1_1 v1_2 v1_5) (fun o => KK14_1 a1 a0 K o) := by
  induction n generalizing v1_1 v1_2 v1_5 with
  | zero => rfl
  | succ n ih =>
    refine Eq.trans (b := lb_typing_Find_1 anP  L a1 a0 (fun v1_1 v1_2 v1_5 => loopN (EV (O14 L) L 9 c14.r.r.r.r.l.r.r.l.l) [0, 1, 2, 4, 5, 6, 7, 11, 23, 24, 25, 39] [2] n (sh14_1 a1 a0 v1_1 v1_2 v1_5) K) (KK14_1 a1 a0 K) v1_1 v1_2 v1_5) (by kernel_rfl) ?_
    simp only [ih]
    exact ln14_1  L a1 a0 (lp_typing_Find_1  L a1 a0 n) (KK14_1 a1 a0 K) v1_1 v1_2 v1_5
def sh14_2 (a1 : ByteArray) (a0 : api_Env) (v2_1 : Int) (v2_2 : Bool) (v2_5 : Int) : St := ({ fr := [(0, .any), (1, S a1), (2, .any), (4, I v2_1), (5, B v2_2), (6, .any), (7, .any), (9, .any), (25, .any), (37, .lst false (.t72 a0.Params)), (38, I (a0.Params.length : Int)), (39, I v2_5)], ob := [(2, (enapi_Env a0))], base := 0 } : St)
def KK14_2 (a1 : ByteArray) (a0 : api_Env) (K : Ex → St → Prop) : Nat × (Int × Bool × Int) → Prop := fun o => seln o.1 [K .ret (sh14_2 a1 a0 o.2.1 o.2.2.1 o.2.2.2), K (.exit 2) (sh14_2 a1 a0 o.2.1 o.2.2.1 o.2.2.2)]
def lb_typing_Find_2 {A : Type} (an : An A)  (L : Nat) (a1 : ByteArray) (a0 : api_Env) (rec : Int → Bool → Int → A) (out : Nat × (Int × Bool × Int) → A) (v2_1 : Int) (v2_2 : Bool) (v2_5 : Int) : A :=
 (an.cn (decide (v2_5 < (a0.Params.length : Int)))
 (an.gd ((0 : Int) ≤ v2_5)
 (an.gd (v2_5 < ((a0.Params.length : Nat) : Int))
 (an.cn (((a0.Params.getD (Int.toNat v2_5) default).Name).toList == a1.toList)
 (an.lf out (0, (((a0.Params.getD (Int.toNat v2_5) default).Type_), true, v2_5)))
 (rec v2_1 v2_2 (w64 (v2_5 + 1))))))
 (an.lf out (1, (v2_1, v2_2, v2_5))))
def lp_typing_Find_2  (L : Nat) (a1 : ByteArray) (a0 : api_Env) : Nat → Int → Bool → Int → Option (Nat × (Int × Bool × Int))
  | 0, _, _, _ => none
  | n + 1, v2_1, v2_2, v2_5 => lb_typing_Find_2 (anO _)  L a1 a0 (lp_typing_Find_2  L a1 a0 n) some v2_1 v2_2 v2_5
theorem ln14_2  (L : Nat) (a1 : ByteArray) (a0 : api_Env) (g : Int → Bool → Int → Option (Nat × (Int × Bool × Int))) (Q : Nat × (Int × Bool × Int) → Prop) (v2_1 : Int) (v2_2 : Bool) (v2_5 : Int) : lb_typing_Find_2 anP  L a1 a0 (fun v2_1 v2_2 v2_5 => ob (g v2_1 v2_2 v2_5) Q) Q v2_1 v2_2 v2_5 = ob (lb_typing_Find_2 (anO _)  L a1 a0 g some v2_1 v2_2 v2_5) Q := by
  unfold lb_typing_Find_2
  dsimp only [anP, anO]
  try simp only [y1, y2, y3, y4, y5 Q, y6, y7, y8 Q, y9, z1, z2, z3, z4]
theorem le14_2  (L : Nat) (a1 : ByteArray) (a0 : api_Env) (n : Nat) (v2_1 : Int) (v2_2 : Bool) (v2_5 : Int) (K : Ex → St → Prop) : loopN (EV (O14 L) L 9 c14.r.r.r.r.r.r.l.r.r.l.l) [0, 1, 2, 4, 5, 6, 7, 9, 25, 37, 38, 39] [2] n (sh14_2 a1 a0 v2_1 v2_2 v2_5) K = ob (lp_typing_Find_2  L a1 a0 n v2_1 v2_2 v2_5) (fun o => KK14_2 a1 a0 K o) := by
  induction n generalizing v2_1 v2_2 v2_5 with
  | zero => rfl
  | succ n ih =>
    refine Eq.trans (b := lb_typing_Find_2 anP  L a1 a0 (fun v2_1 v2_2 v2_5 => loopN (EV (O14 L) L 9 c14.r.r.r.r.r.r.l.r.r.l.l) [0, 1, 2, 4, 5, 6, 7, 9, 25, 37, 38, 39] [2] n (sh14_2 a1 a0 v2_1 v2_2 v2_5) K) (KK14_2 a1 a0 K) v2_1 v2_2 v2_5) (by kernel_rfl) ?_
    simp only [ih]
    exact ln14_2  L a1 a0 (lp_typing_Find_2  L a1 a0 n) (KK14_2 a1 a0 K) v2_1 v2_2 v2_5
def kc14_1  (L : Nat)  (kk : PV → Prop) : Ex → St → Prop := (kBlock 0 (kSeq (EV (O14 L) L 9 c14.r.r.r.r.r) (kEnd Tryz.prog (RS Tryz.f14) kk)))
def kc14_2  (L : Nat)  (kk : PV → Prop) : Ex → St → Prop := (kBlock 2 (kSeq (EV (O14 L) L 9 c14.r.r.r.r.r.r.r) (kEnd Tryz.prog (RS Tryz.f14) kk)))
theorem q14_1  (L : Nat) (a1 : ByteArray) (a0 : api_Env) (kk : PV → Prop) (o2 : Nat × (Int × Bool × Int)) : KK14_1 a1 a0 (kc14_1 L kk) o2 =
 (seln o2.1 [(ob (some (o2.2.1, o2.2.2.1)) (fun (x : (Int × Bool)) => kk (.tup [I x.1, B x.2]))),
 (loopN (EV (O14 L) L 9 c14.r.r.r.r.r.r.l.r.r.l.l) [0, 1, 2, 4, 5, 6, 7, 9, 25, 37, 38, 39] [2] L (sh14_2 a1 a0 o2.2.1 o2.2.2.1 0) (kc14_2 L kk))]) := by kernel_rfl
theorem q14_2  (L : Nat) (a1 : ByteArray) (a0 : api_Env) (kk : PV → Prop) (o3 : Nat × (Int × Bool × Int)) : KK14_2 a1 a0 (kc14_2 L kk) o3 =
 (seln o3.1 [(ob (some (o3.2.1, o3.2.2.1)) (fun (x : (Int × Bool)) => kk (.tup [I x.1, B x.2]))),
 (ob (some (0, false)) (fun (x : (Int × Bool)) => kk (.tup [I x.1, B x.2])))]) := by kernel_rfl
def T_typing_Find {A : Type} (an : An A)  (L : Nat) (a0 : api_Env) (a1 : ByteArray) (out : (Int × Bool) → A) : A :=
 (an.bd (F_typing_local L a0.Locals a1) fun r1 =>
 (an.cn r1.2
 (an.lf out (r1.1, true))
 (an.bd (lp_typing_Find_1 L a1 a0 L 0 false 0) fun o2 =>
 (an.sl o2.1 [(an.lf out (o2.2.1, o2.2.2.1)),
 (an.bd (lp_typing_Find_2 L a1 a0 L o2.2.1 o2.2.2.1 0) fun o3 =>
 (an.sl o3.1 [(an.lf out (o3.2.1, o3.2.2.1)),
 (an.lf out (0, false))]))]))))
def F_typing_Find  (L : Nat) (a0 : api_Env) (a1 : ByteArray) : Option (Int × Bool) := T_typing_Find (anO _) L a0 a1 some
theorem e14  (L : Nat) (a0 : api_Env) (a1 : ByteArray) (kk : PV → Prop) : EW (O14 L) L 9 (RS Tryz.f14) c14 [.agg (enapi_Env a0), S a1] kk = ob (F_typing_Find L a0 a1) (fun (x : (Int × Bool)) => kk (.tup [I x.1, B x.2])) := by
  refine Eq.trans (b := T_typing_Find anP L a0 a1 (fun (x : (Int × Bool)) => kk (.tup [I x.1, B x.2]))) ?_ ?_
  · refine Eq.trans (b := (ob (F_typing_local L a0.Locals a1) fun r1 =>
 (br r1.2
 (ob (some (r1.1, true)) (fun (x : (Int × Bool)) => kk (.tup [I x.1, B x.2])))
 (loopN (EV (O14 L) L 9 c14.r.r.r.r.l.r.r.l.l) [0, 1, 2, 4, 5, 6, 7, 11, 23, 24, 25, 39] [2] L (sh14_1 a1 a0 0 false 0) (kc14_1 L kk))))) (by kernel_rfl) ?_
    unfold T_typing_Find
    dsimp only [anP]
    simp only [le14_1, le14_2, q14_1, q14_2]
  generalize (fun (x : (Int × Bool)) => kk (.tup [I x.1, B x.2])) = Q
  unfold F_typing_Find T_typing_Find
  dsimp only [anP, anO]
  try simp only [y1, y2, y3, y4, y5 Q, y6, y7, y8 Q, y9, z1, z2, z3, z4]
theorem h14   (L : Nat) (a0 : api_Env) (a1 : ByteArray) (r : (Int × Bool)) (h : F_typing_Find L a0 a1 = some r) : Holds Tryz.prog 14 [.agg (enapi_Env a0), S a1] (.tup [I r.1, B r.2]) :=
  hE grwOK (s14  L) mixed Tryz.func14 (by kernel_rfl : cFn Tryz.prog inl Tryz.f14 = some c14) (er := fun (x : (Int × Bool)) => .tup [I x.1, B x.2]) (by kernel_rfl) (e14 L a0 a1) h

/-! ### slices.Index[[]string,string] -/
noncomputable def c178 : EC := (cFn Tryz.prog inl Tryz.f178).getD .stop
def O178  (L : Nat) : Oracle := noC
theorem s178   (L : Nat) : SoundC Tryz.prog (O178 L) := (noC_sound Tryz.prog)
def sh178_1 (a0 : (List ByteArray)) (a1 : ByteArray) (v1_2 : Int) (v1_4 : Int) : St := ({ fr := [(0, .lst false (.t9 a0)), (1, S a1), (4, I v1_2), (7, I (a0.length : Int)), (8, I v1_4)], ob := [], base := 0 } : St)
def KK178_1 (a0 : (List ByteArray)) (a1 : ByteArray) (K : Ex → St → Prop) : Nat × (Int × Int) → Prop := fun o => seln o.1 [K .ret (sh178_1 a0 a1 o.2.1 o.2.2), K (.exit 0) (sh178_1 a0 a1 o.2.1 o.2.2)]
def lb_slices_Index_string_1 {A : Type} (an : An A)  (L : Nat) (a0 : (List ByteArray)) (a1 : ByteArray) (rec : Int → Int → A) (out : Nat × (Int × Int) → A) (v1_2 : Int) (v1_4 : Int) : A :=
 (an.cn (decide (v1_4 < (a0.length : Int)))
 (an.gd ((0 : Int) ≤ v1_4)
 (an.gd (v1_4 < ((a0.length : Nat) : Int))
 (an.cn (a1.toList == (a0.getD (Int.toNat v1_4) default).toList)
 (an.lf out (0, (v1_4, v1_4)))
 (rec v1_2 (w64 (v1_4 + 1))))))
 (an.lf out (1, (v1_2, v1_4))))
def lp_slices_Index_string_1  (L : Nat) (a0 : (List ByteArray)) (a1 : ByteArray) : Nat → Int → Int → Option (Nat × (Int × Int))
  | 0, _, _ => none
  | n + 1, v1_2, v1_4 => lb_slices_Index_string_1 (anO _)  L a0 a1 (lp_slices_Index_string_1  L a0 a1 n) some v1_2 v1_4
theorem ln178_1  (L : Nat) (a0 : (List ByteArray)) (a1 : ByteArray) (g : Int → Int → Option (Nat × (Int × Int))) (Q : Nat × (Int × Int) → Prop) (v1_2 : Int) (v1_4 : Int) : lb_slices_Index_string_1 anP  L a0 a1 (fun v1_2 v1_4 => ob (g v1_2 v1_4) Q) Q v1_2 v1_4 = ob (lb_slices_Index_string_1 (anO _)  L a0 a1 g some v1_2 v1_4) Q := by
  unfold lb_slices_Index_string_1
  dsimp only [anP, anO]
  try simp only [y1, y2, y3, y4, y5 Q, y6, y7, y8 Q, y9, z1, z2, z3, z4]
theorem le178_1  (L : Nat) (a0 : (List ByteArray)) (a1 : ByteArray) (n : Nat) (v1_2 : Int) (v1_4 : Int) (K : Ex → St → Prop) : loopN (EV (O178 L) L 9 c178.r.r.l.r.r.l.l) [0, 1, 4, 7, 8] [] n (sh178_1 a0 a1 v1_2 v1_4) K = ob (lp_slices_Index_string_1  L a0 a1 n v1_2 v1_4) (fun o => KK178_1 a0 a1 K o) := by
  induction n generalizing v1_2 v1_4 with
  | zero => rfl
  | succ n ih =>
    refine Eq.trans (b := lb_slices_Index_string_1 anP  L a0 a1 (fun v1_2 v1_4 => loopN (EV (O178 L) L 9 c178.r.r.l.r.r.l.l) [0, 1, 4, 7, 8] [] n (sh178_1 a0 a1 v1_2 v1_4) K) (KK178_1 a0 a1 K) v1_2 v1_4) (by kernel_rfl) ?_
    simp only [ih]
    exact ln178_1  L a0 a1 (lp_slices_Index_string_1  L a0 a1 n) (KK178_1 a0 a1 K) v1_2 v1_4
def kc178_1  (L : Nat)  (kk : PV → Prop) : Ex → St → Prop := (kBlock 0 (kSeq (EV (O178 L) L 9 c178.r.r.r) (kEnd Tryz.prog (RS Tryz.f178) kk)))
theorem q178_1  (L : Nat) (a0 : (List ByteArray)) (a1 : ByteArray) (kk : PV → Prop) (o1 : Nat × (Int × Int)) : KK178_1 a0 a1 (kc178_1 L kk) o1 =
 (seln o1.1 [(ob (some o1.2.1) (fun (x : Int) => kk (I x))),
 (ob (some (-1)) (fun (x : Int) => kk (I x)))]) := by kernel_rfl
def T_slices_Index_string {A : Type} (an : An A)  (L : Nat) (a0 : (List ByteArray)) (a1 : ByteArray) (out : Int → A) : A :=
 (an.bd (lp_slices_Index_string_1 L a0 a1 L 0 0) fun o1 =>
 (an.sl o1.1 [(an.lf out o1.2.1),
 (an.lf out (-1))]))
def F_slices_Index_string  (L : Nat) (a0 : (List ByteArray)) (a1 : ByteArray) : Option Int := T_slices_Index_string (anO _) L a0 a1 some
theorem e178  (L : Nat) (a0 : (List ByteArray)) (a1 : ByteArray) (kk : PV → Prop) : EW (O178 L) L 9 (RS Tryz.f178) c178 [.lst false (.t9 a0), S a1] kk = ob (F_slices_Index_string L a0 a1) (fun (x : Int) => kk (I x)) := by
  refine Eq.trans (b := T_slices_Index_string anP L a0 a1 (fun (x : Int) => kk (I x))) ?_ ?_
  · refine Eq.trans (b := (loopN (EV (O178 L) L 9 c178.r.r.l.r.r.l.l) [0, 1, 4, 7, 8] [] L (sh178_1 a0 a1 0 0) (kc178_1 L kk))) (by kernel_rfl) ?_
    unfold T_slices_Index_string
    dsimp only [anP]
    simp only [le178_1, q178_1]
  generalize (fun (x : Int) => kk (I x)) = Q
  unfold F_slices_Index_string T_slices_Index_string
  dsimp only [anP, anO]
  try simp only [y1, y2, y3, y4, y5 Q, y6, y7, y8 Q, y9, z1, z2, z3, z4]
theorem h178   (L : Nat) (a0 : (List ByteArray)) (a1 : ByteArray) (r : Int) (h : F_slices_Index_string L a0 a1 = some r) : Holds Tryz.prog 178 [.lst false (.t9 a0), S a1] (I r) :=
  hE grwOK (s178  L) mixed Tryz.func178 (by kernel_rfl : cFn Tryz.prog inl Tryz.f178 = some c178) (er := fun (x : Int) => I x) (by kernel_rfl) (e178 L a0 a1) h

noncomputable def c181 : EC := (cFn Tryz.prog inl Tryz.f181).getD .stop
/-! ### simulator/model.Routine -/
noncomputable def c94 : EC := (cFn Tryz.prog inl Tryz.f94).getD .stop
def O94  (L : Nat) : Oracle := noC
theorem s94   (L : Nat) : SoundC Tryz.prog (O94 L) := (noC_sound Tryz.prog)
def sh94_1 (p1_0 : List api_Routine) (p1_1 : api_SiteDecl) (p1_2 : ByteArray) (v1_1 : Int) (v1_3 : Int) : St := ({ fr := [(0, .lst false (.t74 p1_0)), (1, .clo 182 0 [.loc 3 0]), (4, I v1_1), (7, I (p1_0.length : Int)), (8, I v1_3)], ob := [(2, (enapi_SiteDecl p1_1)), (3, [S p1_2])], base := 4 } : St)
def KK94_1 (p1_0 : List api_Routine) (p1_1 : api_SiteDecl) (p1_2 : ByteArray) (K : Ex → St → Prop) : Nat × (Int × Int) → Prop := fun o => seln o.1 [K .ret (sh94_1 p1_0 p1_1 p1_2 o.2.1 o.2.2), K (.exit 0) (sh94_1 p1_0 p1_1 p1_2 o.2.1 o.2.2)]
def lb_model_Routine_1 {A : Type} (an : An A)  (L : Nat) (p1_0 : List api_Routine) (p1_1 : api_SiteDecl) (p1_2 : ByteArray) (rec : Int → Int → A) (out : Nat × (Int × Int) → A) (v1_1 : Int) (v1_3 : Int) : A :=
 (an.cn (decide (v1_3 < (p1_0.length : Int)))
 (an.gd ((0 : Int) ≤ v1_3)
 (an.gd (v1_3 < ((p1_0.length : Nat) : Int))
 (an.cn (((p1_0.getD (Int.toNat v1_3) default).Name).toList == p1_2.toList)
 (an.lf out (0, (v1_3, v1_3)))
 (rec v1_1 (w64 (v1_3 + 1))))))
 (an.lf out (1, (v1_1, v1_3))))
def lp_model_Routine_1  (L : Nat) (p1_0 : List api_Routine) (p1_1 : api_SiteDecl) (p1_2 : ByteArray) : Nat → Int → Int → Option (Nat × (Int × Int))
  | 0, _, _ => none
  | n + 1, v1_1, v1_3 => lb_model_Routine_1 (anO _)  L p1_0 p1_1 p1_2 (lp_model_Routine_1  L p1_0 p1_1 p1_2 n) some v1_1 v1_3
theorem ln94_1  (L : Nat) (p1_0 : List api_Routine) (p1_1 : api_SiteDecl) (p1_2 : ByteArray) (g : Int → Int → Option (Nat × (Int × Int))) (Q : Nat × (Int × Int) → Prop) (v1_1 : Int) (v1_3 : Int) : lb_model_Routine_1 anP  L p1_0 p1_1 p1_2 (fun v1_1 v1_3 => ob (g v1_1 v1_3) Q) Q v1_1 v1_3 = ob (lb_model_Routine_1 (anO _)  L p1_0 p1_1 p1_2 g some v1_1 v1_3) Q := by
  unfold lb_model_Routine_1
  dsimp only [anP, anO]
  try simp only [y1, y2, y3, y4, y5 Q, y6, y7, y8 Q, y9, z1, z2, z3, z4]
theorem le94_1  (L : Nat) (p1_0 : List api_Routine) (p1_1 : api_SiteDecl) (p1_2 : ByteArray) (n : Nat) (v1_1 : Int) (v1_3 : Int) (K : Ex → St → Prop) : loopN (EV (O94 L) L 8 c181.r.r.l.r.r.l.l) [0, 1, 4, 7, 8] [2, 3] n (sh94_1 p1_0 p1_1 p1_2 v1_1 v1_3) K = ob (lp_model_Routine_1  L p1_0 p1_1 p1_2 n v1_1 v1_3) (fun o => KK94_1 p1_0 p1_1 p1_2 K o) := by
  induction n generalizing v1_1 v1_3 with
  | zero => rfl
  | succ n ih =>
    refine Eq.trans (b := lb_model_Routine_1 anP  L p1_0 p1_1 p1_2 (fun v1_1 v1_3 => loopN (EV (O94 L) L 8 c181.r.r.l.r.r.l.l) [0, 1, 4, 7, 8] [2, 3] n (sh94_1 p1_0 p1_1 p1_2 v1_1 v1_3) K) (KK94_1 p1_0 p1_1 p1_2 K) v1_1 v1_3) (by kernel_rfl) ?_
    simp only [ih]
    exact ln94_1  L p1_0 p1_1 p1_2 (lp_model_Routine_1  L p1_0 p1_1 p1_2 n) (KK94_1 p1_0 p1_1 p1_2 K) v1_1 v1_3
def ia94_1 (p1_0 : List api_Routine) (p1_1 : api_SiteDecl) (p1_2 : ByteArray) : List PV := [.lst false (.t74 p1_0), .clo 182 0 [.loc 3 0]]
def io94_1 (p1_0 : List api_Routine) (p1_1 : api_SiteDecl) (p1_2 : ByteArray) : List (Nat × List PV) := [(2, (enapi_SiteDecl p1_1)), (3, [S p1_2])]
def KI94_1 (p1_0 : List api_Routine) (p1_1 : api_SiteDecl) (p1_2 : ByteArray) (k : PV → List (Nat × List PV) → Prop) : Int → Prop := fun o => k (I o) [(2, (enapi_SiteDecl p1_1)), (3, [S p1_2])]
def ib_model_Routine_1 {A : Type} (an : An A)  (L : Nat) (p1_0 : List api_Routine) (p1_1 : api_SiteDecl) (p1_2 : ByteArray) (out : Int → A) : A :=
 (an.bd (lp_model_Routine_1 L p1_0 p1_1 p1_2 L 0 0) fun o1 =>
 (an.sl o1.1 [(an.lf out o1.2.1),
 (an.lf out (-1))]))
def ic_model_Routine_1  (L : Nat) (p1_0 : List api_Routine) (p1_1 : api_SiteDecl) (p1_2 : ByteArray) : Option Int := ib_model_Routine_1 (anO _)  L p1_0 p1_1 p1_2 some
def kc94_1  (L : Nat)  (p1_0 : List api_Routine) (p1_1 : api_SiteDecl) (p1_2 : ByteArray) (k : PV → List (Nat × List PV) → Prop) : Ex → St → Prop := (kBlock 0 (kSeq (EV (O94 L) L 8 c181.r.r.r) (kEndI Tryz.prog (RS Tryz.f181) k)))
theorem q94_1  (L : Nat)  (p1_0 : List api_Routine) (p1_1 : api_SiteDecl) (p1_2 : ByteArray) (k : PV → List (Nat × List PV) → Prop) (o1 : Nat × (Int × Int)) : KK94_1 p1_0 p1_1 p1_2 (kc94_1 L p1_0 p1_1 p1_2 k) o1 =
 (seln o1.1 [(ob (some o1.2.1) (KI94_1 p1_0 p1_1 p1_2 k)),
 (ob (some (-1)) (KI94_1 p1_0 p1_1 p1_2 k))]) := by kernel_rfl
theorem iE94_1  (L : Nat) (p1_0 : List api_Routine) (p1_1 : api_SiteDecl) (p1_2 : ByteArray) (k : PV → List (Nat × List PV) → Prop) : YO (O94 L) L 9 181 (ia94_1 p1_0 p1_1 p1_2) (io94_1 p1_0 p1_1 p1_2) k = ob (ic_model_Routine_1  L p1_0 p1_1 p1_2) (fun o => KI94_1 p1_0 p1_1 p1_2 k o) := by
  refine (Yo_step _ _ _ jn4 _ _ _ _ _ _ _).trans ?_
  refine Eq.trans (b := ib_model_Routine_1 anP  L p1_0 p1_1 p1_2 (KI94_1 p1_0 p1_1 p1_2 k)) ?_ ?_
  · refine Eq.trans (b := (loopN (EV (O94 L) L 8 c181.r.r.l.r.r.l.l) [0, 1, 4, 7, 8] [2, 3] L (sh94_1 p1_0 p1_1 p1_2 0 0) (kc94_1 L p1_0 p1_1 p1_2 k))) (by kernel_rfl) ?_
    unfold ib_model_Routine_1
    dsimp only [anP]
    simp only [le94_1, q94_1]
  generalize KI94_1 p1_0 p1_1 p1_2 k = Q
  unfold ic_model_Routine_1 ib_model_Routine_1
  dsimp only [anP, anO]
  try simp only [y1, y2, y3, y4, y5 Q, y6, y7, y8 Q, y9, z1, z2, z3, z4]
def kc94_2  (L : Nat) (a0 : api_SiteDecl) (a1 : ByteArray) (kk : PV → Prop) : PV → List (Nat × List PV) → Prop := (kCallS Tryz.prog (O94 L) (EI (O94 L) L 9) 1 (List.drop 4 c94.r.r.l.ops) ({ fr := [(7, .clo 182 0 [.loc 3 0]), (6, .lst false (.t74 a0.Routines)), (5, .loc 2 10), (2, .loc 2 0), (3, .loc 3 0), (4, I 0)], ob := [(2, (enapi_SiteDecl a0)), (3, [S a1])], base := 0 } : St) (some 8) (fun st9 => (kSeq (EV (O94 L) L 9 c94.r.r.r) (kEnd Tryz.prog (RS Tryz.f94) kk)) .normal st9))
theorem q94_2  (L : Nat) (a0 : api_SiteDecl) (a1 : ByteArray) (kk : PV → Prop) (o1 : Int) : KI94_1 a0.Routines a0 a1 (kc94_2 L a0 a1 kk) o1 =
 (ob (some o1) (fun (x : Int) => kk (I x))) := by kernel_rfl
def T_model_Routine {A : Type} (an : An A)  (L : Nat) (a0 : api_SiteDecl) (a1 : ByteArray) (out : Int → A) : A :=
 (an.bd (ic_model_Routine_1 L a0.Routines a0 a1) fun o1 =>
 (an.lf out o1))
def F_model_Routine  (L : Nat) (a0 : api_SiteDecl) (a1 : ByteArray) : Option Int := T_model_Routine (anO _) L a0 a1 some
theorem e94  (L : Nat) (a0 : api_SiteDecl) (a1 : ByteArray) (kk : PV → Prop) : EW (O94 L) L 9 (RS Tryz.f94) c94 [.agg (enapi_SiteDecl a0), S a1] kk = ob (F_model_Routine L a0 a1) (fun (x : Int) => kk (I x)) := by
  refine Eq.trans (b := T_model_Routine anP L a0 a1 (fun (x : Int) => kk (I x))) ?_ ?_
  · refine Eq.trans (b := (YO (O94 L) L 9 181 (ia94_1 a0.Routines a0 a1) (io94_1 a0.Routines a0 a1) (kc94_2 L a0 a1 kk))) (by kernel_rfl) ?_
    unfold T_model_Routine
    dsimp only [anP]
    simp only [iE94_1, q94_2]
  generalize (fun (x : Int) => kk (I x)) = Q
  unfold F_model_Routine T_model_Routine
  dsimp only [anP, anO]
  try simp only [y1, y2, y3, y4, y5 Q, y6, y7, y8 Q, y9, z1, z2, z3, z4]
theorem h94   (L : Nat) (a0 : api_SiteDecl) (a1 : ByteArray) (r : Int) (h : F_model_Routine L a0 a1 = some r) : Holds Tryz.prog 94 [.agg (enapi_SiteDecl a0), S a1] (I r) :=
  hE grwOK (s94  L) mixed Tryz.func94 (by kernel_rfl : cFn Tryz.prog inl Tryz.f94 = some c94) (er := fun (x : Int) => I x) (by kernel_rfl) (e94 L a0 a1) h

noncomputable def c170 : EC := (cFn Tryz.prog inl Tryz.f170).getD .stop
noncomputable def c172 : EC := (cFn Tryz.prog inl Tryz.f172).getD .stop
noncomputable def c174 : EC := (cFn Tryz.prog inl Tryz.f174).getD .stop
noncomputable def c176 : EC := (cFn Tryz.prog inl Tryz.f176).getD .stop
/-! ### simulator/model.place -/
noncomputable def c84 : EC := (cFn Tryz.prog inl Tryz.f84).getD .stop
def O84  (L : Nat) : Oracle := (orc 94 (A2 (fun (x : Int) => I x) ca_api_SiteDecl cS (F_model_Routine L)) (orc 178 (A2 (fun (x : Int) => I x) cl9 cS (F_slices_Index_string L)) noC))
theorem s84   (L : Nat) : SoundC Tryz.prog (O84 L) := (orc_sound (a2 _ (h94 L)) (orc_sound (a2 _ (h178 L)) (noC_sound Tryz.prog)))
def sh84_1 (p1_0 : List api_Value) (p1_1 : api_SiteDecl) (p1_2 : ByteArray) (v1_1 : Int) (v1_3 : Int) : St := ({ fr := [(0, .lst false (.t72 p1_0)), (1, .clo 171 0 [.loc 3 0]), (4, I v1_1), (7, I (p1_0.length : Int)), (8, I v1_3)], ob := [(2, (enapi_SiteDecl p1_1)), (3, [S p1_2])], base := 4 } : St)
def KK84_1 (p1_0 : List api_Value) (p1_1 : api_SiteDecl) (p1_2 : ByteArray) (K : Ex → St → Prop) : Nat × (Int × Int) → Prop := fun o => seln o.1 [K .ret (sh84_1 p1_0 p1_1 p1_2 o.2.1 o.2.2), K (.exit 0) (sh84_1 p1_0 p1_1 p1_2 o.2.1 o.2.2)]
def lb_model_place_1 {A : Type} (an : An A)  (L : Nat) (p1_0 : List api_Value) (p1_1 : api_SiteDecl) (p1_2 : ByteArray) (rec : Int → Int → A) (out : Nat × (Int × Int) → A) (v1_1 : Int) (v1_3 : Int) : A :=
 (an.cn (decide (v1_3 < (p1_0.length : Int)))
 (an.gd ((0 : Int) ≤ v1_3)
 (an.gd (v1_3 < ((p1_0.length : Nat) : Int))
 (an.cn (((p1_0.getD (Int.toNat v1_3) default).Name).toList == p1_2.toList)
 (an.lf out (0, (v1_3, v1_3)))
 (rec v1_1 (w64 (v1_3 + 1))))))
 (an.lf out (1, (v1_1, v1_3))))
def lp_model_place_1  (L : Nat) (p1_0 : List api_Value) (p1_1 : api_SiteDecl) (p1_2 : ByteArray) : Nat → Int → Int → Option (Nat × (Int × Int))
  | 0, _, _ => none
  | n + 1, v1_1, v1_3 => lb_model_place_1 (anO _)  L p1_0 p1_1 p1_2 (lp_model_place_1  L p1_0 p1_1 p1_2 n) some v1_1 v1_3
theorem ln84_1  (L : Nat) (p1_0 : List api_Value) (p1_1 : api_SiteDecl) (p1_2 : ByteArray) (g : Int → Int → Option (Nat × (Int × Int))) (Q : Nat × (Int × Int) → Prop) (v1_1 : Int) (v1_3 : Int) : lb_model_place_1 anP  L p1_0 p1_1 p1_2 (fun v1_1 v1_3 => ob (g v1_1 v1_3) Q) Q v1_1 v1_3 = ob (lb_model_place_1 (anO _)  L p1_0 p1_1 p1_2 g some v1_1 v1_3) Q := by
  unfold lb_model_place_1
  dsimp only [anP, anO]
  try simp only [y1, y2, y3, y4, y5 Q, y6, y7, y8 Q, y9, z1, z2, z3, z4]
theorem le84_1  (L : Nat) (p1_0 : List api_Value) (p1_1 : api_SiteDecl) (p1_2 : ByteArray) (n : Nat) (v1_1 : Int) (v1_3 : Int) (K : Ex → St → Prop) : loopN (EV (O84 L) L 8 c170.r.r.l.r.r.l.l) [0, 1, 4, 7, 8] [2, 3] n (sh84_1 p1_0 p1_1 p1_2 v1_1 v1_3) K = ob (lp_model_place_1  L p1_0 p1_1 p1_2 n v1_1 v1_3) (fun o => KK84_1 p1_0 p1_1 p1_2 K o) := by
  induction n generalizing v1_1 v1_3 with
  | zero => rfl
  | succ n ih =>
    refine Eq.trans (b := lb_model_place_1 anP  L p1_0 p1_1 p1_2 (fun v1_1 v1_3 => loopN (EV (O84 L) L 8 c170.r.r.l.r.r.l.l) [0, 1, 4, 7, 8] [2, 3] n (sh84_1 p1_0 p1_1 p1_2 v1_1 v1_3) K) (KK84_1 p1_0 p1_1 p1_2 K) v1_1 v1_3) (by kernel_rfl) ?_
    simp only [ih]
    exact ln84_1  L p1_0 p1_1 p1_2 (lp_model_place_1  L p1_0 p1_1 p1_2 n) (KK84_1 p1_0 p1_1 p1_2 K) v1_1 v1_3
def ia84_1 (p1_0 : List api_Value) (p1_1 : api_SiteDecl) (p1_2 : ByteArray) : List PV := [.lst false (.t72 p1_0), .clo 171 0 [.loc 3 0]]
def io84_1 (p1_0 : List api_Value) (p1_1 : api_SiteDecl) (p1_2 : ByteArray) : List (Nat × List PV) := [(2, (enapi_SiteDecl p1_1)), (3, [S p1_2])]
def KI84_1 (p1_0 : List api_Value) (p1_1 : api_SiteDecl) (p1_2 : ByteArray) (k : PV → List (Nat × List PV) → Prop) : Int → Prop := fun o => k (I o) [(2, (enapi_SiteDecl p1_1)), (3, [S p1_2])]
def ib_model_place_1 {A : Type} (an : An A)  (L : Nat) (p1_0 : List api_Value) (p1_1 : api_SiteDecl) (p1_2 : ByteArray) (out : Int → A) : A :=
 (an.bd (lp_model_place_1 L p1_0 p1_1 p1_2 L 0 0) fun o1 =>
 (an.sl o1.1 [(an.lf out o1.2.1),
 (an.lf out (-1))]))
def ic_model_place_1  (L : Nat) (p1_0 : List api_Value) (p1_1 : api_SiteDecl) (p1_2 : ByteArray) : Option Int := ib_model_place_1 (anO _)  L p1_0 p1_1 p1_2 some
def kc84_1  (L : Nat)  (p1_0 : List api_Value) (p1_1 : api_SiteDecl) (p1_2 : ByteArray) (k : PV → List (Nat × List PV) → Prop) : Ex → St → Prop := (kBlock 0 (kSeq (EV (O84 L) L 8 c170.r.r.r) (kEndI Tryz.prog (RS Tryz.f170) k)))
theorem q84_1  (L : Nat)  (p1_0 : List api_Value) (p1_1 : api_SiteDecl) (p1_2 : ByteArray) (k : PV → List (Nat × List PV) → Prop) (o1 : Nat × (Int × Int)) : KK84_1 p1_0 p1_1 p1_2 (kc84_1 L p1_0 p1_1 p1_2 k) o1 =
 (seln o1.1 [(ob (some o1.2.1) (KI84_1 p1_0 p1_1 p1_2 k)),
 (ob (some (-1)) (KI84_1 p1_0 p1_1 p1_2 k))]) := by kernel_rfl
theorem iE84_1  (L : Nat) (p1_0 : List api_Value) (p1_1 : api_SiteDecl) (p1_2 : ByteArray) (k : PV → List (Nat × List PV) → Prop) : YO (O84 L) L 9 170 (ia84_1 p1_0 p1_1 p1_2) (io84_1 p1_0 p1_1 p1_2) k = ob (ic_model_place_1  L p1_0 p1_1 p1_2) (fun o => KI84_1 p1_0 p1_1 p1_2 k o) := by
  refine (Yo_step _ _ _ jn4 _ _ _ _ _ _ _).trans ?_
  refine Eq.trans (b := ib_model_place_1 anP  L p1_0 p1_1 p1_2 (KI84_1 p1_0 p1_1 p1_2 k)) ?_ ?_
  · refine Eq.trans (b := (loopN (EV (O84 L) L 8 c170.r.r.l.r.r.l.l) [0, 1, 4, 7, 8] [2, 3] L (sh84_1 p1_0 p1_1 p1_2 0 0) (kc84_1 L p1_0 p1_1 p1_2 k))) (by kernel_rfl) ?_
    unfold ib_model_place_1
    dsimp only [anP]
    simp only [le84_1, q84_1]
  generalize KI84_1 p1_0 p1_1 p1_2 k = Q
  unfold ic_model_place_1 ib_model_place_1
  dsimp only [anP, anO]
  try simp only [y1, y2, y3, y4, y5 Q, y6, y7, y8 Q, y9, z1, z2, z3, z4]
def sh84_2 (p2_0 : List api_ResourceDecl) (p2_1 : api_SiteDecl) (p2_2 : ByteArray) (v2_1 : Int) (v2_3 : Int) : St := ({ fr := [(0, .lst false (.t149 p2_0)), (1, .clo 173 0 [.loc 3 0]), (4, I v2_1), (7, I (p2_0.length : Int)), (8, I v2_3)], ob := [(2, (enapi_SiteDecl p2_1)), (3, [S p2_2])], base := 4 } : St)
def KK84_2 (p2_0 : List api_ResourceDecl) (p2_1 : api_SiteDecl) (p2_2 : ByteArray) (K : Ex → St → Prop) : Nat × (Int × Int) → Prop := fun o => seln o.1 [K .ret (sh84_2 p2_0 p2_1 p2_2 o.2.1 o.2.2), K (.exit 0) (sh84_2 p2_0 p2_1 p2_2 o.2.1 o.2.2)]
def lb_model_place_2 {A : Type} (an : An A)  (L : Nat) (p2_0 : List api_ResourceDecl) (p2_1 : api_SiteDecl) (p2_2 : ByteArray) (rec : Int → Int → A) (out : Nat × (Int × Int) → A) (v2_1 : Int) (v2_3 : Int) : A :=
 (an.cn (decide (v2_3 < (p2_0.length : Int)))
 (an.gd ((0 : Int) ≤ v2_3)
 (an.gd (v2_3 < ((p2_0.length : Nat) : Int))
 (an.cn (((p2_0.getD (Int.toNat v2_3) default).Name).toList == p2_2.toList)
 (an.lf out (0, (v2_3, v2_3)))
 (rec v2_1 (w64 (v2_3 + 1))))))
 (an.lf out (1, (v2_1, v2_3))))
def lp_model_place_2  (L : Nat) (p2_0 : List api_ResourceDecl) (p2_1 : api_SiteDecl) (p2_2 : ByteArray) : Nat → Int → Int → Option (Nat × (Int × Int))
  | 0, _, _ => none
  | n + 1, v2_1, v2_3 => lb_model_place_2 (anO _)  L p2_0 p2_1 p2_2 (lp_model_place_2  L p2_0 p2_1 p2_2 n) some v2_1 v2_3
theorem ln84_2  (L : Nat) (p2_0 : List api_ResourceDecl) (p2_1 : api_SiteDecl) (p2_2 : ByteArray) (g : Int → Int → Option (Nat × (Int × Int))) (Q : Nat × (Int × Int) → Prop) (v2_1 : Int) (v2_3 : Int) : lb_model_place_2 anP  L p2_0 p2_1 p2_2 (fun v2_1 v2_3 => ob (g v2_1 v2_3) Q) Q v2_1 v2_3 = ob (lb_model_place_2 (anO _)  L p2_0 p2_1 p2_2 g some v2_1 v2_3) Q := by
  unfold lb_model_place_2
  dsimp only [anP, anO]
  try simp only [y1, y2, y3, y4, y5 Q, y6, y7, y8 Q, y9, z1, z2, z3, z4]
theorem le84_2  (L : Nat) (p2_0 : List api_ResourceDecl) (p2_1 : api_SiteDecl) (p2_2 : ByteArray) (n : Nat) (v2_1 : Int) (v2_3 : Int) (K : Ex → St → Prop) : loopN (EV (O84 L) L 8 c172.r.r.l.r.r.l.l) [0, 1, 4, 7, 8] [2, 3] n (sh84_2 p2_0 p2_1 p2_2 v2_1 v2_3) K = ob (lp_model_place_2  L p2_0 p2_1 p2_2 n v2_1 v2_3) (fun o => KK84_2 p2_0 p2_1 p2_2 K o) := by
  induction n generalizing v2_1 v2_3 with
  | zero => rfl
  | succ n ih =>
    refine Eq.trans (b := lb_model_place_2 anP  L p2_0 p2_1 p2_2 (fun v2_1 v2_3 => loopN (EV (O84 L) L 8 c172.r.r.l.r.r.l.l) [0, 1, 4, 7, 8] [2, 3] n (sh84_2 p2_0 p2_1 p2_2 v2_1 v2_3) K) (KK84_2 p2_0 p2_1 p2_2 K) v2_1 v2_3) (by kernel_rfl) ?_
    simp only [ih]
    exact ln84_2  L p2_0 p2_1 p2_2 (lp_model_place_2  L p2_0 p2_1 p2_2 n) (KK84_2 p2_0 p2_1 p2_2 K) v2_1 v2_3
def ia84_2 (p2_0 : List api_ResourceDecl) (p2_1 : api_SiteDecl) (p2_2 : ByteArray) : List PV := [.lst false (.t149 p2_0), .clo 173 0 [.loc 3 0]]
def io84_2 (p2_0 : List api_ResourceDecl) (p2_1 : api_SiteDecl) (p2_2 : ByteArray) : List (Nat × List PV) := [(2, (enapi_SiteDecl p2_1)), (3, [S p2_2])]
def KI84_2 (p2_0 : List api_ResourceDecl) (p2_1 : api_SiteDecl) (p2_2 : ByteArray) (k : PV → List (Nat × List PV) → Prop) : Int → Prop := fun o => k (I o) [(2, (enapi_SiteDecl p2_1)), (3, [S p2_2])]
def ib_model_place_2 {A : Type} (an : An A)  (L : Nat) (p2_0 : List api_ResourceDecl) (p2_1 : api_SiteDecl) (p2_2 : ByteArray) (out : Int → A) : A :=
 (an.bd (lp_model_place_2 L p2_0 p2_1 p2_2 L 0 0) fun o2 =>
 (an.sl o2.1 [(an.lf out o2.2.1),
 (an.lf out (-1))]))
def ic_model_place_2  (L : Nat) (p2_0 : List api_ResourceDecl) (p2_1 : api_SiteDecl) (p2_2 : ByteArray) : Option Int := ib_model_place_2 (anO _)  L p2_0 p2_1 p2_2 some
def kc84_2  (L : Nat)  (p2_0 : List api_ResourceDecl) (p2_1 : api_SiteDecl) (p2_2 : ByteArray) (k : PV → List (Nat × List PV) → Prop) : Ex → St → Prop := (kBlock 0 (kSeq (EV (O84 L) L 8 c172.r.r.r) (kEndI Tryz.prog (RS Tryz.f172) k)))
theorem q84_2  (L : Nat)  (p2_0 : List api_ResourceDecl) (p2_1 : api_SiteDecl) (p2_2 : ByteArray) (k : PV → List (Nat × List PV) → Prop) (o2 : Nat × (Int × Int)) : KK84_2 p2_0 p2_1 p2_2 (kc84_2 L p2_0 p2_1 p2_2 k) o2 =
 (seln o2.1 [(ob (some o2.2.1) (KI84_2 p2_0 p2_1 p2_2 k)),
 (ob (some (-1)) (KI84_2 p2_0 p2_1 p2_2 k))]) := by kernel_rfl
theorem iE84_2  (L : Nat) (p2_0 : List api_ResourceDecl) (p2_1 : api_SiteDecl) (p2_2 : ByteArray) (k : PV → List (Nat × List PV) → Prop) : YO (O84 L) L 9 172 (ia84_2 p2_0 p2_1 p2_2) (io84_2 p2_0 p2_1 p2_2) k = ob (ic_model_place_2  L p2_0 p2_1 p2_2) (fun o => KI84_2 p2_0 p2_1 p2_2 k o) := by
  refine (Yo_step _ _ _ jn4 _ _ _ _ _ _ _).trans ?_
  refine Eq.trans (b := ib_model_place_2 anP  L p2_0 p2_1 p2_2 (KI84_2 p2_0 p2_1 p2_2 k)) ?_ ?_
  · refine Eq.trans (b := (loopN (EV (O84 L) L 8 c172.r.r.l.r.r.l.l) [0, 1, 4, 7, 8] [2, 3] L (sh84_2 p2_0 p2_1 p2_2 0 0) (kc84_2 L p2_0 p2_1 p2_2 k))) (by kernel_rfl) ?_
    unfold ib_model_place_2
    dsimp only [anP]
    simp only [le84_2, q84_2]
  generalize KI84_2 p2_0 p2_1 p2_2 k = Q
  unfold ic_model_place_2 ib_model_place_2
  dsimp only [anP, anO]
  try simp only [y1, y2, y3, y4, y5 Q, y6, y7, y8 Q, y9, z1, z2, z3, z4]
def sh84_3 (p3_0 : List api_StoreDecl) (p3_1 : api_SiteDecl) (p3_2 : ByteArray) (v3_1 : Int) (v3_3 : Int) : St := ({ fr := [(0, .lst false (.t156 p3_0)), (1, .clo 175 0 [.loc 3 0]), (4, I v3_1), (7, I (p3_0.length : Int)), (8, I v3_3)], ob := [(2, (enapi_SiteDecl p3_1)), (3, [S p3_2])], base := 4 } : St)
def KK84_3 (p3_0 : List api_StoreDecl) (p3_1 : api_SiteDecl) (p3_2 : ByteArray) (K : Ex → St → Prop) : Nat × (Int × Int) → Prop := fun o => seln o.1 [K .ret (sh84_3 p3_0 p3_1 p3_2 o.2.1 o.2.2), K (.exit 0) (sh84_3 p3_0 p3_1 p3_2 o.2.1 o.2.2)]
def lb_model_place_3 {A : Type} (an : An A)  (L : Nat) (p3_0 : List api_StoreDecl) (p3_1 : api_SiteDecl) (p3_2 : ByteArray) (rec : Int → Int → A) (out : Nat × (Int × Int) → A) (v3_1 : Int) (v3_3 : Int) : A :=
 (an.cn (decide (v3_3 < (p3_0.length : Int)))
 (an.gd ((0 : Int) ≤ v3_3)
 (an.gd (v3_3 < ((p3_0.length : Nat) : Int))
 (an.cn (((p3_0.getD (Int.toNat v3_3) default).Name).toList == p3_2.toList)
 (an.lf out (0, (v3_3, v3_3)))
 (rec v3_1 (w64 (v3_3 + 1))))))
 (an.lf out (1, (v3_1, v3_3))))
def lp_model_place_3  (L : Nat) (p3_0 : List api_StoreDecl) (p3_1 : api_SiteDecl) (p3_2 : ByteArray) : Nat → Int → Int → Option (Nat × (Int × Int))
  | 0, _, _ => none
  | n + 1, v3_1, v3_3 => lb_model_place_3 (anO _)  L p3_0 p3_1 p3_2 (lp_model_place_3  L p3_0 p3_1 p3_2 n) some v3_1 v3_3
theorem ln84_3  (L : Nat) (p3_0 : List api_StoreDecl) (p3_1 : api_SiteDecl) (p3_2 : ByteArray) (g : Int → Int → Option (Nat × (Int × Int))) (Q : Nat × (Int × Int) → Prop) (v3_1 : Int) (v3_3 : Int) : lb_model_place_3 anP  L p3_0 p3_1 p3_2 (fun v3_1 v3_3 => ob (g v3_1 v3_3) Q) Q v3_1 v3_3 = ob (lb_model_place_3 (anO _)  L p3_0 p3_1 p3_2 g some v3_1 v3_3) Q := by
  unfold lb_model_place_3
  dsimp only [anP, anO]
  try simp only [y1, y2, y3, y4, y5 Q, y6, y7, y8 Q, y9, z1, z2, z3, z4]
theorem le84_3  (L : Nat) (p3_0 : List api_StoreDecl) (p3_1 : api_SiteDecl) (p3_2 : ByteArray) (n : Nat) (v3_1 : Int) (v3_3 : Int) (K : Ex → St → Prop) : loopN (EV (O84 L) L 8 c174.r.r.l.r.r.l.l) [0, 1, 4, 7, 8] [2, 3] n (sh84_3 p3_0 p3_1 p3_2 v3_1 v3_3) K = ob (lp_model_place_3  L p3_0 p3_1 p3_2 n v3_1 v3_3) (fun o => KK84_3 p3_0 p3_1 p3_2 K o) := by
  induction n generalizing v3_1 v3_3 with
  | zero => rfl
  | succ n ih =>
    refine Eq.trans (b := lb_model_place_3 anP  L p3_0 p3_1 p3_2 (fun v3_1 v3_3 => loopN (EV (O84 L) L 8 c174.r.r.l.r.r.l.l) [0, 1, 4, 7, 8] [2, 3] n (sh84_3 p3_0 p3_1 p3_2 v3_1 v3_3) K) (KK84_3 p3_0 p3_1 p3_2 K) v3_1 v3_3) (by kernel_rfl) ?_
    simp only [ih]
    exact ln84_3  L p3_0 p3_1 p3_2 (lp_model_place_3  L p3_0 p3_1 p3_2 n) (KK84_3 p3_0 p3_1 p3_2 K) v3_1 v3_3
def ia84_3 (p3_0 : List api_StoreDecl) (p3_1 : api_SiteDecl) (p3_2 : ByteArray) : List PV := [.lst false (.t156 p3_0), .clo 175 0 [.loc 3 0]]
def io84_3 (p3_0 : List api_StoreDecl) (p3_1 : api_SiteDecl) (p3_2 : ByteArray) : List (Nat × List PV) := [(2, (enapi_SiteDecl p3_1)), (3, [S p3_2])]
def KI84_3 (p3_0 : List api_StoreDecl) (p3_1 : api_SiteDecl) (p3_2 : ByteArray) (k : PV → List (Nat × List PV) → Prop) : Int → Prop := fun o => k (I o) [(2, (enapi_SiteDecl p3_1)), (3, [S p3_2])]
def ib_model_place_3 {A : Type} (an : An A)  (L : Nat) (p3_0 : List api_StoreDecl) (p3_1 : api_SiteDecl) (p3_2 : ByteArray) (out : Int → A) : A :=
 (an.bd (lp_model_place_3 L p3_0 p3_1 p3_2 L 0 0) fun o3 =>
 (an.sl o3.1 [(an.lf out o3.2.1),
 (an.lf out (-1))]))
def ic_model_place_3  (L : Nat) (p3_0 : List api_StoreDecl) (p3_1 : api_SiteDecl) (p3_2 : ByteArray) : Option Int := ib_model_place_3 (anO _)  L p3_0 p3_1 p3_2 some
def kc84_3  (L : Nat)  (p3_0 : List api_StoreDecl) (p3_1 : api_SiteDecl) (p3_2 : ByteArray) (k : PV → List (Nat × List PV) → Prop) : Ex → St → Prop := (kBlock 0 (kSeq (EV (O84 L) L 8 c174.r.r.r) (kEndI Tryz.prog (RS Tryz.f174) k)))
theorem q84_3  (L : Nat)  (p3_0 : List api_StoreDecl) (p3_1 : api_SiteDecl) (p3_2 : ByteArray) (k : PV → List (Nat × List PV) → Prop) (o3 : Nat × (Int × Int)) : KK84_3 p3_0 p3_1 p3_2 (kc84_3 L p3_0 p3_1 p3_2 k) o3 =
 (seln o3.1 [(ob (some o3.2.1) (KI84_3 p3_0 p3_1 p3_2 k)),
 (ob (some (-1)) (KI84_3 p3_0 p3_1 p3_2 k))]) := by kernel_rfl
theorem iE84_3  (L : Nat) (p3_0 : List api_StoreDecl) (p3_1 : api_SiteDecl) (p3_2 : ByteArray) (k : PV → List (Nat × List PV) → Prop) : YO (O84 L) L 9 174 (ia84_3 p3_0 p3_1 p3_2) (io84_3 p3_0 p3_1 p3_2) k = ob (ic_model_place_3  L p3_0 p3_1 p3_2) (fun o => KI84_3 p3_0 p3_1 p3_2 k o) := by
  refine (Yo_step _ _ _ jn4 _ _ _ _ _ _ _).trans ?_
  refine Eq.trans (b := ib_model_place_3 anP  L p3_0 p3_1 p3_2 (KI84_3 p3_0 p3_1 p3_2 k)) ?_ ?_
  · refine Eq.trans (b := (loopN (EV (O84 L) L 8 c174.r.r.l.r.r.l.l) [0, 1, 4, 7, 8] [2, 3] L (sh84_3 p3_0 p3_1 p3_2 0 0) (kc84_3 L p3_0 p3_1 p3_2 k))) (by kernel_rfl) ?_
    unfold ib_model_place_3
    dsimp only [anP]
    simp only [le84_3, q84_3]
  generalize KI84_3 p3_0 p3_1 p3_2 k = Q
  unfold ic_model_place_3 ib_model_place_3
  dsimp only [anP, anO]
  try simp only [y1, y2, y3, y4, y5 Q, y6, y7, y8 Q, y9, z1, z2, z3, z4]
def sh84_4 (p4_0 : List api_BeltDecl) (p4_1 : api_SiteDecl) (p4_2 : ByteArray) (v4_1 : Int) (v4_3 : Int) : St := ({ fr := [(0, .lst false (.t160 p4_0)), (1, .clo 177 0 [.loc 3 0]), (4, I v4_1), (7, I (p4_0.length : Int)), (8, I v4_3)], ob := [(2, (enapi_SiteDecl p4_1)), (3, [S p4_2])], base := 4 } : St)
def KK84_4 (p4_0 : List api_BeltDecl) (p4_1 : api_SiteDecl) (p4_2 : ByteArray) (K : Ex → St → Prop) : Nat × (Int × Int) → Prop := fun o => seln o.1 [K .ret (sh84_4 p4_0 p4_1 p4_2 o.2.1 o.2.2), K (.exit 0) (sh84_4 p4_0 p4_1 p4_2 o.2.1 o.2.2)]
def lb_model_place_4 {A : Type} (an : An A)  (L : Nat) (p4_0 : List api_BeltDecl) (p4_1 : api_SiteDecl) (p4_2 : ByteArray) (rec : Int → Int → A) (out : Nat × (Int × Int) → A) (v4_1 : Int) (v4_3 : Int) : A :=
 (an.cn (decide (v4_3 < (p4_0.length : Int)))
 (an.gd ((0 : Int) ≤ v4_3)
 (an.gd (v4_3 < ((p4_0.length : Nat) : Int))
 (an.cn (((p4_0.getD (Int.toNat v4_3) default).Name).toList == p4_2.toList)
 (an.lf out (0, (v4_3, v4_3)))
 (rec v4_1 (w64 (v4_3 + 1))))))
 (an.lf out (1, (v4_1, v4_3))))
def lp_model_place_4  (L : Nat) (p4_0 : List api_BeltDecl) (p4_1 : api_SiteDecl) (p4_2 : ByteArray) : Nat → Int → Int → Option (Nat × (Int × Int))
  | 0, _, _ => none
  | n + 1, v4_1, v4_3 => lb_model_place_4 (anO _)  L p4_0 p4_1 p4_2 (lp_model_place_4  L p4_0 p4_1 p4_2 n) some v4_1 v4_3
theorem ln84_4  (L : Nat) (p4_0 : List api_BeltDecl) (p4_1 : api_SiteDecl) (p4_2 : ByteArray) (g : Int → Int → Option (Nat × (Int × Int))) (Q : Nat × (Int × Int) → Prop) (v4_1 : Int) (v4_3 : Int) : lb_model_place_4 anP  L p4_0 p4_1 p4_2 (fun v4_1 v4_3 => ob (g v4_1 v4_3) Q) Q v4_1 v4_3 = ob (lb_model_place_4 (anO _)  L p4_0 p4_1 p4_2 g some v4_1 v4_3) Q := by
  unfold lb_model_place_4
  dsimp only [anP, anO]
  try simp only [y1, y2, y3, y4, y5 Q, y6, y7, y8 Q, y9, z1, z2, z3, z4]
theorem le84_4  (L : Nat) (p4_0 : List api_BeltDecl) (p4_1 : api_SiteDecl) (p4_2 : ByteArray) (n : Nat) (v4_1 : Int) (v4_3 : Int) (K : Ex → St → Prop) : loopN (EV (O84 L) L 8 c176.r.r.l.r.r.l.l) [0, 1, 4, 7, 8] [2, 3] n (sh84_4 p4_0 p4_1 p4_2 v4_1 v4_3) K = ob (lp_model_place_4  L p4_0 p4_1 p4_2 n v4_1 v4_3) (fun o => KK84_4 p4_0 p4_1 p4_2 K o) := by
  induction n generalizing v4_1 v4_3 with
  | zero => rfl
  | succ n ih =>
    refine Eq.trans (b := lb_model_place_4 anP  L p4_0 p4_1 p4_2 (fun v4_1 v4_3 => loopN (EV (O84 L) L 8 c176.r.r.l.r.r.l.l) [0, 1, 4, 7, 8] [2, 3] n (sh84_4 p4_0 p4_1 p4_2 v4_1 v4_3) K) (KK84_4 p4_0 p4_1 p4_2 K) v4_1 v4_3) (by kernel_rfl) ?_
    simp only [ih]
    exact ln84_4  L p4_0 p4_1 p4_2 (lp_model_place_4  L p4_0 p4_1 p4_2 n) (KK84_4 p4_0 p4_1 p4_2 K) v4_1 v4_3
def ia84_4 (p4_0 : List api_BeltDecl) (p4_1 : api_SiteDecl) (p4_2 : ByteArray) : List PV := [.lst false (.t160 p4_0), .clo 177 0 [.loc 3 0]]
def io84_4 (p4_0 : List api_BeltDecl) (p4_1 : api_SiteDecl) (p4_2 : ByteArray) : List (Nat × List PV) := [(2, (enapi_SiteDecl p4_1)), (3, [S p4_2])]
def KI84_4 (p4_0 : List api_BeltDecl) (p4_1 : api_SiteDecl) (p4_2 : ByteArray) (k : PV → List (Nat × List PV) → Prop) : Int → Prop := fun o => k (I o) [(2, (enapi_SiteDecl p4_1)), (3, [S p4_2])]
def ib_model_place_4 {A : Type} (an : An A)  (L : Nat) (p4_0 : List api_BeltDecl) (p4_1 : api_SiteDecl) (p4_2 : ByteArray) (out : Int → A) : A :=
 (an.bd (lp_model_place_4 L p4_0 p4_1 p4_2 L 0 0) fun o4 =>
 (an.sl o4.1 [(an.lf out o4.2.1),
 (an.lf out (-1))]))
def ic_model_place_4  (L : Nat) (p4_0 : List api_BeltDecl) (p4_1 : api_SiteDecl) (p4_2 : ByteArray) : Option Int := ib_model_place_4 (anO _)  L p4_0 p4_1 p4_2 some
def kc84_4  (L : Nat)  (p4_0 : List api_BeltDecl) (p4_1 : api_SiteDecl) (p4_2 : ByteArray) (k : PV → List (Nat × List PV) → Prop) : Ex → St → Prop := (kBlock 0 (kSeq (EV (O84 L) L 8 c176.r.r.r) (kEndI Tryz.prog (RS Tryz.f176) k)))
theorem q84_4  (L : Nat)  (p4_0 : List api_BeltDecl) (p4_1 : api_SiteDecl) (p4_2 : ByteArray) (k : PV → List (Nat × List PV) → Prop) (o4 : Nat × (Int × Int)) : KK84_4 p4_0 p4_1 p4_2 (kc84_4 L p4_0 p4_1 p4_2 k) o4 =
 (seln o4.1 [(ob (some o4.2.1) (KI84_4 p4_0 p4_1 p4_2 k)),
 (ob (some (-1)) (KI84_4 p4_0 p4_1 p4_2 k))]) := by kernel_rfl
theorem iE84_4  (L : Nat) (p4_0 : List api_BeltDecl) (p4_1 : api_SiteDecl) (p4_2 : ByteArray) (k : PV → List (Nat × List PV) → Prop) : YO (O84 L) L 9 176 (ia84_4 p4_0 p4_1 p4_2) (io84_4 p4_0 p4_1 p4_2) k = ob (ic_model_place_4  L p4_0 p4_1 p4_2) (fun o => KI84_4 p4_0 p4_1 p4_2 k o) := by
  refine (Yo_step _ _ _ jn4 _ _ _ _ _ _ _).trans ?_
  refine Eq.trans (b := ib_model_place_4 anP  L p4_0 p4_1 p4_2 (KI84_4 p4_0 p4_1 p4_2 k)) ?_ ?_
  · refine Eq.trans (b := (loopN (EV (O84 L) L 8 c176.r.r.l.r.r.l.l) [0, 1, 4, 7, 8] [2, 3] L (sh84_4 p4_0 p4_1 p4_2 0 0) (kc84_4 L p4_0 p4_1 p4_2 k))) (by kernel_rfl) ?_
    unfold ib_model_place_4
    dsimp only [anP]
    simp only [le84_4, q84_4]
  generalize KI84_4 p4_0 p4_1 p4_2 k = Q
  unfold ic_model_place_4 ib_model_place_4
  dsimp only [anP, anO]
  try simp only [y1, y2, y3, y4, y5 Q, y6, y7, y8 Q, y9, z1, z2, z3, z4]
def kc84_5  (L : Nat) (a0 : api_SiteDecl) (a1 : ByteArray) (kk : PV → Prop) : PV → List (Nat × List PV) → Prop := (kCallS Tryz.prog (O84 L) (EI (O84 L) L 9) 1 (List.drop 4 c84.r.r.l.l.ops) ({ fr := [(18, .clo 171 0 [.loc 3 0]), (17, .lst false (.t72 a0.Vars)), (16, .loc 2 1), (2, .loc 2 0), (3, .loc 3 0), (4, S (⟨#[]⟩ : ByteArray)), (5, I 0)], ob := [(2, (enapi_SiteDecl a0)), (3, [S a1])], base := 0 } : St) (some 19) (fun st9 => (kSeq (EV (O84 L) L 9 c84.r.r.l.r) (kSeq (EV (O84 L) L 9 c84.r.r.r) (kEnd Tryz.prog (RS Tryz.f84) kk))) .normal st9))
def kc84_6  (L : Nat) (a0 : api_SiteDecl) (a1 : ByteArray) (kk : PV → Prop) : PV → List (Nat × List PV) → Prop := (kCallS Tryz.prog (O84 L) (EI (O84 L) L 9) 1 (List.drop 4 c84.r.r.r.r.l.l.ops) ({ fr := [(25, .clo 173 0 [.loc 3 0]), (24, .lst false (.t149 a0.Resources)), (23, .loc 2 2), (2, .loc 2 0), (3, .loc 3 0), (4, S (⟨#[]⟩ : ByteArray)), (5, I 0)], ob := [(2, (enapi_SiteDecl a0)), (3, [S a1])], base := 0 } : St) (some 26) (fun st9 => (kSeq (EV (O84 L) L 9 c84.r.r.r.r.l.r) (kSeq (EV (O84 L) L 9 c84.r.r.r.r.r) (kEnd Tryz.prog (RS Tryz.f84) kk))) .normal st9))
def kc84_7  (L : Nat) (a0 : api_SiteDecl) (a1 : ByteArray) (kk : PV → Prop) : PV → List (Nat × List PV) → Prop := (kCallS Tryz.prog (O84 L) (EI (O84 L) L 9) 1 (List.drop 4 c84.r.r.r.r.r.r.l.l.ops) ({ fr := [(32, .clo 175 0 [.loc 3 0]), (31, .lst false (.t156 a0.Stores)), (30, .loc 2 3), (2, .loc 2 0), (3, .loc 3 0), (4, S (⟨#[]⟩ : ByteArray)), (5, I 0)], ob := [(2, (enapi_SiteDecl a0)), (3, [S a1])], base := 0 } : St) (some 33) (fun st9 => (kSeq (EV (O84 L) L 9 c84.r.r.r.r.r.r.l.r) (kSeq (EV (O84 L) L 9 c84.r.r.r.r.r.r.r) (kEnd Tryz.prog (RS Tryz.f84) kk))) .normal st9))
def kc84_8  (L : Nat) (a0 : api_SiteDecl) (a1 : ByteArray) (kk : PV → Prop) : PV → List (Nat × List PV) → Prop := (kCallS Tryz.prog (O84 L) (EI (O84 L) L 9) 1 (List.drop 4 c84.r.r.r.r.r.r.r.r.l.l.ops) ({ fr := [(39, .clo 177 0 [.loc 3 0]), (38, .lst false (.t160 a0.Belts)), (37, .loc 2 4), (2, .loc 2 0), (3, .loc 3 0), (4, S (⟨#[]⟩ : ByteArray)), (5, I 0)], ob := [(2, (enapi_SiteDecl a0)), (3, [S a1])], base := 0 } : St) (some 40) (fun st9 => (kSeq (EV (O84 L) L 9 c84.r.r.r.r.r.r.r.r.l.r) (kSeq (EV (O84 L) L 9 c84.r.r.r.r.r.r.r.r.r) (kEnd Tryz.prog (RS Tryz.f84) kk))) .normal st9))
theorem q84_5  (L : Nat) (a0 : api_SiteDecl) (a1 : ByteArray) (kk : PV → Prop) (o1 : Int) : KI84_1 a0.Vars a0 a1 (kc84_5 L a0 a1 kk) o1 =
 (br (decide (o1 ≥ 0))
 (ob (some ((⟨#[118, 97, 114]⟩ : ByteArray), o1)) (fun (x : (ByteArray × Int)) => kk (.tup [S x.1, I x.2])))
 (YO (O84 L) L 9 172 (ia84_2 a0.Resources a0 a1) (io84_2 a0.Resources a0 a1) (kc84_6 L a0 a1 kk))) := by kernel_rfl
theorem q84_6  (L : Nat) (a0 : api_SiteDecl) (a1 : ByteArray) (kk : PV → Prop) (o2 : Int) : KI84_2 a0.Resources a0 a1 (kc84_6 L a0 a1 kk) o2 =
 (br (decide (o2 ≥ 0))
 (ob (some ((⟨#[114, 101, 115, 111, 117, 114, 99, 101]⟩ : ByteArray), o2)) (fun (x : (ByteArray × Int)) => kk (.tup [S x.1, I x.2])))
 (YO (O84 L) L 9 174 (ia84_3 a0.Stores a0 a1) (io84_3 a0.Stores a0 a1) (kc84_7 L a0 a1 kk))) := by kernel_rfl
theorem q84_7  (L : Nat) (a0 : api_SiteDecl) (a1 : ByteArray) (kk : PV → Prop) (o3 : Int) : KI84_3 a0.Stores a0 a1 (kc84_7 L a0 a1 kk) o3 =
 (br (decide (o3 ≥ 0))
 (ob (some ((⟨#[115, 116, 111, 114, 101]⟩ : ByteArray), o3)) (fun (x : (ByteArray × Int)) => kk (.tup [S x.1, I x.2])))
 (YO (O84 L) L 9 176 (ia84_4 a0.Belts a0 a1) (io84_4 a0.Belts a0 a1) (kc84_8 L a0 a1 kk))) := by kernel_rfl
theorem q84_8  (L : Nat) (a0 : api_SiteDecl) (a1 : ByteArray) (kk : PV → Prop) (o4 : Int) : KI84_4 a0.Belts a0 a1 (kc84_8 L a0 a1 kk) o4 =
 (br (decide (o4 ≥ 0))
 (ob (some ((⟨#[98, 101, 108, 116]⟩ : ByteArray), o4)) (fun (x : (ByteArray × Int)) => kk (.tup [S x.1, I x.2])))
 (ob (F_slices_Index_string L a0.Queues a1) fun r5 =>
 (br (decide (r5 ≥ 0))
 (ob (some ((⟨#[113, 117, 101, 117, 101]⟩ : ByteArray), r5)) (fun (x : (ByteArray × Int)) => kk (.tup [S x.1, I x.2])))
 (ob (F_slices_Index_string L a0.Streams a1) fun r6 =>
 (br (decide (r6 ≥ 0))
 (ob (some ((⟨#[115, 116, 114, 101, 97, 109]⟩ : ByteArray), r6)) (fun (x : (ByteArray × Int)) => kk (.tup [S x.1, I x.2])))
 (ob (F_slices_Index_string L a0.Tallies a1) fun r7 =>
 (br (decide (r7 ≥ 0))
 (ob (some ((⟨#[116, 97, 108, 108, 121]⟩ : ByteArray), r7)) (fun (x : (ByteArray × Int)) => kk (.tup [S x.1, I x.2])))
 (ob (F_slices_Index_string L a0.Levels a1) fun r8 =>
 (br (decide (r8 ≥ 0))
 (ob (some ((⟨#[108, 101, 118, 101, 108]⟩ : ByteArray), r8)) (fun (x : (ByteArray × Int)) => kk (.tup [S x.1, I x.2])))
 (ob (F_slices_Index_string L a0.Counts a1) fun r9 =>
 (br (decide (r9 ≥ 0))
 (ob (some ((⟨#[99, 111, 117, 110, 116]⟩ : ByteArray), r9)) (fun (x : (ByteArray × Int)) => kk (.tup [S x.1, I x.2])))
 (ob (F_model_Routine L a0 a1) fun r10 =>
 (br (decide (r10 ≥ 0))
 (ob (some ((⟨#[114, 111, 117, 116, 105, 110, 101]⟩ : ByteArray), r10)) (fun (x : (ByteArray × Int)) => kk (.tup [S x.1, I x.2])))
 (ob (some ((⟨#[]⟩ : ByteArray), (-1))) (fun (x : (ByteArray × Int)) => kk (.tup [S x.1, I x.2])))))))))))))))) := by kernel_rfl
def T_model_place {A : Type} (an : An A)  (L : Nat) (a0 : api_SiteDecl) (a1 : ByteArray) (out : (ByteArray × Int) → A) : A :=
 (an.bd (ic_model_place_1 L a0.Vars a0 a1) fun o1 =>
 (an.cn (decide (o1 ≥ 0))
 (an.lf out ((⟨#[118, 97, 114]⟩ : ByteArray), o1))
 (an.bd (ic_model_place_2 L a0.Resources a0 a1) fun o2 =>
 (an.cn (decide (o2 ≥ 0))
 (an.lf out ((⟨#[114, 101, 115, 111, 117, 114, 99, 101]⟩ : ByteArray), o2))
 (an.bd (ic_model_place_3 L a0.Stores a0 a1) fun o3 =>
 (an.cn (decide (o3 ≥ 0))
 (an.lf out ((⟨#[115, 116, 111, 114, 101]⟩ : ByteArray), o3))
 (an.bd (ic_model_place_4 L a0.Belts a0 a1) fun o4 =>
 (an.cn (decide (o4 ≥ 0))
 (an.lf out ((⟨#[98, 101, 108, 116]⟩ : ByteArray), o4))
 (an.bd (F_slices_Index_string L a0.Queues a1) fun r5 =>
 (an.cn (decide (r5 ≥ 0))
 (an.lf out ((⟨#[113, 117, 101, 117, 101]⟩ : ByteArray), r5))
 (an.bd (F_slices_Index_string L a0.Streams a1) fun r6 =>
 (an.cn (decide (r6 ≥ 0))
 (an.lf out ((⟨#[115, 116, 114, 101, 97, 109]⟩ : ByteArray), r6))
 (an.bd (F_slices_Index_string L a0.Tallies a1) fun r7 =>
 (an.cn (decide (r7 ≥ 0))
 (an.lf out ((⟨#[116, 97, 108, 108, 121]⟩ : ByteArray), r7))
 (an.bd (F_slices_Index_string L a0.Levels a1) fun r8 =>
 (an.cn (decide (r8 ≥ 0))
 (an.lf out ((⟨#[108, 101, 118, 101, 108]⟩ : ByteArray), r8))
 (an.bd (F_slices_Index_string L a0.Counts a1) fun r9 =>
 (an.cn (decide (r9 ≥ 0))
 (an.lf out ((⟨#[99, 111, 117, 110, 116]⟩ : ByteArray), r9))
 (an.bd (F_model_Routine L a0 a1) fun r10 =>
 (an.cn (decide (r10 ≥ 0))
 (an.lf out ((⟨#[114, 111, 117, 116, 105, 110, 101]⟩ : ByteArray), r10))
 (an.lf out ((⟨#[]⟩ : ByteArray), (-1)))))))))))))))))))))))
def F_model_place  (L : Nat) (a0 : api_SiteDecl) (a1 : ByteArray) : Option (ByteArray × Int) := T_model_place (anO _) L a0 a1 some
theorem e84  (L : Nat) (a0 : api_SiteDecl) (a1 : ByteArray) (kk : PV → Prop) : EW (O84 L) L 9 (RS Tryz.f84) c84 [.agg (enapi_SiteDecl a0), S a1] kk = ob (F_model_place L a0 a1) (fun (x : (ByteArray × Int)) => kk (.tup [S x.1, I x.2])) := by
  refine Eq.trans (b := T_model_place anP L a0 a1 (fun (x : (ByteArray × Int)) => kk (.tup [S x.1, I x.2]))) ?_ ?_
  · refine Eq.trans (b := (YO (O84 L) L 9 170 (ia84_1 a0.Vars a0 a1) (io84_1 a0.Vars a0 a1) (kc84_5 L a0 a1 kk))) (by kernel_rfl) ?_
    unfold T_model_place
    dsimp only [anP]
    simp only [iE84_1, iE84_2, iE84_3, iE84_4, q84_5, q84_6, q84_7, q84_8]
  generalize (fun (x : (ByteArray × Int)) => kk (.tup [S x.1, I x.2])) = Q
  unfold F_model_place T_model_place
  dsimp only [anP, anO]
  try simp only [y1, y2, y3, y4, y5 Q, y6, y7, y8 Q, y9, z1, z2, z3, z4]
theorem h84   (L : Nat) (a0 : api_SiteDecl) (a1 : ByteArray) (r : (ByteArray × Int)) (h : F_model_place L a0 a1 = some r) : Holds Tryz.prog 84 [.agg (enapi_SiteDecl a0), S a1] (.tup [S r.1, I r.2]) :=
  hE grwOK (s84  L) mixed Tryz.func84 (by kernel_rfl : cFn Tryz.prog inl Tryz.f84 = some c84) (er := fun (x : (ByteArray × Int)) => .tup [S x.1, I x.2]) (by kernel_rfl) (e84 L a0 a1) h

/-! ### simulator/model.Kind -/
noncomputable def c48 : EC := (cFn Tryz.prog inl Tryz.f48).getD .stop
def O48  (L : Nat) : Oracle := (orc 84 (A2 (fun (x : (ByteArray × Int)) => .tup [S x.1, I x.2]) ca_api_SiteDecl cS (F_model_place L)) noC)
theorem s48   (L : Nat) : SoundC Tryz.prog (O48 L) := (orc_sound (a2 _ (h84 L)) (noC_sound Tryz.prog))
def T_model_Kind {A : Type} (an : An A)  (L : Nat) (a0 : api_SiteDecl) (a1 : ByteArray) (out : ByteArray → A) : A :=
 (an.bd (F_model_place L a0 a1) fun r1 =>
 (an.lf out r1.1))
def F_model_Kind  (L : Nat) (a0 : api_SiteDecl) (a1 : ByteArray) : Option ByteArray := T_model_Kind (anO _) L a0 a1 some
theorem e48  (L : Nat) (a0 : api_SiteDecl) (a1 : ByteArray) (kk : PV → Prop) : EW (O48 L) L 9 (RS Tryz.f48) c48 [.agg (enapi_SiteDecl a0), S a1] kk = ob (F_model_Kind L a0 a1) (fun (x : ByteArray) => kk (S x)) := by
  refine Eq.trans (b := T_model_Kind anP L a0 a1 (fun (x : ByteArray) => kk (S x))) (by kernel_rfl) ?_
  generalize (fun (x : ByteArray) => kk (S x)) = Q
  unfold F_model_Kind T_model_Kind
  dsimp only [anP, anO]
  try simp only [y1, y2, y3, y4, y5 Q, y6, y7, y8 Q, y9, z1, z2, z3, z4]
theorem h48   (L : Nat) (a0 : api_SiteDecl) (a1 : ByteArray) (r : ByteArray) (h : F_model_Kind L a0 a1 = some r) : Holds Tryz.prog 48 [.agg (enapi_SiteDecl a0), S a1] (S r) :=
  hE grwOK (s48  L) mixed Tryz.func48 (by kernel_rfl : cFn Tryz.prog inl Tryz.f48 = some c48) (er := fun (x : ByteArray) => S x) (by kernel_rfl) (e48 L a0 a1) h

/-! ### simulator/typing.object -/
noncomputable def c47 : EC := (cFn Tryz.prog inl Tryz.f47).getD .stop
def O47  (L : Nat) : Oracle := noC
theorem s47   (L : Nat) : SoundC Tryz.prog (O47 L) := (noC_sound Tryz.prog)
def T_typing_object {A : Type} (an : An A)  (L : Nat) (a0 : Int) (a1 : ByteArray) (out : Bool → A) : A :=
 (an.cn (a0 == 22)
 (an.lf out (a1.toList == (⟨#[114, 101, 115, 111, 117, 114, 99, 101]⟩ : ByteArray).toList))
 (an.cn (a0 == 23)
 (an.lf out (a1.toList == (⟨#[115, 116, 111, 114, 101]⟩ : ByteArray).toList))
 (an.jp (bif (a1.toList == (⟨#[114, 101, 115, 111, 117, 114, 99, 101]⟩ : ByteArray).toList) then true
 else (a1.toList == (⟨#[113, 117, 101, 117, 101]⟩ : ByteArray).toList)) (fun j => (an.cn (a1.toList == (⟨#[114, 101, 115, 111, 117, 114, 99, 101]⟩ : ByteArray).toList)
 (an.ap j true)
 (an.ap j (a1.toList == (⟨#[113, 117, 101, 117, 101]⟩ : ByteArray).toList)))) (fun b1 =>
 (an.lf out b1)))))
def F_typing_object  (L : Nat) (a0 : Int) (a1 : ByteArray) : Option Bool := T_typing_object (anO _) L a0 a1 some
theorem e47  (L : Nat) (a0 : Int) (a1 : ByteArray) (kk : PV → Prop) : EW (O47 L) L 9 (RS Tryz.f47) c47 [I a0, S a1] kk = ob (F_typing_object L a0 a1) (fun (x : Bool) => kk (B x)) := by
  refine Eq.trans (b := T_typing_object anP L a0 a1 (fun (x : Bool) => kk (B x))) (by kernel_rfl) ?_
  generalize (fun (x : Bool) => kk (B x)) = Q
  unfold F_typing_object T_typing_object
  dsimp only [anP, anO]
  try simp only [y1, y2, y3, y4, y5 Q, y6, y7, y8 Q, y9, z1, z2, z3, z4]
theorem h47   (L : Nat) (a0 : Int) (a1 : ByteArray) (r : Bool) (h : F_typing_object L a0 a1 = some r) : Holds Tryz.prog 47 [I a0, S a1] (B r) :=
  hE grwOK (s47  L) mixed Tryz.func47 (by kernel_rfl : cFn Tryz.prog inl Tryz.f47 = some c47) (er := fun (x : Bool) => B x) (by kernel_rfl) (e47 L a0 a1) h

/-! ### simulator/typing.measures -/
noncomputable def c85 : EC := (cFn Tryz.prog inl Tryz.f85).getD .stop
def O85  (L : Nat) : Oracle := noC
theorem s85   (L : Nat) : SoundC Tryz.prog (O85 L) := (noC_sound Tryz.prog)
def T_typing_measures {A : Type} (an : An A)  (L : Nat) (a0 : Int) (out : Bool → A) : A :=
 (an.jp (bif (a0 == 1) then true
 else (a0 == 3)) (fun j => (an.cn (a0 == 1)
 (an.ap j true)
 (an.ap j (a0 == 3)))) (fun b1 =>
 (an.lf out b1)))
def F_typing_measures  (L : Nat) (a0 : Int) : Option Bool := T_typing_measures (anO _) L a0 some
theorem e85  (L : Nat) (a0 : Int) (kk : PV → Prop) : EW (O85 L) L 9 (RS Tryz.f85) c85 [I a0] kk = ob (F_typing_measures L a0) (fun (x : Bool) => kk (B x)) := by
  refine Eq.trans (b := T_typing_measures anP L a0 (fun (x : Bool) => kk (B x))) (by kernel_rfl) ?_
  generalize (fun (x : Bool) => kk (B x)) = Q
  unfold F_typing_measures T_typing_measures
  dsimp only [anP, anO]
  try simp only [y1, y2, y3, y4, y5 Q, y6, y7, y8 Q, y9, z1, z2, z3, z4]
theorem h85   (L : Nat) (a0 : Int) (r : Bool) (h : F_typing_measures L a0 = some r) : Holds Tryz.prog 85 [I a0] (B r) :=
  hE grwOK (s85  L) mixed Tryz.func85 (by kernel_rfl : cFn Tryz.prog inl Tryz.f85 = some c85) (er := fun (x : Bool) => B x) (by kernel_rfl) (e85 L a0) h

/-! ### simulator/typing.unary -/
noncomputable def c49 : EC := (cFn Tryz.prog inl Tryz.f49).getD .stop
def O49  (L : Nat) : Oracle := (orc 85 (A1 (fun (x : Bool) => B x) (cI .i64) (F_typing_measures L)) noC)
theorem s49   (L : Nat) : SoundC Tryz.prog (O49 L) := (orc_sound (a1 _ (h85 L)) (noC_sound Tryz.prog))
def T_typing_unary {A : Type} (an : An A)  (L : Nat) (a0 : Int) (a1 : Int) (out : Int → A) : A :=
 (an.jb (bif (a0 == 5) then (Option.bind (F_typing_measures L a1) fun r2 =>
 (some r2))
 else (some false)) (fun j => (an.cn (a0 == 5)
 (an.bd (F_typing_measures L a1) fun r3 =>
 (an.lf j r3))
 (an.lf j false))) (fun b1 =>
 (an.cn b1
 (an.cn b1
 (an.lf out a1)
 (an.jp (bif (a0 == 7) then (a1 == 1)
 else false) (fun j => (an.cn (a0 == 7)
 (an.ap j (a1 == 1))
 (an.ap j false))) (fun b4 =>
 (an.cn b4
 (an.lf out 3)
 (an.jp (bif (a0 == 8) then (a1 == 3)
 else false) (fun j => (an.cn (a0 == 8)
 (an.ap j (a1 == 3))
 (an.ap j false))) (fun b5 =>
 (an.cn b5
 (an.lf out 1)
 (an.lf out 0))))))))
 (an.jp (bif (a0 == 6) then (a1 == 2)
 else false) (fun j => (an.cn (a0 == 6)
 (an.ap j (a1 == 2))
 (an.ap j false))) (fun b6 =>
 (an.cn b6
 (an.lf out a1)
 (an.jp (bif (a0 == 7) then (a1 == 1)
 else false) (fun j => (an.cn (a0 == 7)
 (an.ap j (a1 == 1))
 (an.ap j false))) (fun b7 =>
 (an.cn b7
 (an.lf out 3)
 (an.jp (bif (a0 == 8) then (a1 == 3)
 else false) (fun j => (an.cn (a0 == 8)
 (an.ap j (a1 == 3))
 (an.ap j false))) (fun b8 =>
 (an.cn b8
 (an.lf out 1)
 (an.lf out 0)))))))))))))
def F_typing_unary  (L : Nat) (a0 : Int) (a1 : Int) : Option Int := T_typing_unary (anO _) L a0 a1 some
theorem e49  (L : Nat) (a0 : Int) (a1 : Int) (kk : PV → Prop) : EW (O49 L) L 9 (RS Tryz.f49) c49 [I a0, I a1] kk = ob (F_typing_unary L a0 a1) (fun (x : Int) => kk (I x)) := by
  refine Eq.trans (b := T_typing_unary anP L a0 a1 (fun (x : Int) => kk (I x))) (by kernel_rfl) ?_
  generalize (fun (x : Int) => kk (I x)) = Q
  unfold F_typing_unary T_typing_unary
  dsimp only [anP, anO]
  try simp only [y1, y2, y3, y4, y5 Q, y6, y7, y8 Q, y9, z1, z2, z3, z4]
theorem h49   (L : Nat) (a0 : Int) (a1 : Int) (r : Int) (h : F_typing_unary L a0 a1 = some r) : Holds Tryz.prog 49 [I a0, I a1] (I r) :=
  hE grwOK (s49  L) mixed Tryz.func49 (by kernel_rfl : cFn Tryz.prog inl Tryz.f49 = some c49) (er := fun (x : Int) => I x) (by kernel_rfl) (e49 L a0 a1) h


end Go.Proofs.YtcbandfdmbkokaaGreat.Ev
