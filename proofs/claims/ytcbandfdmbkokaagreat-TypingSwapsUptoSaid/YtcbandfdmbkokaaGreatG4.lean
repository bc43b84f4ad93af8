import Derived.Test.YtcbandfdmbkokaaGreatG3
namespace Go.Proofs.YtcbandfdmbkokaaGreat.Ev
open Go
set_option maxRecDepth 100000
set_option linter.unusedVariables false
set_option linter.unusedSimpArgs false
set_option linter.unnecessarySimpa false
/-! ### simulator/simulatorref11.Names -/
noncomputable def c144 : EC := (cFn Tryz.prog inl Tryz.f144).getD .stop
def O144  (L : Nat) : Oracle := noC
theorem s144   (L : Nat) : SoundC Tryz.prog (O144 L) := (noC_sound Tryz.prog)
def sh144_1 (a0 : api_SiteDecl) (v1_1 : Int) (v1_15 : List ByteArray) : St := ({ fr := [(0, .any), (1, .loc 1 0), (2, .lst true (.t27 [])), (3, .vw true 9 27 1 10), (4, I v1_1), (5, .any), (6, .any), (7, .any), (8, .any)], ob := [(1, (enapi_SiteDecl a0)), (9, [.lst true (.t9 v1_15), .lst true (.t9 []), .lst true (.t9 []), .lst true (.t9 []), .lst true (.t9 []), .lst true (.t9 []), .lst true (.t9 []), .lst true (.t9 []), .lst true (.t9 []), .lst true (.t9 [])])], base := 0 } : St)
def KK144_1 (a0 : api_SiteDecl) (K : Ex → St → Prop) : Nat × (Int × List ByteArray) → Prop := fun o => seln o.1 [K (.exit 0) (sh144_1 a0 o.2.1 o.2.2)]
def lb_R11_Names_1 {A : Type} (an : An A)  (L : Nat) (a0 : api_SiteDecl) (rec : Int → List ByteArray → A) (out : Nat × (Int × List ByteArray) → A) (v1_1 : Int) (v1_15 : List ByteArray) : A :=
 (an.cn (decide (v1_1 < (a0.Vars.length : Int)))
 (an.gd ((0 : Int) ≤ 0)
 (an.gd (0 < ((10 : Nat) : Int))
 (an.gd ((0 : Int) ≤ v1_1)
 (an.gd (v1_1 < ((a0.Vars.length : Nat) : Int))
 (an.gd ((v1_15.length + [(a0.Vars.getD (Int.toNat v1_1) default).Name].length) * 16 ≤ 140737488355328)
 (an.gd (v1_15.length + [(a0.Vars.getD (Int.toNat v1_1) default).Name].length ≤ maxLen)
 (an.gd ((0 : Int) ≤ 0)
 (an.gd (0 < ((10 : Nat) : Int))
 (rec (w64 (v1_1 + 1)) (v1_15 ++ [(a0.Vars.getD (Int.toNat v1_1) default).Name]))))))))))
 (an.lf out (0, (v1_1, v1_15))))
def lp_R11_Names_1  (L : Nat) (a0 : api_SiteDecl) : Nat → Int → List ByteArray → Option (Nat × (Int × List ByteArray))
  | 0, _, _ => none
  | n + 1, v1_1, v1_15 => lb_R11_Names_1 (anO _)  L a0 (lp_R11_Names_1  L a0 n) some v1_1 v1_15
theorem ln144_1  (L : Nat) (a0 : api_SiteDecl) (g : Int → List ByteArray → Option (Nat × (Int × List ByteArray))) (Q : Nat × (Int × List ByteArray) → Prop) (v1_1 : Int) (v1_15 : List ByteArray) : lb_R11_Names_1 anP  L a0 (fun v1_1 v1_15 => ob (g v1_1 v1_15) Q) Q v1_1 v1_15 = ob (lb_R11_Names_1 (anO _)  L a0 g some v1_1 v1_15) Q := by
  unfold lb_R11_Names_1
  dsimp only [anP, anO]
  try simp only [y1, y2, y3, y4, y5 Q, y6, y7, y8 Q, y9, z1, z2, z3, z4]
theorem le144_1  (L : Nat) (a0 : api_SiteDecl) (n : Nat) (v1_1 : Int) (v1_15 : List ByteArray) (K : Ex → St → Prop) : loopN (EV (O144 L) L 9 c144.r.r.r.r.l.r.r.l.l) [0, 1, 2, 3, 4, 5, 6, 7, 8] [1, 9] n (sh144_1 a0 v1_1 v1_15) K = ob (lp_R11_Names_1  L a0 n v1_1 v1_15) (fun o => KK144_1 a0 K o) := by
  induction n generalizing v1_1 v1_15 with
  | zero => rfl
  | succ n ih =>
    refine Eq.trans (b := lb_R11_Names_1 anP  L a0 (fun v1_1 v1_15 => loopN (EV (O144 L) L 9 c144.r.r.r.r.l.r.r.l.l) [0, 1, 2, 3, 4, 5, 6, 7, 8] [1, 9] n (sh144_1 a0 v1_1 v1_15) K) (KK144_1 a0 K) v1_1 v1_15) (by kernel_rfl) ?_
    simp only [ih]
    exact ln144_1  L a0 (lp_R11_Names_1  L a0 n) (KK144_1 a0 K) v1_1 v1_15
def sh144_2 (a0 : api_SiteDecl) (o1 : Nat × (Int × List ByteArray)) (v2_1 : Int) (v2_16 : List ByteArray) : St := ({ fr := [(0, .any), (1, .loc 1 0), (2, .lst true (.t27 [])), (3, .vw true 9 27 1 10), (4, .any), (5, I v2_1), (6, .any), (7, .any), (8, .any)], ob := [(1, (enapi_SiteDecl a0)), (9, [.lst true (.t9 o1.2.2), .lst true (.t9 v2_16), .lst true (.t9 []), .lst true (.t9 []), .lst true (.t9 []), .lst true (.t9 []), .lst true (.t9 []), .lst true (.t9 []), .lst true (.t9 []), .lst true (.t9 [])])], base := 0 } : St)
def KK144_2 (a0 : api_SiteDecl) (o1 : Nat × (Int × List ByteArray)) (K : Ex → St → Prop) : Nat × (Int × List ByteArray) → Prop := fun o => seln o.1 [K (.exit 2) (sh144_2 a0 o1 o.2.1 o.2.2)]
def lb_R11_Names_2 {A : Type} (an : An A)  (L : Nat) (a0 : api_SiteDecl) (o1 : Nat × (Int × List ByteArray)) (rec : Int → List ByteArray → A) (out : Nat × (Int × List ByteArray) → A) (v2_1 : Int) (v2_16 : List ByteArray) : A :=
 (an.cn (decide (v2_1 < (a0.Resources.length : Int)))
 (an.gd ((0 : Int) ≤ 1)
 (an.gd (1 < ((10 : Nat) : Int))
 (an.gd ((0 : Int) ≤ v2_1)
 (an.gd (v2_1 < ((a0.Resources.length : Nat) : Int))
 (an.gd ((v2_16.length + [(a0.Resources.getD (Int.toNat v2_1) default).Name].length) * 16 ≤ 140737488355328)
 (an.gd (v2_16.length + [(a0.Resources.getD (Int.toNat v2_1) default).Name].length ≤ maxLen)
 (an.gd ((0 : Int) ≤ 1)
 (an.gd (1 < ((10 : Nat) : Int))
 (rec (w64 (v2_1 + 1)) (v2_16 ++ [(a0.Resources.getD (Int.toNat v2_1) default).Name]))))))))))
 (an.lf out (0, (v2_1, v2_16))))
def lp_R11_Names_2  (L : Nat) (a0 : api_SiteDecl) (o1 : Nat × (Int × List ByteArray)) : Nat → Int → List ByteArray → Option (Nat × (Int × List ByteArray))
  | 0, _, _ => none
  | n + 1, v2_1, v2_16 => lb_R11_Names_2 (anO _)  L a0 o1 (lp_R11_Names_2  L a0 o1 n) some v2_1 v2_16
theorem ln144_2  (L : Nat) (a0 : api_SiteDecl) (o1 : Nat × (Int × List ByteArray)) (g : Int → List ByteArray → Option (Nat × (Int × List ByteArray))) (Q : Nat × (Int × List ByteArray) → Prop) (v2_1 : Int) (v2_16 : List ByteArray) : lb_R11_Names_2 anP  L a0 o1 (fun v2_1 v2_16 => ob (g v2_1 v2_16) Q) Q v2_1 v2_16 = ob (lb_R11_Names_2 (anO _)  L a0 o1 g some v2_1 v2_16) Q := by
  unfold lb_R11_Names_2
  dsimp only [anP, anO]
  try simp only [y1, y2, y3, y4, y5 Q, y6, y7, y8 Q, y9, z1, z2, z3, z4]
theorem le144_2  (L : Nat) (a0 : api_SiteDecl) (o1 : Nat × (Int × List ByteArray)) (n : Nat) (v2_1 : Int) (v2_16 : List ByteArray) (K : Ex → St → Prop) : loopN (EV (O144 L) L 9 c144.r.r.r.r.r.r.l.r.r.l.l) [0, 1, 2, 3, 4, 5, 6, 7, 8] [1, 9] n (sh144_2 a0 o1 v2_1 v2_16) K = ob (lp_R11_Names_2  L a0 o1 n v2_1 v2_16) (fun o => KK144_2 a0 o1 K o) := by
  induction n generalizing v2_1 v2_16 with
  | zero => rfl
  | succ n ih =>
    refine Eq.trans (b := lb_R11_Names_2 anP  L a0 o1 (fun v2_1 v2_16 => loopN (EV (O144 L) L 9 c144.r.r.r.r.r.r.l.r.r.l.l) [0, 1, 2, 3, 4, 5, 6, 7, 8] [1, 9] n (sh144_2 a0 o1 v2_1 v2_16) K) (KK144_2 a0 o1 K) v2_1 v2_16) (by kernel_rfl) ?_
    simp only [ih]
    exact ln144_2  L a0 o1 (lp_R11_Names_2  L a0 o1 n) (KK144_2 a0 o1 K) v2_1 v2_16
def sh144_3 (a0 : api_SiteDecl) (o1 : Nat × (Int × List ByteArray)) (o2 : Nat × (Int × List ByteArray)) (v3_1 : Int) (v3_17 : List ByteArray) : St := ({ fr := [(0, .any), (1, .loc 1 0), (2, .lst true (.t27 [])), (3, .vw true 9 27 1 10), (4, .any), (5, .any), (6, I v3_1), (7, .any), (8, .any)], ob := [(1, (enapi_SiteDecl a0)), (9, [.lst true (.t9 o1.2.2), .lst true (.t9 o2.2.2), .lst true (.t9 v3_17), .lst true (.t9 []), .lst true (.t9 []), .lst true (.t9 []), .lst true (.t9 []), .lst true (.t9 []), .lst true (.t9 []), .lst true (.t9 [])])], base := 0 } : St)
def KK144_3 (a0 : api_SiteDecl) (o1 : Nat × (Int × List ByteArray)) (o2 : Nat × (Int × List ByteArray)) (K : Ex → St → Prop) : Nat × (Int × List ByteArray) → Prop := fun o => seln o.1 [K (.exit 4) (sh144_3 a0 o1 o2 o.2.1 o.2.2)]
def lb_R11_Names_3 {A : Type} (an : An A)  (L : Nat) (a0 : api_SiteDecl) (o1 : Nat × (Int × List ByteArray)) (o2 : Nat × (Int × List ByteArray)) (rec : Int → List ByteArray → A) (out : Nat × (Int × List ByteArray) → A) (v3_1 : Int) (v3_17 : List ByteArray) : A :=
 (an.cn (decide (v3_1 < (a0.Stores.length : Int)))
 (an.gd ((0 : Int) ≤ 2)
 (an.gd (2 < ((10 : Nat) : Int))
 (an.gd ((0 : Int) ≤ v3_1)
 (an.gd (v3_1 < ((a0.Stores.length : Nat) : Int))
 (an.gd ((v3_17.length + [(a0.Stores.getD (Int.toNat v3_1) default).Name].length) * 16 ≤ 140737488355328)
 (an.gd (v3_17.length + [(a0.Stores.getD (Int.toNat v3_1) default).Name].length ≤ maxLen)
 (an.gd ((0 : Int) ≤ 2)
 (an.gd (2 < ((10 : Nat) : Int))
 (rec (w64 (v3_1 + 1)) (v3_17 ++ [(a0.Stores.getD (Int.toNat v3_1) default).Name]))))))))))
 (an.lf out (0, (v3_1, v3_17))))
def lp_R11_Names_3  (L : Nat) (a0 : api_SiteDecl) (o1 : Nat × (Int × List ByteArray)) (o2 : Nat × (Int × List ByteArray)) : Nat → Int → List ByteArray → Option (Nat × (Int × List ByteArray))
  | 0, _, _ => none
  | n + 1, v3_1, v3_17 => lb_R11_Names_3 (anO _)  L a0 o1 o2 (lp_R11_Names_3  L a0 o1 o2 n) some v3_1 v3_17
theorem ln144_3  (L : Nat) (a0 : api_SiteDecl) (o1 : Nat × (Int × List ByteArray)) (o2 : Nat × (Int × List ByteArray)) (g : Int → List ByteArray → Option (Nat × (Int × List ByteArray))) (Q : Nat × (Int × List ByteArray) → Prop) (v3_1 : Int) (v3_17 : List ByteArray) : lb_R11_Names_3 anP  L a0 o1 o2 (fun v3_1 v3_17 => ob (g v3_1 v3_17) Q) Q v3_1 v3_17 = ob (lb_R11_Names_3 (anO _)  L a0 o1 o2 g some v3_1 v3_17) Q := by
  unfold lb_R11_Names_3
  dsimp only [anP, anO]
  try simp only [y1, y2, y3, y4, y5 Q, y6, y7, y8 Q, y9, z1, z2, z3, z4]
theorem le144_3  (L : Nat) (a0 : api_SiteDecl) (o1 : Nat × (Int × List ByteArray)) (o2 : Nat × (Int × List ByteArray)) (n : Nat) (v3_1 : Int) (v3_17 : List ByteArray) (K : Ex → St → Prop) : loopN (EV (O144 L) L 9 c144.r.r.r.r.r.r.r.r.l.r.r.l.l) [0, 1, 2, 3, 4, 5, 6, 7, 8] [1, 9] n (sh144_3 a0 o1 o2 v3_1 v3_17) K = ob (lp_R11_Names_3  L a0 o1 o2 n v3_1 v3_17) (fun o => KK144_3 a0 o1 o2 K o) := by
  induction n generalizing v3_1 v3_17 with
  | zero => rfl
  | succ n ih =>
    refine Eq.trans (b := lb_R11_Names_3 anP  L a0 o1 o2 (fun v3_1 v3_17 => loopN (EV (O144 L) L 9 c144.r.r.r.r.r.r.r.r.l.r.r.l.l) [0, 1, 2, 3, 4, 5, 6, 7, 8] [1, 9] n (sh144_3 a0 o1 o2 v3_1 v3_17) K) (KK144_3 a0 o1 o2 K) v3_1 v3_17) (by kernel_rfl) ?_
    simp only [ih]
    exact ln144_3  L a0 o1 o2 (lp_R11_Names_3  L a0 o1 o2 n) (KK144_3 a0 o1 o2 K) v3_1 v3_17
def sh144_4 (a0 : api_SiteDecl) (o1 : Nat × (Int × List ByteArray)) (o2 : Nat × (Int × List ByteArray)) (o3 : Nat × (Int × List ByteArray)) (v4_1 : Int) (v4_18 : List ByteArray) : St := ({ fr := [(0, .any), (1, .loc 1 0), (2, .lst true (.t27 [])), (3, .vw true 9 27 1 10), (4, .any), (5, .any), (6, .any), (7, I v4_1), (8, .any)], ob := [(1, (enapi_SiteDecl a0)), (9, [.lst true (.t9 o1.2.2), .lst true (.t9 o2.2.2), .lst true (.t9 o3.2.2), .lst true (.t9 v4_18), .lst true (.t9 []), .lst true (.t9 []), .lst true (.t9 []), .lst true (.t9 []), .lst true (.t9 []), .lst true (.t9 [])])], base := 0 } : St)
def KK144_4 (a0 : api_SiteDecl) (o1 : Nat × (Int × List ByteArray)) (o2 : Nat × (Int × List ByteArray)) (o3 : Nat × (Int × List ByteArray)) (K : Ex → St → Prop) : Nat × (Int × List ByteArray) → Prop := fun o => seln o.1 [K (.exit 6) (sh144_4 a0 o1 o2 o3 o.2.1 o.2.2)]
def lb_R11_Names_4 {A : Type} (an : An A)  (L : Nat) (a0 : api_SiteDecl) (o1 : Nat × (Int × List ByteArray)) (o2 : Nat × (Int × List ByteArray)) (o3 : Nat × (Int × List ByteArray)) (rec : Int → List ByteArray → A) (out : Nat × (Int × List ByteArray) → A) (v4_1 : Int) (v4_18 : List ByteArray) : A :=
 (an.cn (decide (v4_1 < (a0.Belts.length : Int)))
 (an.gd ((0 : Int) ≤ 3)
 (an.gd (3 < ((10 : Nat) : Int))
 (an.gd ((0 : Int) ≤ v4_1)
 (an.gd (v4_1 < ((a0.Belts.length : Nat) : Int))
 (an.gd ((v4_18.length + [(a0.Belts.getD (Int.toNat v4_1) default).Name].length) * 16 ≤ 140737488355328)
 (an.gd (v4_18.length + [(a0.Belts.getD (Int.toNat v4_1) default).Name].length ≤ maxLen)
 (an.gd ((0 : Int) ≤ 3)
 (an.gd (3 < ((10 : Nat) : Int))
 (rec (w64 (v4_1 + 1)) (v4_18 ++ [(a0.Belts.getD (Int.toNat v4_1) default).Name]))))))))))
 (an.lf out (0, (v4_1, v4_18))))
def lp_R11_Names_4  (L : Nat) (a0 : api_SiteDecl) (o1 : Nat × (Int × List ByteArray)) (o2 : Nat × (Int × List ByteArray)) (o3 : Nat × (Int × List ByteArray)) : Nat → Int → List ByteArray → Option (Nat × (Int × List ByteArray))
  | 0, _, _ => none
  | n + 1, v4_1, v4_18 => lb_R11_Names_4 (anO _)  L a0 o1 o2 o3 (lp_R11_Names_4  L a0 o1 o2 o3 n) some v4_1 v4_18
theorem ln144_4  (L : Nat) (a0 : api_SiteDecl) (o1 : Nat × (Int × List ByteArray)) (o2 : Nat × (Int × List ByteArray)) (o3 : Nat × (Int × List ByteArray)) (g : Int → List ByteArray → Option (Nat × (Int × List ByteArray))) (Q : Nat × (Int × List ByteArray) → Prop) (v4_1 : Int) (v4_18 : List ByteArray) : lb_R11_Names_4 anP  L a0 o1 o2 o3 (fun v4_1 v4_18 => ob (g v4_1 v4_18) Q) Q v4_1 v4_18 = ob (lb_R11_Names_4 (anO _)  L a0 o1 o2 o3 g some v4_1 v4_18) Q := by
  unfold lb_R11_Names_4
  dsimp only [anP, anO]
  try simp only [y1, y2, y3, y4, y5 Q, y6, y7, y8 Q, y9, z1, z2, z3, z4]
theorem le144_4  (L : Nat) (a0 : api_SiteDecl) (o1 : Nat × (Int × List ByteArray)) (o2 : Nat × (Int × List ByteArray)) (o3 : Nat × (Int × List ByteArray)) (n : Nat) (v4_1 : Int) (v4_18 : List ByteArray) (K : Ex → St → Prop) : loopN (EV (O144 L) L 9 c144.r.r.r.r.r.r.r.r.r.r.l.r.r.l.l) [0, 1, 2, 3, 4, 5, 6, 7, 8] [1, 9] n (sh144_4 a0 o1 o2 o3 v4_1 v4_18) K = ob (lp_R11_Names_4  L a0 o1 o2 o3 n v4_1 v4_18) (fun o => KK144_4 a0 o1 o2 o3 K o) := by
  induction n generalizing v4_1 v4_18 with
  | zero => rfl
  | succ n ih =>
    refine Eq.trans (b := lb_R11_Names_4 anP  L a0 o1 o2 o3 (fun v4_1 v4_18 => loopN (EV (O144 L) L 9 c144.r.r.r.r.r.r.r.r.r.r.l.r.r.l.l) [0, 1, 2, 3, 4, 5, 6, 7, 8] [1, 9] n (sh144_4 a0 o1 o2 o3 v4_1 v4_18) K) (KK144_4 a0 o1 o2 o3 K) v4_1 v4_18) (by kernel_rfl) ?_
    simp only [ih]
    exact ln144_4  L a0 o1 o2 o3 (lp_R11_Names_4  L a0 o1 o2 o3 n) (KK144_4 a0 o1 o2 o3 K) v4_1 v4_18
def sh144_5 (a0 : api_SiteDecl) (o1 : Nat × (Int × List ByteArray)) (o2 : Nat × (Int × List ByteArray)) (o3 : Nat × (Int × List ByteArray)) (o4 : Nat × (Int × List ByteArray)) (v5_1 : Int) (v5_24 : List ByteArray) : St := ({ fr := [(0, .any), (1, .loc 1 0), (2, .lst true (.t27 [])), (3, .vw true 9 27 1 10), (4, .any), (5, .any), (6, .any), (7, .any), (8, I v5_1)], ob := [(1, (enapi_SiteDecl a0)), (9, [.lst true (.t9 o1.2.2), .lst true (.t9 o2.2.2), .lst true (.t9 o3.2.2), .lst true (.t9 o4.2.2), .lst false (.t9 a0.Queues), .lst false (.t9 a0.Streams), .lst false (.t9 a0.Tallies), .lst false (.t9 a0.Levels), .lst false (.t9 a0.Counts), .lst true (.t9 v5_24)])], base := 0 } : St)
def KK144_5 (a0 : api_SiteDecl) (o1 : Nat × (Int × List ByteArray)) (o2 : Nat × (Int × List ByteArray)) (o3 : Nat × (Int × List ByteArray)) (o4 : Nat × (Int × List ByteArray)) (K : Ex → St → Prop) : Nat × (Int × List ByteArray) → Prop := fun o => seln o.1 [K (.exit 8) (sh144_5 a0 o1 o2 o3 o4 o.2.1 o.2.2)]
def lb_R11_Names_5 {A : Type} (an : An A)  (L : Nat) (a0 : api_SiteDecl) (o1 : Nat × (Int × List ByteArray)) (o2 : Nat × (Int × List ByteArray)) (o3 : Nat × (Int × List ByteArray)) (o4 : Nat × (Int × List ByteArray)) (rec : Int → List ByteArray → A) (out : Nat × (Int × List ByteArray) → A) (v5_1 : Int) (v5_24 : List ByteArray) : A :=
 (an.cn (decide (v5_1 < (a0.Routines.length : Int)))
 (an.gd ((0 : Int) ≤ 9)
 (an.gd (9 < ((10 : Nat) : Int))
 (an.gd ((0 : Int) ≤ v5_1)
 (an.gd (v5_1 < ((a0.Routines.length : Nat) : Int))
 (an.gd ((v5_24.length + [(a0.Routines.getD (Int.toNat v5_1) default).Name].length) * 16 ≤ 140737488355328)
 (an.gd (v5_24.length + [(a0.Routines.getD (Int.toNat v5_1) default).Name].length ≤ maxLen)
 (an.gd ((0 : Int) ≤ 9)
 (an.gd (9 < ((10 : Nat) : Int))
 (rec (w64 (v5_1 + 1)) (v5_24 ++ [(a0.Routines.getD (Int.toNat v5_1) default).Name]))))))))))
 (an.lf out (0, (v5_1, v5_24))))
def lp_R11_Names_5  (L : Nat) (a0 : api_SiteDecl) (o1 : Nat × (Int × List ByteArray)) (o2 : Nat × (Int × List ByteArray)) (o3 : Nat × (Int × List ByteArray)) (o4 : Nat × (Int × List ByteArray)) : Nat → Int → List ByteArray → Option (Nat × (Int × List ByteArray))
  | 0, _, _ => none
  | n + 1, v5_1, v5_24 => lb_R11_Names_5 (anO _)  L a0 o1 o2 o3 o4 (lp_R11_Names_5  L a0 o1 o2 o3 o4 n) some v5_1 v5_24
theorem ln144_5  (L : Nat) (a0 : api_SiteDecl) (o1 : Nat × (Int × List ByteArray)) (o2 : Nat × (Int × List ByteArray)) (o3 : Nat × (Int × List ByteArray)) (o4 : Nat × (Int × List ByteArray)) (g : Int → List ByteArray → Option (Nat × (Int × List ByteArray))) (Q : Nat × (Int × List ByteArray) → Prop) (v5_1 : Int) (v5_24 : List ByteArray) : lb_R11_Names_5 anP  L a0 o1 o2 o3 o4 (fun v5_1 v5_24 => ob (g v5_1 v5_24) Q) Q v5_1 v5_24 = ob (lb_R11_Names_5 (anO _)  L a0 o1 o2 o3 o4 g some v5_1 v5_24) Q := by
  unfold lb_R11_Names_5
  dsimp only [anP, anO]
  try simp only [y1, y2, y3, y4, y5 Q, y6, y7, y8 Q, y9, z1, z2, z3, z4]
theorem le144_5  (L : Nat) (a0 : api_SiteDecl) (o1 : Nat × (Int × List ByteArray)) (o2 : Nat × (Int × List ByteArray)) (o3 : Nat × (Int × List ByteArray)) (o4 : Nat × (Int × List ByteArray)) (n : Nat) (v5_1 : Int) (v5_24 : List ByteArray) (K : Ex → St → Prop) : loopN (EV (O144 L) L 9 c144.r.r.r.r.r.r.r.r.r.r.r.r.r.r.r.r.r.r.r.r.r.r.l.r.r.l.l) [0, 1, 2, 3, 4, 5, 6, 7, 8] [1, 9] n (sh144_5 a0 o1 o2 o3 o4 v5_1 v5_24) K = ob (lp_R11_Names_5  L a0 o1 o2 o3 o4 n v5_1 v5_24) (fun o => KK144_5 a0 o1 o2 o3 o4 K o) := by
  induction n generalizing v5_1 v5_24 with
  | zero => rfl
  | succ n ih =>
    refine Eq.trans (b := lb_R11_Names_5 anP  L a0 o1 o2 o3 o4 (fun v5_1 v5_24 => loopN (EV (O144 L) L 9 c144.r.r.r.r.r.r.r.r.r.r.r.r.r.r.r.r.r.r.r.r.r.r.l.r.r.l.l) [0, 1, 2, 3, 4, 5, 6, 7, 8] [1, 9] n (sh144_5 a0 o1 o2 o3 o4 v5_1 v5_24) K) (KK144_5 a0 o1 o2 o3 o4 K) v5_1 v5_24) (by kernel_rfl) ?_
    simp only [ih]
    exact ln144_5  L a0 o1 o2 o3 o4 (lp_R11_Names_5  L a0 o1 o2 o3 o4 n) (KK144_5 a0 o1 o2 o3 o4 K) v5_1 v5_24
def kc144_1  (L : Nat)  (kk : PV → Prop) : Ex → St → Prop := (kBlock 0 (kSeq (EV (O144 L) L 9 c144.r.r.r.r.r) (kEnd Tryz.prog (RS Tryz.f144) kk)))
def kc144_2  (L : Nat)  (kk : PV → Prop) : Ex → St → Prop := (kBlock 2 (kSeq (EV (O144 L) L 9 c144.r.r.r.r.r.r.r) (kEnd Tryz.prog (RS Tryz.f144) kk)))
def kc144_3  (L : Nat)  (kk : PV → Prop) : Ex → St → Prop := (kBlock 4 (kSeq (EV (O144 L) L 9 c144.r.r.r.r.r.r.r.r.r) (kEnd Tryz.prog (RS Tryz.f144) kk)))
def kc144_4  (L : Nat)  (kk : PV → Prop) : Ex → St → Prop := (kBlock 6 (kSeq (EV (O144 L) L 9 c144.r.r.r.r.r.r.r.r.r.r.r) (kEnd Tryz.prog (RS Tryz.f144) kk)))
def kc144_5  (L : Nat)  (kk : PV → Prop) : Ex → St → Prop := (kBlock 8 (kSeq (EV (O144 L) L 9 c144.r.r.r.r.r.r.r.r.r.r.r.r.r.r.r.r.r.r.r.r.r.r.r) (kEnd Tryz.prog (RS Tryz.f144) kk)))
theorem q144_1  (L : Nat) (a0 : api_SiteDecl) (kk : PV → Prop) (o1 : Nat × (Int × List ByteArray)) : KK144_1 a0 (kc144_1 L kk) o1 =
 (seln o1.1 [(loopN (EV (O144 L) L 9 c144.r.r.r.r.r.r.l.r.r.l.l) [0, 1, 2, 3, 4, 5, 6, 7, 8] [1, 9] L (sh144_2 a0 o1 0 []) (kc144_2 L kk))]) := by kernel_rfl
theorem q144_2  (L : Nat) (a0 : api_SiteDecl) (o1 : Nat × (Int × List ByteArray)) (kk : PV → Prop) (o2 : Nat × (Int × List ByteArray)) : KK144_2 a0 o1 (kc144_2 L kk) o2 =
 (seln o2.1 [(loopN (EV (O144 L) L 9 c144.r.r.r.r.r.r.r.r.l.r.r.l.l) [0, 1, 2, 3, 4, 5, 6, 7, 8] [1, 9] L (sh144_3 a0 o1 o2 0 []) (kc144_3 L kk))]) := by kernel_rfl
theorem q144_3  (L : Nat) (a0 : api_SiteDecl) (o1 : Nat × (Int × List ByteArray)) (o2 : Nat × (Int × List ByteArray)) (kk : PV → Prop) (o3 : Nat × (Int × List ByteArray)) : KK144_3 a0 o1 o2 (kc144_3 L kk) o3 =
 (seln o3.1 [(loopN (EV (O144 L) L 9 c144.r.r.r.r.r.r.r.r.r.r.l.r.r.l.l) [0, 1, 2, 3, 4, 5, 6, 7, 8] [1, 9] L (sh144_4 a0 o1 o2 o3 0 []) (kc144_4 L kk))]) := by kernel_rfl
theorem q144_4  (L : Nat) (a0 : api_SiteDecl) (o1 : Nat × (Int × List ByteArray)) (o2 : Nat × (Int × List ByteArray)) (o3 : Nat × (Int × List ByteArray)) (kk : PV → Prop) (o4 : Nat × (Int × List ByteArray)) : KK144_4 a0 o1 o2 o3 (kc144_4 L kk) o4 =
 (seln o4.1 [(gd ((0 : Int) ≤ 4)
 (gd (4 < ((10 : Nat) : Int))
 (gd ((0 : Int) ≤ 5)
 (gd (5 < ((10 : Nat) : Int))
 (gd ((0 : Int) ≤ 6)
 (gd (6 < ((10 : Nat) : Int))
 (gd ((0 : Int) ≤ 7)
 (gd (7 < ((10 : Nat) : Int))
 (gd ((0 : Int) ≤ 8)
 (gd (8 < ((10 : Nat) : Int))
 (loopN (EV (O144 L) L 9 c144.r.r.r.r.r.r.r.r.r.r.r.r.r.r.r.r.r.r.r.r.r.r.l.r.r.l.l) [0, 1, 2, 3, 4, 5, 6, 7, 8] [1, 9] L (sh144_5 a0 o1 o2 o3 o4 0 []) (kc144_5 L kk))))))))))))]) := by kernel_rfl
theorem q144_5  (L : Nat) (a0 : api_SiteDecl) (o1 : Nat × (Int × List ByteArray)) (o2 : Nat × (Int × List ByteArray)) (o3 : Nat × (Int × List ByteArray)) (o4 : Nat × (Int × List ByteArray)) (kk : PV → Prop) (o5 : Nat × (Int × List ByteArray)) : KK144_5 a0 o1 o2 o3 o4 (kc144_5 L kk) o5 =
 (seln o5.1 [(ob (some [o1.2.2, o2.2.2, o3.2.2, o4.2.2, a0.Queues, a0.Streams, a0.Tallies, a0.Levels, a0.Counts, o5.2.2]) (fun (x : (List (List ByteArray))) => kk (.lst false (.t27 x))))]) := by kernel_rfl
def T_R11_Names {A : Type} (an : An A)  (L : Nat) (a0 : api_SiteDecl) (out : (List (List ByteArray)) → A) : A :=
 (an.bd (lp_R11_Names_1 L a0 L 0 []) fun o1 =>
 (an.sl o1.1 [(an.bd (lp_R11_Names_2 L a0 o1 L 0 []) fun o2 =>
 (an.sl o2.1 [(an.bd (lp_R11_Names_3 L a0 o1 o2 L 0 []) fun o3 =>
 (an.sl o3.1 [(an.bd (lp_R11_Names_4 L a0 o1 o2 o3 L 0 []) fun o4 =>
 (an.sl o4.1 [(an.gd ((0 : Int) ≤ 4)
 (an.gd (4 < ((10 : Nat) : Int))
 (an.gd ((0 : Int) ≤ 5)
 (an.gd (5 < ((10 : Nat) : Int))
 (an.gd ((0 : Int) ≤ 6)
 (an.gd (6 < ((10 : Nat) : Int))
 (an.gd ((0 : Int) ≤ 7)
 (an.gd (7 < ((10 : Nat) : Int))
 (an.gd ((0 : Int) ≤ 8)
 (an.gd (8 < ((10 : Nat) : Int))
 (an.bd (lp_R11_Names_5 L a0 o1 o2 o3 o4 L 0 []) fun o5 =>
 (an.sl o5.1 [(an.lf out [o1.2.2, o2.2.2, o3.2.2, o4.2.2, a0.Queues, a0.Streams, a0.Tallies, a0.Levels, a0.Counts, o5.2.2])]))))))))))))]))]))]))]))
def F_R11_Names  (L : Nat) (a0 : api_SiteDecl) : Option (List (List ByteArray)) := T_R11_Names (anO _) L a0 some
theorem e144  (L : Nat) (a0 : api_SiteDecl) (kk : PV → Prop) : EW (O144 L) L 9 (RS Tryz.f144) c144 [.agg (enapi_SiteDecl a0)] kk = ob (F_R11_Names L a0) (fun (x : (List (List ByteArray))) => kk (.lst false (.t27 x))) := by
  refine Eq.trans (b := T_R11_Names anP L a0 (fun (x : (List (List ByteArray))) => kk (.lst false (.t27 x)))) ?_ ?_
  · refine Eq.trans (b := (loopN (EV (O144 L) L 9 c144.r.r.r.r.l.r.r.l.l) [0, 1, 2, 3, 4, 5, 6, 7, 8] [1, 9] L (sh144_1 a0 0 []) (kc144_1 L kk))) (by kernel_rfl) ?_
    unfold T_R11_Names
    dsimp only [anP]
    simp only [le144_1, le144_2, le144_3, le144_4, le144_5, q144_1, q144_2, q144_3, q144_4, q144_5]
  generalize (fun (x : (List (List ByteArray))) => kk (.lst false (.t27 x))) = Q
  unfold F_R11_Names T_R11_Names
  dsimp only [anP, anO]
  try simp only [y1, y2, y3, y4, y5 Q, y6, y7, y8 Q, y9, z1, z2, z3, z4]
theorem h144   (L : Nat) (a0 : api_SiteDecl) (r : (List (List ByteArray))) (h : F_R11_Names L a0 = some r) : Holds Tryz.prog 144 [.agg (enapi_SiteDecl a0)] (.lst false (.t27 r)) :=
  hE grwOK (s144  L) mixed Tryz.func144 (by kernel_rfl : cFn Tryz.prog inl Tryz.f144 = some c144) (er := fun (x : (List (List ByteArray))) => .lst false (.t27 x)) (by kernel_rfl) (e144 L a0) h

/-! ### simulator/simulatorref11.Kind -/
noncomputable def c86 : EC := (cFn Tryz.prog inl Tryz.f86).getD .stop
def O86  (L : Nat) : Oracle := (orc 143 (A2 (fun (x : Int) => I x) cl9 cS (F_R07_Find L)) (orc 144 (A1 (fun (x : (List (List ByteArray))) => .lst false (.t27 x)) ca_api_SiteDecl (F_R11_Names L)) noC))
theorem s86   (L : Nat) : SoundC Tryz.prog (O86 L) := (orc_sound (a2 _ (h143 L)) (orc_sound (a1 _ (h144 L)) (noC_sound Tryz.prog)))
def sh86_1 (a1 : ByteArray) (r1 : (List (List ByteArray))) (a0 : api_SiteDecl) (v1_1 : ByteArray) (v1_4 : Int) : St := ({ fr := [(0, .any), (1, S a1), (2, .any), (4, S v1_1), (5, .lst false (.t27 r1)), (6, .lst true (.t9 [(⟨#[118, 97, 114]⟩ : ByteArray), (⟨#[114, 101, 115, 111, 117, 114, 99, 101]⟩ : ByteArray), (⟨#[115, 116, 111, 114, 101]⟩ : ByteArray), (⟨#[98, 101, 108, 116]⟩ : ByteArray), (⟨#[113, 117, 101, 117, 101]⟩ : ByteArray), (⟨#[115, 116, 114, 101, 97, 109]⟩ : ByteArray), (⟨#[116, 97, 108, 108, 121]⟩ : ByteArray), (⟨#[108, 101, 118, 101, 108]⟩ : ByteArray), (⟨#[99, 111, 117, 110, 116]⟩ : ByteArray), (⟨#[114, 111, 117, 116, 105, 110, 101]⟩ : ByteArray)])), (7, I v1_4)], ob := [(2, (enapi_SiteDecl a0))], base := 0 } : St)
def KK86_1 (a1 : ByteArray) (r1 : (List (List ByteArray))) (a0 : api_SiteDecl) (K : Ex → St → Prop) : Nat × (ByteArray × Int) → Prop := fun o => seln o.1 [K .ret (sh86_1 a1 r1 a0 o.2.1 o.2.2), K (.exit 0) (sh86_1 a1 r1 a0 o.2.1 o.2.2)]
def lb_R11_Kind_1 {A : Type} (an : An A)  (L : Nat) (a1 : ByteArray) (r1 : (List (List ByteArray))) (a0 : api_SiteDecl) (rec : ByteArray → Int → A) (out : Nat × (ByteArray × Int) → A) (v1_1 : ByteArray) (v1_4 : Int) : A :=
 (an.cn (decide (v1_4 < (r1.length : Int)))
 (an.gd ((0 : Int) ≤ v1_4)
 (an.gd (v1_4 < ((r1.length : Nat) : Int))
 (an.bd (F_R07_Find L (r1.getD (Int.toNat v1_4) default) a1) fun r2 =>
 (an.cn (decide (r2 ≥ 0))
 (an.gd ((0 : Int) ≤ v1_4)
 (an.gd (v1_4 < (([(⟨#[118, 97, 114]⟩ : ByteArray), (⟨#[114, 101, 115, 111, 117, 114, 99, 101]⟩ : ByteArray), (⟨#[115, 116, 111, 114, 101]⟩ : ByteArray), (⟨#[98, 101, 108, 116]⟩ : ByteArray), (⟨#[113, 117, 101, 117, 101]⟩ : ByteArray), (⟨#[115, 116, 114, 101, 97, 109]⟩ : ByteArray), (⟨#[116, 97, 108, 108, 121]⟩ : ByteArray), (⟨#[108, 101, 118, 101, 108]⟩ : ByteArray), (⟨#[99, 111, 117, 110, 116]⟩ : ByteArray), (⟨#[114, 111, 117, 116, 105, 110, 101]⟩ : ByteArray)].length : Nat) : Int))
 (an.lf out (0, (([(⟨#[118, 97, 114]⟩ : ByteArray), (⟨#[114, 101, 115, 111, 117, 114, 99, 101]⟩ : ByteArray), (⟨#[115, 116, 111, 114, 101]⟩ : ByteArray), (⟨#[98, 101, 108, 116]⟩ : ByteArray), (⟨#[113, 117, 101, 117, 101]⟩ : ByteArray), (⟨#[115, 116, 114, 101, 97, 109]⟩ : ByteArray), (⟨#[116, 97, 108, 108, 121]⟩ : ByteArray), (⟨#[108, 101, 118, 101, 108]⟩ : ByteArray), (⟨#[99, 111, 117, 110, 116]⟩ : ByteArray), (⟨#[114, 111, 117, 116, 105, 110, 101]⟩ : ByteArray)].getD (Int.toNat v1_4) default), v1_4)))))
 (rec v1_1 (w64 (v1_4 + 1)))))))
 (an.lf out (1, (v1_1, v1_4))))
def lp_R11_Kind_1  (L : Nat) (a1 : ByteArray) (r1 : (List (List ByteArray))) (a0 : api_SiteDecl) : Nat → ByteArray → Int → Option (Nat × (ByteArray × Int))
  | 0, _, _ => none
  | n + 1, v1_1, v1_4 => lb_R11_Kind_1 (anO _)  L a1 r1 a0 (lp_R11_Kind_1  L a1 r1 a0 n) some v1_1 v1_4
theorem ln86_1  (L : Nat) (a1 : ByteArray) (r1 : (List (List ByteArray))) (a0 : api_SiteDecl) (g : ByteArray → Int → Option (Nat × (ByteArray × Int))) (Q : Nat × (ByteArray × Int) → Prop) (v1_1 : ByteArray) (v1_4 : Int) : lb_R11_Kind_1 anP  L a1 r1 a0 (fun v1_1 v1_4 => ob (g v1_1 v1_4) Q) Q v1_1 v1_4 = ob (lb_R11_Kind_1 (anO _)  L a1 r1 a0 g some v1_1 v1_4) Q := by
  unfold lb_R11_Kind_1
  dsimp only [anP, anO]
  try simp only [y1, y2, y3, y4, y5 Q, y6, y7, y8 Q, y9, z1, z2, z3, z4]
theorem le86_1  (L : Nat) (a1 : ByteArray) (r1 : (List (List ByteArray))) (a0 : api_SiteDecl) (n : Nat) (v1_1 : ByteArray) (v1_4 : Int) (K : Ex → St → Prop) : loopN (EV (O86 L) L 9 c86.r.r.r.r.r.r.l.r.r.l.l) [0, 1, 2, 4, 5, 6, 7] [2] n (sh86_1 a1 r1 a0 v1_1 v1_4) K = ob (lp_R11_Kind_1  L a1 r1 a0 n v1_1 v1_4) (fun o => KK86_1 a1 r1 a0 K o) := by
  induction n generalizing v1_1 v1_4 with
  | zero => rfl
  | succ n ih =>
    refine Eq.trans (b := lb_R11_Kind_1 anP  L a1 r1 a0 (fun v1_1 v1_4 => loopN (EV (O86 L) L 9 c86.r.r.r.r.r.r.l.r.r.l.l) [0, 1, 2, 4, 5, 6, 7] [2] n (sh86_1 a1 r1 a0 v1_1 v1_4) K) (KK86_1 a1 r1 a0 K) v1_1 v1_4) (by kernel_rfl) ?_
    simp only [ih]
    exact ln86_1  L a1 r1 a0 (lp_R11_Kind_1  L a1 r1 a0 n) (KK86_1 a1 r1 a0 K) v1_1 v1_4
def kc86_1  (L : Nat)  (kk : PV → Prop) : Ex → St → Prop := (kBlock 0 (kSeq (EV (O86 L) L 9 c86.r.r.r.r.r.r.r) (kEnd Tryz.prog (RS Tryz.f86) kk)))
theorem q86_1  (L : Nat) (a1 : ByteArray) (r1 : (List (List ByteArray))) (a0 : api_SiteDecl) (kk : PV → Prop) (o2 : Nat × (ByteArray × Int)) : KK86_1 a1 r1 a0 (kc86_1 L kk) o2 =
 (seln o2.1 [(ob (some o2.2.1) (fun (x : ByteArray) => kk (S x))),
 (ob (some (⟨#[]⟩ : ByteArray)) (fun (x : ByteArray) => kk (S x)))]) := by kernel_rfl
def T_R11_Kind {A : Type} (an : An A)  (L : Nat) (a0 : api_SiteDecl) (a1 : ByteArray) (out : ByteArray → A) : A :=
 (an.bd (F_R11_Names L a0) fun r1 =>
 (an.bd (lp_R11_Kind_1 L a1 r1 a0 L (⟨#[]⟩ : ByteArray) 0) fun o2 =>
 (an.sl o2.1 [(an.lf out o2.2.1),
 (an.lf out (⟨#[]⟩ : ByteArray))])))
def F_R11_Kind  (L : Nat) (a0 : api_SiteDecl) (a1 : ByteArray) : Option ByteArray := T_R11_Kind (anO _) L a0 a1 some
theorem e86  (L : Nat) (a0 : api_SiteDecl) (a1 : ByteArray) (kk : PV → Prop) : EW (O86 L) L 9 (RS Tryz.f86) c86 [.agg (enapi_SiteDecl a0), S a1] kk = ob (F_R11_Kind L a0 a1) (fun (x : ByteArray) => kk (S x)) := by
  refine Eq.trans (b := T_R11_Kind anP L a0 a1 (fun (x : ByteArray) => kk (S x))) ?_ ?_
  · refine Eq.trans (b := (ob (F_R11_Names L a0) fun r1 =>
 (loopN (EV (O86 L) L 9 c86.r.r.r.r.r.r.l.r.r.l.l) [0, 1, 2, 4, 5, 6, 7] [2] L (sh86_1 a1 r1 a0 (⟨#[]⟩ : ByteArray) 0) (kc86_1 L kk)))) (by kernel_rfl) ?_
    unfold T_R11_Kind
    dsimp only [anP]
    simp only [le86_1, q86_1]
  generalize (fun (x : ByteArray) => kk (S x)) = Q
  unfold F_R11_Kind T_R11_Kind
  dsimp only [anP, anO]
  try simp only [y1, y2, y3, y4, y5 Q, y6, y7, y8 Q, y9, z1, z2, z3, z4]
theorem h86   (L : Nat) (a0 : api_SiteDecl) (a1 : ByteArray) (r : ByteArray) (h : F_R11_Kind L a0 a1 = some r) : Holds Tryz.prog 86 [.agg (enapi_SiteDecl a0), S a1] (S r) :=
  hE grwOK (s86  L) mixed Tryz.func86 (by kernel_rfl : cFn Tryz.prog inl Tryz.f86 = some c86) (er := fun (x : ByteArray) => S x) (by kernel_rfl) (e86 L a0 a1) h

/-! ### simulator/simulatorref14.Local -/
noncomputable def c30 : EC := (cFn Tryz.prog inl Tryz.f30).getD .stop
def O30  (L : Nat) : Oracle := noC
theorem s30   (L : Nat) : SoundC Tryz.prog (O30 L) := (noC_sound Tryz.prog)
def sh30_1 (a0 : (List api_Field)) (a1 : ByteArray) (v1_2 : Int) (v1_3 : Bool) (v1_4 : Int) : St := ({ fr := [(0, .lst false (.t68 a0)), (1, S a1), (4, I v1_2), (5, B v1_3), (6, I v1_4)], ob := [], base := 0 } : St)
def KK30_1 (a0 : (List api_Field)) (a1 : ByteArray) (K : Ex → St → Prop) : Nat × (Int × Bool × Int) → Prop := fun o => seln o.1 [K .ret (sh30_1 a0 a1 o.2.1 o.2.2.1 o.2.2.2), K (.exit 0) (sh30_1 a0 a1 o.2.1 o.2.2.1 o.2.2.2)]
def lb_R14_Local_1 {A : Type} (an : An A)  (L : Nat) (a0 : (List api_Field)) (a1 : ByteArray) (rec : Int → Bool → Int → A) (out : Nat × (Int × Bool × Int) → A) (v1_2 : Int) (v1_3 : Bool) (v1_4 : Int) : A :=
 (an.cn (decide (v1_4 ≥ 0))
 (an.gd ((0 : Int) ≤ v1_4)
 (an.gd (v1_4 < ((a0.length : Nat) : Int))
 (an.cn (((a0.getD (Int.toNat v1_4) default).Name).toList == a1.toList)
 (an.gd ((0 : Int) ≤ v1_4)
 (an.gd (v1_4 < ((a0.length : Nat) : Int))
 (an.lf out (0, (((a0.getD (Int.toNat v1_4) default).Type_), true, v1_4)))))
 (rec v1_2 v1_3 (w64 (v1_4 - 1))))))
 (an.lf out (1, (v1_2, v1_3, v1_4))))
def lp_R14_Local_1  (L : Nat) (a0 : (List api_Field)) (a1 : ByteArray) : Nat → Int → Bool → Int → Option (Nat × (Int × Bool × Int))
  | 0, _, _, _ => none
  | n + 1, v1_2, v1_3, v1_4 => lb_R14_Local_1 (anO _)  L a0 a1 (lp_R14_Local_1  L a0 a1 n) some v1_2 v1_3 v1_4
theorem ln30_1  (L : Nat) (a0 : (List api_Field)) (a1 : ByteArray) (g : Int → Bool → Int → Option (Nat × (Int × Bool × Int))) (Q : Nat × (Int × Bool × Int) → Prop) (v1_2 : Int) (v1_3 : Bool) (v1_4 : Int) : lb_R14_Local_1 anP  L a0 a1 (fun v1_2 v1_3 v1_4 => ob (g v1_2 v1_3 v1_4) Q) Q v1_2 v1_3 v1_4 = ob (lb_R14_Local_1 (anO _)  L a0 a1 g some v1_2 v1_3 v1_4) Q := by
  unfold lb_R14_Local_1
  dsimp only [anP, anO]
  try simp only [y1, y2, y3, y4, y5 Q, y6, y7, y8 Q, y9, z1, z2, z3, z4]
theorem le30_1  (L : Nat) (a0 : (List api_Field)) (a1 : ByteArray) (n : Nat) (v1_2 : Int) (v1_3 : Bool) (v1_4 : Int) (K : Ex → St → Prop) : loopN (EV (O30 L) L 9 c30.r.r.l.r.r.l.l) [0, 1, 4, 5, 6] [] n (sh30_1 a0 a1 v1_2 v1_3 v1_4) K = ob (lp_R14_Local_1  L a0 a1 n v1_2 v1_3 v1_4) (fun o => KK30_1 a0 a1 K o) := by
  induction n generalizing v1_2 v1_3 v1_4 with
  | zero => rfl
  | succ n ih =>
    refine Eq.trans (b := lb_R14_Local_1 anP  L a0 a1 (fun v1_2 v1_3 v1_4 => loopN (EV (O30 L) L 9 c30.r.r.l.r.r.l.l) [0, 1, 4, 5, 6] [] n (sh30_1 a0 a1 v1_2 v1_3 v1_4) K) (KK30_1 a0 a1 K) v1_2 v1_3 v1_4) (by kernel_rfl) ?_
    simp only [ih]
    exact ln30_1  L a0 a1 (lp_R14_Local_1  L a0 a1 n) (KK30_1 a0 a1 K) v1_2 v1_3 v1_4
def kc30_1  (L : Nat)  (kk : PV → Prop) : Ex → St → Prop := (kBlock 0 (kSeq (EV (O30 L) L 9 c30.r.r.r) (kEnd Tryz.prog (RS Tryz.f30) kk)))
theorem q30_1  (L : Nat) (a0 : (List api_Field)) (a1 : ByteArray) (kk : PV → Prop) (o1 : Nat × (Int × Bool × Int)) : KK30_1 a0 a1 (kc30_1 L kk) o1 =
 (seln o1.1 [(ob (some (o1.2.1, o1.2.2.1)) (fun (x : (Int × Bool)) => kk (.tup [I x.1, B x.2]))),
 (ob (some (0, false)) (fun (x : (Int × Bool)) => kk (.tup [I x.1, B x.2])))]) := by kernel_rfl
def T_R14_Local {A : Type} (an : An A)  (L : Nat) (a0 : (List api_Field)) (a1 : ByteArray) (out : (Int × Bool) → A) : A :=
 (an.bd (lp_R14_Local_1 L a0 a1 L 0 false (w64 ((a0.length : Int) - 1))) fun o1 =>
 (an.sl o1.1 [(an.lf out (o1.2.1, o1.2.2.1)),
 (an.lf out (0, false))]))
def F_R14_Local  (L : Nat) (a0 : (List api_Field)) (a1 : ByteArray) : Option (Int × Bool) := T_R14_Local (anO _) L a0 a1 some
theorem e30  (L : Nat) (a0 : (List api_Field)) (a1 : ByteArray) (kk : PV → Prop) : EW (O30 L) L 9 (RS Tryz.f30) c30 [.lst false (.t68 a0), S a1] kk = ob (F_R14_Local L a0 a1) (fun (x : (Int × Bool)) => kk (.tup [I x.1, B x.2])) := by
  refine Eq.trans (b := T_R14_Local anP L a0 a1 (fun (x : (Int × Bool)) => kk (.tup [I x.1, B x.2]))) ?_ ?_
  · refine Eq.trans (b := (loopN (EV (O30 L) L 9 c30.r.r.l.r.r.l.l) [0, 1, 4, 5, 6] [] L (sh30_1 a0 a1 0 false (w64 ((a0.length : Int) - 1))) (kc30_1 L kk))) (by kernel_rfl) ?_
    unfold T_R14_Local
    dsimp only [anP]
    simp only [le30_1, q30_1]
  generalize (fun (x : (Int × Bool)) => kk (.tup [I x.1, B x.2])) = Q
  unfold F_R14_Local T_R14_Local
  dsimp only [anP, anO]
  try simp only [y1, y2, y3, y4, y5 Q, y6, y7, y8 Q, y9, z1, z2, z3, z4]
theorem h30   (L : Nat) (a0 : (List api_Field)) (a1 : ByteArray) (r : (Int × Bool)) (h : F_R14_Local L a0 a1 = some r) : Holds Tryz.prog 30 [.lst false (.t68 a0), S a1] (.tup [I r.1, B r.2]) :=
  hE grwOK (s30  L) mixed Tryz.func30 (by kernel_rfl : cFn Tryz.prog inl Tryz.f30 = some c30) (er := fun (x : (Int × Bool)) => .tup [I x.1, B x.2]) (by kernel_rfl) (e30 L a0 a1) h

/-! ### simulator/simulatorref14.valued -/
noncomputable def c31 : EC := (cFn Tryz.prog inl Tryz.f31).getD .stop
def O31  (L : Nat) : Oracle := noC
theorem s31   (L : Nat) : SoundC Tryz.prog (O31 L) := (noC_sound Tryz.prog)
def sh31_1 (a0 : (List api_Value)) (a1 : ByteArray) (v1_2 : Int) (v1_3 : Bool) (v1_4 : Int) : St := ({ fr := [(0, .lst false (.t72 a0)), (1, S a1), (4, I v1_2), (5, B v1_3), (6, I v1_4)], ob := [], base := 0 } : St)
def KK31_1 (a0 : (List api_Value)) (a1 : ByteArray) (K : Ex → St → Prop) : Nat × (Int × Bool × Int) → Prop := fun o => seln o.1 [K .ret (sh31_1 a0 a1 o.2.1 o.2.2.1 o.2.2.2), K (.exit 0) (sh31_1 a0 a1 o.2.1 o.2.2.1 o.2.2.2)]
def lb_R14_valued_1 {A : Type} (an : An A)  (L : Nat) (a0 : (List api_Value)) (a1 : ByteArray) (rec : Int → Bool → Int → A) (out : Nat × (Int × Bool × Int) → A) (v1_2 : Int) (v1_3 : Bool) (v1_4 : Int) : A :=
 (an.cn (decide (v1_4 < (a0.length : Int)))
 (an.gd ((0 : Int) ≤ v1_4)
 (an.gd (v1_4 < ((a0.length : Nat) : Int))
 (an.cn (((a0.getD (Int.toNat v1_4) default).Name).toList == a1.toList)
 (an.gd ((0 : Int) ≤ v1_4)
 (an.gd (v1_4 < ((a0.length : Nat) : Int))
 (an.lf out (0, (((a0.getD (Int.toNat v1_4) default).Type_), true, v1_4)))))
 (rec v1_2 v1_3 (w64 (v1_4 + 1))))))
 (an.lf out (1, (v1_2, v1_3, v1_4))))
def lp_R14_valued_1  (L : Nat) (a0 : (List api_Value)) (a1 : ByteArray) : Nat → Int → Bool → Int → Option (Nat × (Int × Bool × Int))
  | 0, _, _, _ => none
  | n + 1, v1_2, v1_3, v1_4 => lb_R14_valued_1 (anO _)  L a0 a1 (lp_R14_valued_1  L a0 a1 n) some v1_2 v1_3 v1_4
theorem ln31_1  (L : Nat) (a0 : (List api_Value)) (a1 : ByteArray) (g : Int → Bool → Int → Option (Nat × (Int × Bool × Int))) (Q : Nat × (Int × Bool × Int) → Prop) (v1_2 : Int) (v1_3 : Bool) (v1_4 : Int) : lb_R14_valued_1 anP  L a0 a1 (fun v1_2 v1_3 v1_4 => ob (g v1_2 v1_3 v1_4) Q) Q v1_2 v1_3 v1_4 = ob (lb_R14_valued_1 (anO _)  L a0 a1 g some v1_2 v1_3 v1_4) Q := by
  unfold lb_R14_valued_1
  dsimp only [anP, anO]
  try simp only [y1, y2, y3, y4, y5 Q, y6, y7, y8 Q, y9, z1, z2, z3, z4]
theorem le31_1  (L : Nat) (a0 : (List api_Value)) (a1 : ByteArray) (n : Nat) (v1_2 : Int) (v1_3 : Bool) (v1_4 : Int) (K : Ex → St → Prop) : loopN (EV (O31 L) L 9 c31.r.r.l.r.r.l.l) [0, 1, 4, 5, 6] [] n (sh31_1 a0 a1 v1_2 v1_3 v1_4) K = ob (lp_R14_valued_1  L a0 a1 n v1_2 v1_3 v1_4) (fun o => KK31_1 a0 a1 K o) := by
  induction n generalizing v1_2 v1_3 v1_4 with
  | zero => rfl
  | succ n ih =>
    refine Eq.trans (b := lb_R14_valued_1 anP  L a0 a1 (fun v1_2 v1_3 v1_4 => loopN (EV (O31 L) L 9 c31.r.r.l.r.r.l.l) [0, 1, 4, 5, 6] [] n (sh31_1 a0 a1 v1_2 v1_3 v1_4) K) (KK31_1 a0 a1 K) v1_2 v1_3 v1_4) (by kernel_rfl) ?_
    simp only [ih]
    exact ln31_1  L a0 a1 (lp_R14_valued_1  L a0 a1 n) (KK31_1 a0 a1 K) v1_2 v1_3 v1_4
def kc31_1  (L : Nat)  (kk : PV → Prop) : Ex → St → Prop := (kBlock 0 (kSeq (EV (O31 L) L 9 c31.r.r.r) (kEnd Tryz.prog (RS Tryz.f31) kk)))
theorem q31_1  (L : Nat) (a0 : (List api_Value)) (a1 : ByteArray) (kk : PV → Prop) (o1 : Nat × (Int × Bool × Int)) : KK31_1 a0 a1 (kc31_1 L kk) o1 =
 (seln o1.1 [(ob (some (o1.2.1, o1.2.2.1)) (fun (x : (Int × Bool)) => kk (.tup [I x.1, B x.2]))),
 (ob (some (0, false)) (fun (x : (Int × Bool)) => kk (.tup [I x.1, B x.2])))]) := by kernel_rfl
def T_R14_valued {A : Type} (an : An A)  (L : Nat) (a0 : (List api_Value)) (a1 : ByteArray) (out : (Int × Bool) → A) : A :=
 (an.bd (lp_R14_valued_1 L a0 a1 L 0 false 0) fun o1 =>
 (an.sl o1.1 [(an.lf out (o1.2.1, o1.2.2.1)),
 (an.lf out (0, false))]))
def F_R14_valued  (L : Nat) (a0 : (List api_Value)) (a1 : ByteArray) : Option (Int × Bool) := T_R14_valued (anO _) L a0 a1 some
theorem e31  (L : Nat) (a0 : (List api_Value)) (a1 : ByteArray) (kk : PV → Prop) : EW (O31 L) L 9 (RS Tryz.f31) c31 [.lst false (.t72 a0), S a1] kk = ob (F_R14_valued L a0 a1) (fun (x : (Int × Bool)) => kk (.tup [I x.1, B x.2])) := by
  refine Eq.trans (b := T_R14_valued anP L a0 a1 (fun (x : (Int × Bool)) => kk (.tup [I x.1, B x.2]))) ?_ ?_
  · refine Eq.trans (b := (loopN (EV (O31 L) L 9 c31.r.r.l.r.r.l.l) [0, 1, 4, 5, 6] [] L (sh31_1 a0 a1 0 false 0) (kc31_1 L kk))) (by kernel_rfl) ?_
    unfold T_R14_valued
    dsimp only [anP]
    simp only [le31_1, q31_1]
  generalize (fun (x : (Int × Bool)) => kk (.tup [I x.1, B x.2])) = Q
  unfold F_R14_valued T_R14_valued
  dsimp only [anP, anO]
  try simp only [y1, y2, y3, y4, y5 Q, y6, y7, y8 Q, y9, z1, z2, z3, z4]
theorem h31   (L : Nat) (a0 : (List api_Value)) (a1 : ByteArray) (r : (Int × Bool)) (h : F_R14_valued L a0 a1 = some r) : Holds Tryz.prog 31 [.lst false (.t72 a0), S a1] (.tup [I r.1, B r.2]) :=
  hE grwOK (s31  L) mixed Tryz.func31 (by kernel_rfl : cFn Tryz.prog inl Tryz.f31 = some c31) (er := fun (x : (Int × Bool)) => .tup [I x.1, B x.2]) (by kernel_rfl) (e31 L a0 a1) h

/-! ### simulator/simulatorref14.Find -/
noncomputable def c15 : EC := (cFn Tryz.prog inl Tryz.f15).getD .stop
def O15  (L : Nat) : Oracle := (orc 30 (A2 (fun (x : (Int × Bool)) => .tup [I x.1, B x.2]) cl68 cS (F_R14_Local L)) (orc 31 (A2 (fun (x : (Int × Bool)) => .tup [I x.1, B x.2]) cl72 cS (F_R14_valued L)) noC))
theorem s15   (L : Nat) : SoundC Tryz.prog (O15 L) := (orc_sound (a2 _ (h30 L)) (orc_sound (a2 _ (h31 L)) (noC_sound Tryz.prog)))
def T_R14_Find {A : Type} (an : An A)  (L : Nat) (a0 : api_Env) (a1 : ByteArray) (out : (Int × Bool) → A) : A :=
 (an.bd (F_R14_Local L a0.Locals a1) fun r1 =>
 (an.cn (!r1.2)
 (an.bd (F_R14_valued L a0.Site.Vars a1) fun r2 =>
 (an.cn (!r2.2)
 (an.bd (F_R14_valued L a0.Params a1) fun r3 =>
 (an.lf out (r3.1, r3.2)))
 (an.lf out (r2.1, r2.2))))
 (an.cn (!r1.2)
 (an.bd (F_R14_valued L a0.Params a1) fun r4 =>
 (an.lf out (r4.1, r4.2)))
 (an.lf out (r1.1, r1.2)))))
def F_R14_Find  (L : Nat) (a0 : api_Env) (a1 : ByteArray) : Option (Int × Bool) := T_R14_Find (anO _) L a0 a1 some
theorem e15  (L : Nat) (a0 : api_Env) (a1 : ByteArray) (kk : PV → Prop) : EW (O15 L) L 9 (RS Tryz.f15) c15 [.agg (enapi_Env a0), S a1] kk = ob (F_R14_Find L a0 a1) (fun (x : (Int × Bool)) => kk (.tup [I x.1, B x.2])) := by
  refine Eq.trans (b := T_R14_Find anP L a0 a1 (fun (x : (Int × Bool)) => kk (.tup [I x.1, B x.2]))) (by kernel_rfl) ?_
  generalize (fun (x : (Int × Bool)) => kk (.tup [I x.1, B x.2])) = Q
  unfold F_R14_Find T_R14_Find
  dsimp only [anP, anO]
  try simp only [y1, y2, y3, y4, y5 Q, y6, y7, y8 Q, y9, z1, z2, z3, z4]
theorem h15   (L : Nat) (a0 : api_Env) (a1 : ByteArray) (r : (Int × Bool)) (h : F_R14_Find L a0 a1 = some r) : Holds Tryz.prog 15 [.agg (enapi_Env a0), S a1] (.tup [I r.1, B r.2]) :=
  hE grwOK (s15  L) mixed Tryz.func15 (by kernel_rfl : cFn Tryz.prog inl Tryz.f15 = some c15) (er := fun (x : (Int × Bool)) => .tup [I x.1, B x.2]) (by kernel_rfl) (e15 L a0 a1) h

/-! ### simulator/simulatorref14.leaf -/
noncomputable def c51 : EC := (cFn Tryz.prog inl Tryz.f51).getD .stop
def O51  (L : Nat) : Oracle := (orc 15 (A2 (fun (x : (Int × Bool)) => .tup [I x.1, B x.2]) ca_api_Env cS (F_R14_Find L)) (orc 86 (A2 (fun (x : ByteArray) => S x) ca_api_SiteDecl cS (F_R11_Kind L)) noC))
theorem s51   (L : Nat) : SoundC Tryz.prog (O51 L) := (orc_sound (a2 _ (h15 L)) (orc_sound (a2 _ (h86 L)) (noC_sound Tryz.prog)))
def T_R14_leaf {A : Type} (an : An A)  (L : Nat) (a0 : api_Env) (a1 : api_Expr) (out : (Int × Int) → A) : A :=
 (an.bd (F_R11_Kind L a0.Site a1.Name) fun r1 =>
 (an.cn (a1.Op == 1)
 (an.lf out (1, 0))
 (an.cn (a1.Op == 2)
 (an.lf out (2, 0))
 (an.cn (a1.Op == 4)
 (an.lf out (3, 0))
 (an.cn (a1.Op == 3)
 (an.bd (F_R14_Find L a0 a1.Name) fun r2 =>
 (an.cn (!r2.2)
 (an.lf out (0, 5))
 (an.lf out (r2.1, 0))))
 (an.cn (a1.Op == 22)
 (an.cn (!(r1.toList == (⟨#[114, 101, 115, 111, 117, 114, 99, 101]⟩ : ByteArray).toList))
 (an.lf out (0, 5))
 (an.lf out (1, 0)))
 (an.cn (a1.Op == 23)
 (an.cn (!(r1.toList == (⟨#[115, 116, 111, 114, 101]⟩ : ByteArray).toList))
 (an.lf out (0, 5))
 (an.lf out (1, 0)))
 (an.jp (bif (!(r1.toList == (⟨#[114, 101, 115, 111, 117, 114, 99, 101]⟩ : ByteArray).toList)) then (!(r1.toList == (⟨#[113, 117, 101, 117, 101]⟩ : ByteArray).toList))
 else false) (fun j => (an.cn (!(r1.toList == (⟨#[114, 101, 115, 111, 117, 114, 99, 101]⟩ : ByteArray).toList))
 (an.ap j (!(r1.toList == (⟨#[113, 117, 101, 117, 101]⟩ : ByteArray).toList)))
 (an.ap j false))) (fun b3 =>
 (an.cn b3
 (an.lf out (0, 5))
 (an.lf out (1, 0))))))))))))
def F_R14_leaf  (L : Nat) (a0 : api_Env) (a1 : api_Expr) : Option (Int × Int) := T_R14_leaf (anO _) L a0 a1 some
theorem e51  (L : Nat) (a0 : api_Env) (a1 : api_Expr) (kk : PV → Prop) : EW (O51 L) L 9 (RS Tryz.f51) c51 [.agg (enapi_Env a0), .agg (enapi_Expr a1)] kk = ob (F_R14_leaf L a0 a1) (fun (x : (Int × Int)) => kk (.tup [I x.1, I x.2])) := by
  refine Eq.trans (b := T_R14_leaf anP L a0 a1 (fun (x : (Int × Int)) => kk (.tup [I x.1, I x.2]))) (by kernel_rfl) ?_
  generalize (fun (x : (Int × Int)) => kk (.tup [I x.1, I x.2])) = Q
  unfold F_R14_leaf T_R14_leaf
  dsimp only [anP, anO]
  try simp only [y1, y2, y3, y4, y5 Q, y6, y7, y8 Q, y9, z1, z2, z3, z4]
theorem h51   (L : Nat) (a0 : api_Env) (a1 : api_Expr) (r : (Int × Int)) (h : F_R14_leaf L a0 a1 = some r) : Holds Tryz.prog 51 [.agg (enapi_Env a0), .agg (enapi_Expr a1)] (.tup [I r.1, I r.2]) :=
  hE grwOK (s51  L) mixed Tryz.func51 (by kernel_rfl : cFn Tryz.prog inl Tryz.f51 = some c51) (er := fun (x : (Int × Int)) => .tup [I x.1, I x.2]) (by kernel_rfl) (e51 L a0 a1) h

/-! ### simulator/simulatorref14.measured -/
noncomputable def c87 : EC := (cFn Tryz.prog inl Tryz.f87).getD .stop
def O87  (L : Nat) : Oracle := noC
theorem s87   (L : Nat) : SoundC Tryz.prog (O87 L) := (noC_sound Tryz.prog)
def T_R14_measured {A : Type} (an : An A)  (L : Nat) (a0 : Int) (out : Bool → A) : A :=
 (an.jp (bif (a0 == 1) then true
 else (a0 == 3)) (fun j => (an.cn (a0 == 1)
 (an.ap j true)
 (an.ap j (a0 == 3)))) (fun b1 =>
 (an.lf out b1)))
def F_R14_measured  (L : Nat) (a0 : Int) : Option Bool := T_R14_measured (anO _) L a0 some
theorem e87  (L : Nat) (a0 : Int) (kk : PV → Prop) : EW (O87 L) L 9 (RS Tryz.f87) c87 [I a0] kk = ob (F_R14_measured L a0) (fun (x : Bool) => kk (B x)) := by
  refine Eq.trans (b := T_R14_measured anP L a0 (fun (x : Bool) => kk (B x))) (by kernel_rfl) ?_
  generalize (fun (x : Bool) => kk (B x)) = Q
  unfold F_R14_measured T_R14_measured
  dsimp only [anP, anO]
  try simp only [y1, y2, y3, y4, y5 Q, y6, y7, y8 Q, y9, z1, z2, z3, z4]
theorem h87   (L : Nat) (a0 : Int) (r : Bool) (h : F_R14_measured L a0 = some r) : Holds Tryz.prog 87 [I a0] (B r) :=
  hE grwOK (s87  L) mixed Tryz.func87 (by kernel_rfl : cFn Tryz.prog inl Tryz.f87 = some c87) (er := fun (x : Bool) => B x) (by kernel_rfl) (e87 L a0) h

/-! ### simulator/simulatorref14.unary -/
noncomputable def c52 : EC := (cFn Tryz.prog inl Tryz.f52).getD .stop
def O52  (L : Nat) : Oracle := (orc 87 (A1 (fun (x : Bool) => B x) (cI .i64) (F_R14_measured L)) noC)
theorem s52   (L : Nat) : SoundC Tryz.prog (O52 L) := (orc_sound (a1 _ (h87 L)) (noC_sound Tryz.prog))
def T_R14_unary {A : Type} (an : An A)  (L : Nat) (a0 : Int) (a1 : Int) (out : Int → A) : A :=
 (an.jb (bif (a0 == 5) then (Option.bind (F_R14_measured L a1) fun r2 =>
 (some r2))
 else (some false)) (fun j => (an.cn (a0 == 5)
 (an.bd (F_R14_measured L a1) fun r3 =>
 (an.lf j r3))
 (an.lf j false))) (fun b1 =>
 (an.cn b1
 (an.lf out a1)
 (an.jp (bif (a0 == 6) then (a1 == 2)
 else false) (fun j => (an.cn (a0 == 6)
 (an.ap j (a1 == 2))
 (an.ap j false))) (fun b4 =>
 (an.cn b4
 (an.lf out 2)
 (an.jp (bif (a0 == 7) then (a1 == 1)
 else false) (fun j => (an.cn (a0 == 7)
 (an.ap j (a1 == 1))
 (an.ap j false))) (fun b5 =>
 (an.cn b5
 (an.lf out 3)
 (an.jp (bif (a0 == 8) then (a1 == 3)
 else false) (fun j => (an.cn (a0 == 8)
 (an.ap j (a1 == 3))
 (an.ap j false))) (fun b6 =>
 (an.cn b6
 (an.lf out 1)
 (an.lf out 0)))))))))))))
def F_R14_unary  (L : Nat) (a0 : Int) (a1 : Int) : Option Int := T_R14_unary (anO _) L a0 a1 some
theorem e52  (L : Nat) (a0 : Int) (a1 : Int) (kk : PV → Prop) : EW (O52 L) L 9 (RS Tryz.f52) c52 [I a0, I a1] kk = ob (F_R14_unary L a0 a1) (fun (x : Int) => kk (I x)) := by
  refine Eq.trans (b := T_R14_unary anP L a0 a1 (fun (x : Int) => kk (I x))) (by kernel_rfl) ?_
  generalize (fun (x : Int) => kk (I x)) = Q
  unfold F_R14_unary T_R14_unary
  dsimp only [anP, anO]
  try simp only [y1, y2, y3, y4, y5 Q, y6, y7, y8 Q, y9, z1, z2, z3, z4]
theorem h52   (L : Nat) (a0 : Int) (a1 : Int) (r : Int) (h : F_R14_unary L a0 a1 = some r) : Holds Tryz.prog 52 [I a0, I a1] (I r) :=
  hE grwOK (s52  L) mixed Tryz.func52 (by kernel_rfl : cFn Tryz.prog inl Tryz.f52 = some c52) (er := fun (x : Int) => I x) (by kernel_rfl) (e52 L a0 a1) h

/-! ### simulator/simulatorref14.binary -/
noncomputable def c53 : EC := (cFn Tryz.prog inl Tryz.f53).getD .stop
def O53  (L : Nat) : Oracle := (orc 87 (A1 (fun (x : Bool) => B x) (cI .i64) (F_R14_measured L)) noC)
theorem s53   (L : Nat) : SoundC Tryz.prog (O53 L) := (orc_sound (a1 _ (h87 L)) (noC_sound Tryz.prog))
def T_R14_binary {A : Type} (an : An A)  (L : Nat) (a0 : Int) (a1 : Int) (a2 : Int) (out : Int → A) : A :=
 (an.cn (a0 == 9)
 (an.cn (a0 == 9)
 (an.jb (bif (a1 == a2) then (Option.bind (F_R14_measured L a1) fun r2 =>
 (some r2))
 else (some false)) (fun j => (an.cn (a1 == a2)
 (an.bd (F_R14_measured L a1) fun r3 =>
 (an.lf j r3))
 (an.lf j false))) (fun b1 =>
 (an.cn b1
 (an.lf out a1)
 (an.lf out 0))))
 (an.cn (a0 == 11)
 (an.jb (bif (a1 == 1) then (Option.bind (F_R14_measured L a2) fun r5 =>
 (some r5))
 else (some false)) (fun j => (an.cn (a1 == 1)
 (an.bd (F_R14_measured L a2) fun r6 =>
 (an.lf j r6))
 (an.lf j false))) (fun b4 =>
 (an.cn b4
 (an.lf out a2)
 (an.jp (bif (a1 == 3) then (a2 == 1)
 else false) (fun j => (an.cn (a1 == 3)
 (an.ap j (a2 == 1))
 (an.ap j false))) (fun b7 =>
 (an.cn b7
 (an.lf out a1)
 (an.lf out 0)))))))
 (an.cn (a0 == 12)
 (an.bd (F_R14_measured L a1) fun r8 =>
 (an.jp (bif r8 then (a2 == 1)
 else false) (fun j => (an.cn r8
 (an.ap j (a2 == 1))
 (an.ap j false))) (fun b9 =>
 (an.cn b9
 (an.lf out a1)
 (an.jp (bif (a1 == 3) then (a2 == 3)
 else false) (fun j => (an.cn (a1 == 3)
 (an.ap j (a2 == 3))
 (an.ap j false))) (fun b10 =>
 (an.cn b10
 (an.lf out 1)
 (an.lf out 0))))))))
 (an.cn (a0 == 14)
 (an.cn (a0 == 14)
 (an.cn (a1 == a2)
 (an.lf out 2)
 (an.lf out 0))
 (an.cn (a0 == 16)
 (an.cn (a0 == 16)
 (an.jb (bif (a1 == a2) then (Option.bind (F_R14_measured L a1) fun r12 =>
 (some r12))
 else (some false)) (fun j => (an.cn (a1 == a2)
 (an.bd (F_R14_measured L a1) fun r13 =>
 (an.lf j r13))
 (an.lf j false))) (fun b11 =>
 (an.cn b11
 (an.lf out 2)
 (an.lf out 0))))
 (an.cn (a0 == 18)
 (an.cn (a0 == 18)
 (an.jp (bif (a1 == a2) then (a1 == 2)
 else false) (fun j => (an.cn (a1 == a2)
 (an.ap j (a1 == 2))
 (an.ap j false))) (fun b14 =>
 (an.cn b14
 (an.lf out 2)
 (an.lf out 0))))
 (an.lf out 0))
 (an.cn (a0 == 19)
 (an.jp (bif (a1 == a2) then (a1 == 2)
 else false) (fun j => (an.cn (a1 == a2)
 (an.ap j (a1 == 2))
 (an.ap j false))) (fun b15 =>
 (an.cn b15
 (an.lf out 2)
 (an.lf out 0))))
 (an.lf out 0))))
 (an.cn (a0 == 17)
 (an.jb (bif (a1 == a2) then (Option.bind (F_R14_measured L a1) fun r17 =>
 (some r17))
 else (some false)) (fun j => (an.cn (a1 == a2)
 (an.bd (F_R14_measured L a1) fun r18 =>
 (an.lf j r18))
 (an.lf j false))) (fun b16 =>
 (an.cn b16
 (an.lf out 2)
 (an.lf out 0))))
 (an.cn (a0 == 18)
 (an.cn (a0 == 18)
 (an.jp (bif (a1 == a2) then (a1 == 2)
 else false) (fun j => (an.cn (a1 == a2)
 (an.ap j (a1 == 2))
 (an.ap j false))) (fun b19 =>
 (an.cn b19
 (an.lf out 2)
 (an.lf out 0))))
 (an.lf out 0))
 (an.cn (a0 == 19)
 (an.jp (bif (a1 == a2) then (a1 == 2)
 else false) (fun j => (an.cn (a1 == a2)
 (an.ap j (a1 == 2))
 (an.ap j false))) (fun b20 =>
 (an.cn b20
 (an.lf out 2)
 (an.lf out 0))))
 (an.lf out 0))))))
 (an.cn (a0 == 15)
 (an.cn (a1 == a2)
 (an.lf out 2)
 (an.lf out 0))
 (an.cn (a0 == 16)
 (an.cn (a0 == 16)
 (an.jb (bif (a1 == a2) then (Option.bind (F_R14_measured L a1) fun r22 =>
 (some r22))
 else (some false)) (fun j => (an.cn (a1 == a2)
 (an.bd (F_R14_measured L a1) fun r23 =>
 (an.lf j r23))
 (an.lf j false))) (fun b21 =>
 (an.cn b21
 (an.lf out 2)
 (an.lf out 0))))
 (an.cn (a0 == 18)
 (an.cn (a0 == 18)
 (an.jp (bif (a1 == a2) then (a1 == 2)
 else false) (fun j => (an.cn (a1 == a2)
 (an.ap j (a1 == 2))
 (an.ap j false))) (fun b24 =>
 (an.cn b24
 (an.lf out 2)
 (an.lf out 0))))
 (an.lf out 0))
 (an.cn (a0 == 19)
 (an.jp (bif (a1 == a2) then (a1 == 2)
 else false) (fun j => (an.cn (a1 == a2)
 (an.ap j (a1 == 2))
 (an.ap j false))) (fun b25 =>
 (an.cn b25
 (an.lf out 2)
 (an.lf out 0))))
 (an.lf out 0))))
 (an.cn (a0 == 17)
 (an.jb (bif (a1 == a2) then (Option.bind (F_R14_measured L a1) fun r27 =>
 (some r27))
 else (some false)) (fun j => (an.cn (a1 == a2)
 (an.bd (F_R14_measured L a1) fun r28 =>
 (an.lf j r28))
 (an.lf j false))) (fun b26 =>
 (an.cn b26
 (an.lf out 2)
 (an.lf out 0))))
 (an.cn (a0 == 18)
 (an.cn (a0 == 18)
 (an.jp (bif (a1 == a2) then (a1 == 2)
 else false) (fun j => (an.cn (a1 == a2)
 (an.ap j (a1 == 2))
 (an.ap j false))) (fun b29 =>
 (an.cn b29
 (an.lf out 2)
 (an.lf out 0))))
 (an.lf out 0))
 (an.cn (a0 == 19)
 (an.jp (bif (a1 == a2) then (a1 == 2)
 else false) (fun j => (an.cn (a1 == a2)
 (an.ap j (a1 == 2))
 (an.ap j false))) (fun b30 =>
 (an.cn b30
 (an.lf out 2)
 (an.lf out 0))))
 (an.lf out 0))))))))))
 (an.cn (a0 == 10)
 (an.cn (a0 == 10)
 (an.jb (bif (a1 == a2) then (Option.bind (F_R14_measured L a1) fun r32 =>
 (some r32))
 else (some false)) (fun j => (an.cn (a1 == a2)
 (an.bd (F_R14_measured L a1) fun r33 =>
 (an.lf j r33))
 (an.lf j false))) (fun b31 =>
 (an.cn b31
 (an.lf out a1)
 (an.lf out 0))))
 (an.cn (a0 == 11)
 (an.jb (bif (a1 == 1) then (Option.bind (F_R14_measured L a2) fun r35 =>
 (some r35))
 else (some false)) (fun j => (an.cn (a1 == 1)
 (an.bd (F_R14_measured L a2) fun r36 =>
 (an.lf j r36))
 (an.lf j false))) (fun b34 =>
 (an.cn b34
 (an.lf out a2)
 (an.jp (bif (a1 == 3) then (a2 == 1)
 else false) (fun j => (an.cn (a1 == 3)
 (an.ap j (a2 == 1))
 (an.ap j false))) (fun b37 =>
 (an.cn b37
 (an.lf out a1)
 (an.lf out 0)))))))
 (an.cn (a0 == 12)
 (an.bd (F_R14_measured L a1) fun r38 =>
 (an.jp (bif r38 then (a2 == 1)
 else false) (fun j => (an.cn r38
 (an.ap j (a2 == 1))
 (an.ap j false))) (fun b39 =>
 (an.cn b39
 (an.lf out a1)
 (an.jp (bif (a1 == 3) then (a2 == 3)
 else false) (fun j => (an.cn (a1 == 3)
 (an.ap j (a2 == 3))
 (an.ap j false))) (fun b40 =>
 (an.cn b40
 (an.lf out 1)
 (an.lf out 0))))))))
 (an.cn (a0 == 14)
 (an.cn (a0 == 14)
 (an.cn (a1 == a2)
 (an.lf out 2)
 (an.lf out 0))
 (an.cn (a0 == 16)
 (an.cn (a0 == 16)
 (an.jb (bif (a1 == a2) then (Option.bind (F_R14_measured L a1) fun r42 =>
 (some r42))
 else (some false)) (fun j => (an.cn (a1 == a2)
 (an.bd (F_R14_measured L a1) fun r43 =>
 (an.lf j r43))
 (an.lf j false))) (fun b41 =>
 (an.cn b41
 (an.lf out 2)
 (an.lf out 0))))
 (an.cn (a0 == 18)
 (an.cn (a0 == 18)
 (an.jp (bif (a1 == a2) then (a1 == 2)
 else false) (fun j => (an.cn (a1 == a2)
 (an.ap j (a1 == 2))
 (an.ap j false))) (fun b44 =>
 (an.cn b44
 (an.lf out 2)
 (an.lf out 0))))
 (an.lf out 0))
 (an.cn (a0 == 19)
 (an.jp (bif (a1 == a2) then (a1 == 2)
 else false) (fun j => (an.cn (a1 == a2)
 (an.ap j (a1 == 2))
 (an.ap j false))) (fun b45 =>
 (an.cn b45
 (an.lf out 2)
 (an.lf out 0))))
 (an.lf out 0))))
 (an.cn (a0 == 17)
 (an.jb (bif (a1 == a2) then (Option.bind (F_R14_measured L a1) fun r47 =>
 (some r47))
 else (some false)) (fun j => (an.cn (a1 == a2)
 (an.bd (F_R14_measured L a1) fun r48 =>
 (an.lf j r48))
 (an.lf j false))) (fun b46 =>
 (an.cn b46
 (an.lf out 2)
 (an.lf out 0))))
 (an.cn (a0 == 18)
 (an.cn (a0 == 18)
 (an.jp (bif (a1 == a2) then (a1 == 2)
 else false) (fun j => (an.cn (a1 == a2)
 (an.ap j (a1 == 2))
 (an.ap j false))) (fun b49 =>
 (an.cn b49
 (an.lf out 2)
 (an.lf out 0))))
 (an.lf out 0))
 (an.cn (a0 == 19)
 (an.jp (bif (a1 == a2) then (a1 == 2)
 else false) (fun j => (an.cn (a1 == a2)
 (an.ap j (a1 == 2))
 (an.ap j false))) (fun b50 =>
 (an.cn b50
 (an.lf out 2)
 (an.lf out 0))))
 (an.lf out 0))))))
 (an.cn (a0 == 15)
 (an.cn (a1 == a2)
 (an.lf out 2)
 (an.lf out 0))
 (an.cn (a0 == 16)
 (an.cn (a0 == 16)
 (an.jb (bif (a1 == a2) then (Option.bind (F_R14_measured L a1) fun r52 =>
 (some r52))
 else (some false)) (fun j => (an.cn (a1 == a2)
 (an.bd (F_R14_measured L a1) fun r53 =>
 (an.lf j r53))
 (an.lf j false))) (fun b51 =>
 (an.cn b51
 (an.lf out 2)
 (an.lf out 0))))
 (an.cn (a0 == 18)
 (an.cn (a0 == 18)
 (an.jp (bif (a1 == a2) then (a1 == 2)
 else false) (fun j => (an.cn (a1 == a2)
 (an.ap j (a1 == 2))
 (an.ap j false))) (fun b54 =>
 (an.cn b54
 (an.lf out 2)
 (an.lf out 0))))
 (an.lf out 0))
 (an.cn (a0 == 19)
 (an.jp (bif (a1 == a2) then (a1 == 2)
 else false) (fun j => (an.cn (a1 == a2)
 (an.ap j (a1 == 2))
 (an.ap j false))) (fun b55 =>
 (an.cn b55
 (an.lf out 2)
 (an.lf out 0))))
 (an.lf out 0))))
 (an.cn (a0 == 17)
 (an.jb (bif (a1 == a2) then (Option.bind (F_R14_measured L a1) fun r57 =>
 (some r57))
 else (some false)) (fun j => (an.cn (a1 == a2)
 (an.bd (F_R14_measured L a1) fun r58 =>
 (an.lf j r58))
 (an.lf j false))) (fun b56 =>
 (an.cn b56
 (an.lf out 2)
 (an.lf out 0))))
 (an.cn (a0 == 18)
 (an.cn (a0 == 18)
 (an.jp (bif (a1 == a2) then (a1 == 2)
 else false) (fun j => (an.cn (a1 == a2)
 (an.ap j (a1 == 2))
 (an.ap j false))) (fun b59 =>
 (an.cn b59
 (an.lf out 2)
 (an.lf out 0))))
 (an.lf out 0))
 (an.cn (a0 == 19)
 (an.jp (bif (a1 == a2) then (a1 == 2)
 else false) (fun j => (an.cn (a1 == a2)
 (an.ap j (a1 == 2))
 (an.ap j false))) (fun b60 =>
 (an.cn b60
 (an.lf out 2)
 (an.lf out 0))))
 (an.lf out 0))))))))))
 (an.cn (a0 == 13)
 (an.cn (a0 == 13)
 (an.jb (bif (a1 == a2) then (Option.bind (F_R14_measured L a1) fun r62 =>
 (some r62))
 else (some false)) (fun j => (an.cn (a1 == a2)
 (an.bd (F_R14_measured L a1) fun r63 =>
 (an.lf j r63))
 (an.lf j false))) (fun b61 =>
 (an.cn b61
 (an.lf out a1)
 (an.lf out 0))))
 (an.cn (a0 == 11)
 (an.jb (bif (a1 == 1) then (Option.bind (F_R14_measured L a2) fun r65 =>
 (some r65))
 else (some false)) (fun j => (an.cn (a1 == 1)
 (an.bd (F_R14_measured L a2) fun r66 =>
 (an.lf j r66))
 (an.lf j false))) (fun b64 =>
 (an.cn b64
 (an.lf out a2)
 (an.jp (bif (a1 == 3) then (a2 == 1)
 else false) (fun j => (an.cn (a1 == 3)
 (an.ap j (a2 == 1))
 (an.ap j false))) (fun b67 =>
 (an.cn b67
 (an.lf out a1)
 (an.lf out 0)))))))
 (an.cn (a0 == 12)
 (an.bd (F_R14_measured L a1) fun r68 =>
 (an.jp (bif r68 then (a2 == 1)
 else false) (fun j => (an.cn r68
 (an.ap j (a2 == 1))
 (an.ap j false))) (fun b69 =>
 (an.cn b69
 (an.lf out a1)
 (an.jp (bif (a1 == 3) then (a2 == 3)
 else false) (fun j => (an.cn (a1 == 3)
 (an.ap j (a2 == 3))
 (an.ap j false))) (fun b70 =>
 (an.cn b70
 (an.lf out 1)
 (an.lf out 0))))))))
 (an.cn (a0 == 14)
 (an.cn (a0 == 14)
 (an.cn (a1 == a2)
 (an.lf out 2)
 (an.lf out 0))
 (an.cn (a0 == 16)
 (an.cn (a0 == 16)
 (an.jb (bif (a1 == a2) then (Option.bind (F_R14_measured L a1) fun r72 =>
 (some r72))
 else (some false)) (fun j => (an.cn (a1 == a2)
 (an.bd (F_R14_measured L a1) fun r73 =>
 (an.lf j r73))
 (an.lf j false))) (fun b71 =>
 (an.cn b71
 (an.lf out 2)
 (an.lf out 0))))
 (an.cn (a0 == 18)
 (an.cn (a0 == 18)
 (an.jp (bif (a1 == a2) then (a1 == 2)
 else false) (fun j => (an.cn (a1 == a2)
 (an.ap j (a1 == 2))
 (an.ap j false))) (fun b74 =>
 (an.cn b74
 (an.lf out 2)
 (an.lf out 0))))
 (an.lf out 0))
 (an.cn (a0 == 19)
 (an.jp (bif (a1 == a2) then (a1 == 2)
 else false) (fun j => (an.cn (a1 == a2)
 (an.ap j (a1 == 2))
 (an.ap j false))) (fun b75 =>
 (an.cn b75
 (an.lf out 2)
 (an.lf out 0))))
 (an.lf out 0))))
 (an.cn (a0 == 17)
 (an.jb (bif (a1 == a2) then (Option.bind (F_R14_measured L a1) fun r77 =>
 (some r77))
 else (some false)) (fun j => (an.cn (a1 == a2)
 (an.bd (F_R14_measured L a1) fun r78 =>
 (an.lf j r78))
 (an.lf j false))) (fun b76 =>
 (an.cn b76
 (an.lf out 2)
 (an.lf out 0))))
 (an.cn (a0 == 18)
 (an.cn (a0 == 18)
 (an.jp (bif (a1 == a2) then (a1 == 2)
 else false) (fun j => (an.cn (a1 == a2)
 (an.ap j (a1 == 2))
 (an.ap j false))) (fun b79 =>
 (an.cn b79
 (an.lf out 2)
 (an.lf out 0))))
 (an.lf out 0))
 (an.cn (a0 == 19)
 (an.jp (bif (a1 == a2) then (a1 == 2)
 else false) (fun j => (an.cn (a1 == a2)
 (an.ap j (a1 == 2))
 (an.ap j false))) (fun b80 =>
 (an.cn b80
 (an.lf out 2)
 (an.lf out 0))))
 (an.lf out 0))))))
 (an.cn (a0 == 15)
 (an.cn (a1 == a2)
 (an.lf out 2)
 (an.lf out 0))
 (an.cn (a0 == 16)
 (an.cn (a0 == 16)
 (an.jb (bif (a1 == a2) then (Option.bind (F_R14_measured L a1) fun r82 =>
 (some r82))
 else (some false)) (fun j => (an.cn (a1 == a2)
 (an.bd (F_R14_measured L a1) fun r83 =>
 (an.lf j r83))
 (an.lf j false))) (fun b81 =>
 (an.cn b81
 (an.lf out 2)
 (an.lf out 0))))
 (an.cn (a0 == 18)
 (an.cn (a0 == 18)
 (an.jp (bif (a1 == a2) then (a1 == 2)
 else false) (fun j => (an.cn (a1 == a2)
 (an.ap j (a1 == 2))
 (an.ap j false))) (fun b84 =>
 (an.cn b84
 (an.lf out 2)
 (an.lf out 0))))
 (an.lf out 0))
 (an.cn (a0 == 19)
 (an.jp (bif (a1 == a2) then (a1 == 2)
 else false) (fun j => (an.cn (a1 == a2)
 (an.ap j (a1 == 2))
 (an.ap j false))) (fun b85 =>
 (an.cn b85
 (an.lf out 2)
 (an.lf out 0))))
 (an.lf out 0))))
 (an.cn (a0 == 17)
 (an.jb (bif (a1 == a2) then (Option.bind (F_R14_measured L a1) fun r87 =>
 (some r87))
 else (some false)) (fun j => (an.cn (a1 == a2)
 (an.bd (F_R14_measured L a1) fun r88 =>
 (an.lf j r88))
 (an.lf j false))) (fun b86 =>
 (an.cn b86
 (an.lf out 2)
 (an.lf out 0))))
 (an.cn (a0 == 18)
 (an.cn (a0 == 18)
 (an.jp (bif (a1 == a2) then (a1 == 2)
 else false) (fun j => (an.cn (a1 == a2)
 (an.ap j (a1 == 2))
 (an.ap j false))) (fun b89 =>
 (an.cn b89
 (an.lf out 2)
 (an.lf out 0))))
 (an.lf out 0))
 (an.cn (a0 == 19)
 (an.jp (bif (a1 == a2) then (a1 == 2)
 else false) (fun j => (an.cn (a1 == a2)
 (an.ap j (a1 == 2))
 (an.ap j false))) (fun b90 =>
 (an.cn b90
 (an.lf out 2)
 (an.lf out 0))))
 (an.lf out 0))))))))))
 (an.cn (a0 == 20)
 (an.cn (a0 == 20)
 (an.jb (bif (a1 == a2) then (Option.bind (F_R14_measured L a1) fun r92 =>
 (some r92))
 else (some false)) (fun j => (an.cn (a1 == a2)
 (an.bd (F_R14_measured L a1) fun r93 =>
 (an.lf j r93))
 (an.lf j false))) (fun b91 =>
 (an.cn b91
 (an.lf out a1)
 (an.lf out 0))))
 (an.cn (a0 == 11)
 (an.jb (bif (a1 == 1) then (Option.bind (F_R14_measured L a2) fun r95 =>
 (some r95))
 else (some false)) (fun j => (an.cn (a1 == 1)
 (an.bd (F_R14_measured L a2) fun r96 =>
 (an.lf j r96))
 (an.lf j false))) (fun b94 =>
 (an.cn b94
 (an.lf out a2)
 (an.jp (bif (a1 == 3) then (a2 == 1)
 else false) (fun j => (an.cn (a1 == 3)
 (an.ap j (a2 == 1))
 (an.ap j false))) (fun b97 =>
 (an.cn b97
 (an.lf out a1)
 (an.lf out 0)))))))
 (an.cn (a0 == 12)
 (an.bd (F_R14_measured L a1) fun r98 =>
 (an.jp (bif r98 then (a2 == 1)
 else false) (fun j => (an.cn r98
 (an.ap j (a2 == 1))
 (an.ap j false))) (fun b99 =>
 (an.cn b99
 (an.lf out a1)
 (an.jp (bif (a1 == 3) then (a2 == 3)
 else false) (fun j => (an.cn (a1 == 3)
 (an.ap j (a2 == 3))
 (an.ap j false))) (fun b100 =>
 (an.cn b100
 (an.lf out 1)
 (an.lf out 0))))))))
 (an.cn (a0 == 14)
 (an.cn (a0 == 14)
 (an.cn (a1 == a2)
 (an.lf out 2)
 (an.lf out 0))
 (an.cn (a0 == 16)
 (an.cn (a0 == 16)
 (an.jb (bif (a1 == a2) then (Option.bind (F_R14_measured L a1) fun r102 =>
 (some r102))
 else (some false)) (fun j => (an.cn (a1 == a2)
 (an.bd (F_R14_measured L a1) fun r103 =>
 (an.lf j r103))
 (an.lf j false))) (fun b101 =>
 (an.cn b101
 (an.lf out 2)
 (an.lf out 0))))
 (an.cn (a0 == 18)
 (an.cn (a0 == 18)
 (an.jp (bif (a1 == a2) then (a1 == 2)
 else false) (fun j => (an.cn (a1 == a2)
 (an.ap j (a1 == 2))
 (an.ap j false))) (fun b104 =>
 (an.cn b104
 (an.lf out 2)
 (an.lf out 0))))
 (an.lf out 0))
 (an.cn (a0 == 19)
 (an.jp (bif (a1 == a2) then (a1 == 2)
 else false) (fun j => (an.cn (a1 == a2)
 (an.ap j (a1 == 2))
 (an.ap j false))) (fun b105 =>
 (an.cn b105
 (an.lf out 2)
 (an.lf out 0))))
 (an.lf out 0))))
 (an.cn (a0 == 17)
 (an.jb (bif (a1 == a2) then (Option.bind (F_R14_measured L a1) fun r107 =>
 (some r107))
 else (some false)) (fun j => (an.cn (a1 == a2)
 (an.bd (F_R14_measured L a1) fun r108 =>
 (an.lf j r108))
 (an.lf j false))) (fun b106 =>
 (an.cn b106
 (an.lf out 2)
 (an.lf out 0))))
 (an.cn (a0 == 18)
 (an.cn (a0 == 18)
 (an.jp (bif (a1 == a2) then (a1 == 2)
 else false) (fun j => (an.cn (a1 == a2)
 (an.ap j (a1 == 2))
 (an.ap j false))) (fun b109 =>
 (an.cn b109
 (an.lf out 2)
 (an.lf out 0))))
 (an.lf out 0))
 (an.cn (a0 == 19)
 (an.jp (bif (a1 == a2) then (a1 == 2)
 else false) (fun j => (an.cn (a1 == a2)
 (an.ap j (a1 == 2))
 (an.ap j false))) (fun b110 =>
 (an.cn b110
 (an.lf out 2)
 (an.lf out 0))))
 (an.lf out 0))))))
 (an.cn (a0 == 15)
 (an.cn (a1 == a2)
 (an.lf out 2)
 (an.lf out 0))
 (an.cn (a0 == 16)
 (an.cn (a0 == 16)
 (an.jb (bif (a1 == a2) then (Option.bind (F_R14_measured L a1) fun r112 =>
 (some r112))
 else (some false)) (fun j => (an.cn (a1 == a2)
 (an.bd (F_R14_measured L a1) fun r113 =>
 (an.lf j r113))
 (an.lf j false))) (fun b111 =>
 (an.cn b111
 (an.lf out 2)
 (an.lf out 0))))
 (an.cn (a0 == 18)
 (an.cn (a0 == 18)
 (an.jp (bif (a1 == a2) then (a1 == 2)
 else false) (fun j => (an.cn (a1 == a2)
 (an.ap j (a1 == 2))
 (an.ap j false))) (fun b114 =>
 (an.cn b114
 (an.lf out 2)
 (an.lf out 0))))
 (an.lf out 0))
 (an.cn (a0 == 19)
 (an.jp (bif (a1 == a2) then (a1 == 2)
 else false) (fun j => (an.cn (a1 == a2)
 (an.ap j (a1 == 2))
 (an.ap j false))) (fun b115 =>
 (an.cn b115
 (an.lf out 2)
 (an.lf out 0))))
 (an.lf out 0))))
 (an.cn (a0 == 17)
 (an.jb (bif (a1 == a2) then (Option.bind (F_R14_measured L a1) fun r117 =>
 (some r117))
 else (some false)) (fun j => (an.cn (a1 == a2)
 (an.bd (F_R14_measured L a1) fun r118 =>
 (an.lf j r118))
 (an.lf j false))) (fun b116 =>
 (an.cn b116
 (an.lf out 2)
 (an.lf out 0))))
 (an.cn (a0 == 18)
 (an.cn (a0 == 18)
 (an.jp (bif (a1 == a2) then (a1 == 2)
 else false) (fun j => (an.cn (a1 == a2)
 (an.ap j (a1 == 2))
 (an.ap j false))) (fun b119 =>
 (an.cn b119
 (an.lf out 2)
 (an.lf out 0))))
 (an.lf out 0))
 (an.cn (a0 == 19)
 (an.jp (bif (a1 == a2) then (a1 == 2)
 else false) (fun j => (an.cn (a1 == a2)
 (an.ap j (a1 == 2))
 (an.ap j false))) (fun b120 =>
 (an.cn b120
 (an.lf out 2)
 (an.lf out 0))))
 (an.lf out 0))))))))))
 (an.cn (a0 == 21)
 (an.jb (bif (a1 == a2) then (Option.bind (F_R14_measured L a1) fun r122 =>
 (some r122))
 else (some false)) (fun j => (an.cn (a1 == a2)
 (an.bd (F_R14_measured L a1) fun r123 =>
 (an.lf j r123))
 (an.lf j false))) (fun b121 =>
 (an.cn b121
 (an.lf out a1)
 (an.lf out 0))))
 (an.cn (a0 == 11)
 (an.jb (bif (a1 == 1) then (Option.bind (F_R14_measured L a2) fun r125 =>
 (some r125))
 else (some false)) (fun j => (an.cn (a1 == 1)
 (an.bd (F_R14_measured L a2) fun r126 =>
 (an.lf j r126))
 (an.lf j false))) (fun b124 =>
 (an.cn b124
 (an.lf out a2)
 (an.jp (bif (a1 == 3) then (a2 == 1)
 else false) (fun j => (an.cn (a1 == 3)
 (an.ap j (a2 == 1))
 (an.ap j false))) (fun b127 =>
 (an.cn b127
 (an.lf out a1)
 (an.lf out 0)))))))
 (an.cn (a0 == 12)
 (an.bd (F_R14_measured L a1) fun r128 =>
 (an.jp (bif r128 then (a2 == 1)
 else false) (fun j => (an.cn r128
 (an.ap j (a2 == 1))
 (an.ap j false))) (fun b129 =>
 (an.cn b129
 (an.lf out a1)
 (an.jp (bif (a1 == 3) then (a2 == 3)
 else false) (fun j => (an.cn (a1 == 3)
 (an.ap j (a2 == 3))
 (an.ap j false))) (fun b130 =>
 (an.cn b130
 (an.lf out 1)
 (an.lf out 0))))))))
 (an.cn (a0 == 14)
 (an.cn (a0 == 14)
 (an.cn (a1 == a2)
 (an.lf out 2)
 (an.lf out 0))
 (an.cn (a0 == 16)
 (an.cn (a0 == 16)
 (an.jb (bif (a1 == a2) then (Option.bind (F_R14_measured L a1) fun r132 =>
 (some r132))
 else (some false)) (fun j => (an.cn (a1 == a2)
 (an.bd (F_R14_measured L a1) fun r133 =>
 (an.lf j r133))
 (an.lf j false))) (fun b131 =>
 (an.cn b131
 (an.lf out 2)
 (an.lf out 0))))
 (an.cn (a0 == 18)
 (an.cn (a0 == 18)
 (an.jp (bif (a1 == a2) then (a1 == 2)
 else false) (fun j => (an.cn (a1 == a2)
 (an.ap j (a1 == 2))
 (an.ap j false))) (fun b134 =>
 (an.cn b134
 (an.lf out 2)
 (an.lf out 0))))
 (an.lf out 0))
 (an.cn (a0 == 19)
 (an.jp (bif (a1 == a2) then (a1 == 2)
 else false) (fun j => (an.cn (a1 == a2)
 (an.ap j (a1 == 2))
 (an.ap j false))) (fun b135 =>
 (an.cn b135
 (an.lf out 2)
 (an.lf out 0))))
 (an.lf out 0))))
 (an.cn (a0 == 17)
 (an.jb (bif (a1 == a2) then (Option.bind (F_R14_measured L a1) fun r137 =>
 (some r137))
 else (some false)) (fun j => (an.cn (a1 == a2)
 (an.bd (F_R14_measured L a1) fun r138 =>
 (an.lf j r138))
 (an.lf j false))) (fun b136 =>
 (an.cn b136
 (an.lf out 2)
 (an.lf out 0))))
 (an.cn (a0 == 18)
 (an.cn (a0 == 18)
 (an.jp (bif (a1 == a2) then (a1 == 2)
 else false) (fun j => (an.cn (a1 == a2)
 (an.ap j (a1 == 2))
 (an.ap j false))) (fun b139 =>
 (an.cn b139
 (an.lf out 2)
 (an.lf out 0))))
 (an.lf out 0))
 (an.cn (a0 == 19)
 (an.jp (bif (a1 == a2) then (a1 == 2)
 else false) (fun j => (an.cn (a1 == a2)
 (an.ap j (a1 == 2))
 (an.ap j false))) (fun b140 =>
 (an.cn b140
 (an.lf out 2)
 (an.lf out 0))))
 (an.lf out 0))))))
 (an.cn (a0 == 15)
 (an.cn (a1 == a2)
 (an.lf out 2)
 (an.lf out 0))
 (an.cn (a0 == 16)
 (an.cn (a0 == 16)
 (an.jb (bif (a1 == a2) then (Option.bind (F_R14_measured L a1) fun r142 =>
 (some r142))
 else (some false)) (fun j => (an.cn (a1 == a2)
 (an.bd (F_R14_measured L a1) fun r143 =>
 (an.lf j r143))
 (an.lf j false))) (fun b141 =>
 (an.cn b141
 (an.lf out 2)
 (an.lf out 0))))
 (an.cn (a0 == 18)
 (an.cn (a0 == 18)
 (an.jp (bif (a1 == a2) then (a1 == 2)
 else false) (fun j => (an.cn (a1 == a2)
 (an.ap j (a1 == 2))
 (an.ap j false))) (fun b144 =>
 (an.cn b144
 (an.lf out 2)
 (an.lf out 0))))
 (an.lf out 0))
 (an.cn (a0 == 19)
 (an.jp (bif (a1 == a2) then (a1 == 2)
 else false) (fun j => (an.cn (a1 == a2)
 (an.ap j (a1 == 2))
 (an.ap j false))) (fun b145 =>
 (an.cn b145
 (an.lf out 2)
 (an.lf out 0))))
 (an.lf out 0))))
 (an.cn (a0 == 17)
 (an.jb (bif (a1 == a2) then (Option.bind (F_R14_measured L a1) fun r147 =>
 (some r147))
 else (some false)) (fun j => (an.cn (a1 == a2)
 (an.bd (F_R14_measured L a1) fun r148 =>
 (an.lf j r148))
 (an.lf j false))) (fun b146 =>
 (an.cn b146
 (an.lf out 2)
 (an.lf out 0))))
 (an.cn (a0 == 18)
 (an.cn (a0 == 18)
 (an.jp (bif (a1 == a2) then (a1 == 2)
 else false) (fun j => (an.cn (a1 == a2)
 (an.ap j (a1 == 2))
 (an.ap j false))) (fun b149 =>
 (an.cn b149
 (an.lf out 2)
 (an.lf out 0))))
 (an.lf out 0))
 (an.cn (a0 == 19)
 (an.jp (bif (a1 == a2) then (a1 == 2)
 else false) (fun j => (an.cn (a1 == a2)
 (an.ap j (a1 == 2))
 (an.ap j false))) (fun b150 =>
 (an.cn b150
 (an.lf out 2)
 (an.lf out 0))))
 (an.lf out 0))))))))))))))
def F_R14_binary  (L : Nat) (a0 : Int) (a1 : Int) (a2 : Int) : Option Int := T_R14_binary (anO _) L a0 a1 a2 some
theorem e53  (L : Nat) (a0 : Int) (a1 : Int) (a2 : Int) (kk : PV → Prop) : EW (O53 L) L 9 (RS Tryz.f53) c53 [I a0, I a1, I a2] kk = ob (F_R14_binary L a0 a1 a2) (fun (x : Int) => kk (I x)) := by
  refine Eq.trans (b := T_R14_binary anP L a0 a1 a2 (fun (x : Int) => kk (I x))) (by kernel_rfl) ?_
  generalize (fun (x : Int) => kk (I x)) = Q
  unfold F_R14_binary T_R14_binary
  dsimp only [anP, anO]
  try simp only [y1, y2, y3, y4, y5 Q, y6, y7, y8 Q, y9, z1, z2, z3, z4]
theorem h53   (L : Nat) (a0 : Int) (a1 : Int) (a2 : Int) (r : Int) (h : F_R14_binary L a0 a1 a2 = some r) : Holds Tryz.prog 53 [I a0, I a1, I a2] (I r) :=
  hE grwOK (s53  L) mixed Tryz.func53 (by kernel_rfl : cFn Tryz.prog inl Tryz.f53 = some c53) (er := fun (x : Int) => I x) (by kernel_rfl) (e53 L a0 a1 a2) h

/-! ### simulator/simulatorref14.typed -/
noncomputable def c28 : EC := (cFn Tryz.prog inl Tryz.f28).getD .stop
def O28 (rec28 : api_Env → api_Expr → Option (Int × Int)) (L : Nat) : Oracle := (orc 28 (A2 (fun (x : (Int × Int)) => .tup [I x.1, I x.2]) ca_api_Env ca_api_Expr rec28) (orc 51 (A2 (fun (x : (Int × Int)) => .tup [I x.1, I x.2]) ca_api_Env ca_api_Expr (F_R14_leaf L)) (orc 52 (A2 (fun (x : Int) => I x) (cI .i64) (cI .i64) (F_R14_unary L)) (orc 53 (A3 (fun (x : Int) => I x) (cI .i64) (cI .i64) (cI .i64) (F_R14_binary L)) noC))))
theorem s28 (rec28 : api_Env → api_Expr → Option (Int × Int)) (hr28 : ∀ (y0 : api_Env) (y1 : api_Expr) (r : (Int × Int)), rec28 y0 y1 = some r → Holds Tryz.prog 28 [.agg (enapi_Env y0), .agg (enapi_Expr y1)] (.tup [I r.1, I r.2])) (L : Nat) : SoundC Tryz.prog (O28 rec28 L) := (orc_sound (a2 _ hr28) (orc_sound (a2 _ (h51 L)) (orc_sound (a2 _ (h52 L)) (orc_sound (a3 _ (h53 L)) (noC_sound Tryz.prog)))))
def sh28_1 (a0 : api_Env) (a1 : api_Expr) (v1_0 : Int) (v1_1 : Int) (v1_2 : List Int) (v1_3 : Int) : St := ({ fr := [(0, .any), (1, .any), (2, .loc 2 0), (3, .loc 3 0), (4, I v1_0), (5, I v1_1), (6, .lst true (.t41 v1_2)), (7, I v1_3), (10, .any), (46, .any), (53, .any)], ob := [(2, (enapi_Env a0)), (3, (enapi_Expr a1))], base := 0 } : St)
def KK28_1 (a0 : api_Env) (a1 : api_Expr) (K : Ex → St → Prop) : Nat × (Int × Int × List Int × Int) → Prop := fun o => seln o.1 [K .ret (sh28_1 a0 a1 o.2.1 o.2.2.1 o.2.2.2.1 o.2.2.2.2), K (.exit 0) (sh28_1 a0 a1 o.2.1 o.2.2.1 o.2.2.2.1 o.2.2.2.2)]
def lb_R14_typed_1 {A : Type} (an : An A) (rec28 : api_Env → api_Expr → Option (Int × Int)) (L : Nat) (a0 : api_Env) (a1 : api_Expr) (rec : Int → Int → List Int → Int → A) (out : Nat × (Int × Int × List Int × Int) → A) (v1_0 : Int) (v1_1 : Int) (v1_2 : List Int) (v1_3 : Int) : A :=
 (an.cn (decide (v1_3 < (a1.Kids.length : Int)))
 (an.gd ((0 : Int) ≤ v1_3)
 (an.gd (v1_3 < ((a1.Kids.length : Nat) : Int))
 (an.bd (rec28 a0 (api_Expr.cp (a1.Kids.getD (Int.toNat v1_3) default))) fun r1 =>
 (an.cn (r1.2 != 0)
 (an.lf out (0, (0, r1.2, v1_2, v1_3)))
 (an.gd ((v1_2.length + [r1.1].length) * 8 ≤ 140737488355328)
 (an.gd (v1_2.length + [r1.1].length ≤ maxLen)
 (rec v1_0 v1_1 (v1_2 ++ [r1.1]) (w64 (v1_3 + 1)))))))))
 (an.lf out (1, (v1_0, v1_1, v1_2, v1_3))))
def lp_R14_typed_1 (rec28 : api_Env → api_Expr → Option (Int × Int)) (L : Nat) (a0 : api_Env) (a1 : api_Expr) : Nat → Int → Int → List Int → Int → Option (Nat × (Int × Int × List Int × Int))
  | 0, _, _, _, _ => none
  | n + 1, v1_0, v1_1, v1_2, v1_3 => lb_R14_typed_1 (anO _) rec28 L a0 a1 (lp_R14_typed_1 rec28 L a0 a1 n) some v1_0 v1_1 v1_2 v1_3
theorem ln28_1 (rec28 : api_Env → api_Expr → Option (Int × Int)) (L : Nat) (a0 : api_Env) (a1 : api_Expr) (g : Int → Int → List Int → Int → Option (Nat × (Int × Int × List Int × Int))) (Q : Nat × (Int × Int × List Int × Int) → Prop) (v1_0 : Int) (v1_1 : Int) (v1_2 : List Int) (v1_3 : Int) : lb_R14_typed_1 anP rec28 L a0 a1 (fun v1_0 v1_1 v1_2 v1_3 => ob (g v1_0 v1_1 v1_2 v1_3) Q) Q v1_0 v1_1 v1_2 v1_3 = ob (lb_R14_typed_1 (anO _) rec28 L a0 a1 g some v1_0 v1_1 v1_2 v1_3) Q := by
  unfold lb_R14_typed_1
  dsimp only [anP, anO]
  try simp only [y1, y2, y3, y4, y5 Q, y6, y7, y8 Q, y9, z1, z2, z3, z4]
theorem le28_1 (rec28 : api_Env → api_Expr → Option (Int × Int)) (L : Nat) (a0 : api_Env) (a1 : api_Expr) (n : Nat) (v1_0 : Int) (v1_1 : Int) (v1_2 : List Int) (v1_3 : Int) (K : Ex → St → Prop) : loopN (EV (O28 rec28 L) L 9 c28.r.r.r.r.l.r.r.l.l) [0, 1, 2, 3, 4, 5, 6, 7, 10, 46, 53] [2, 3] n (sh28_1 a0 a1 v1_0 v1_1 v1_2 v1_3) K = ob (lp_R14_typed_1 rec28 L a0 a1 n v1_0 v1_1 v1_2 v1_3) (fun o => KK28_1 a0 a1 K o) := by
  induction n generalizing v1_0 v1_1 v1_2 v1_3 with
  | zero => rfl
  | succ n ih =>
    refine Eq.trans (b := lb_R14_typed_1 anP rec28 L a0 a1 (fun v1_0 v1_1 v1_2 v1_3 => loopN (EV (O28 rec28 L) L 9 c28.r.r.r.r.l.r.r.l.l) [0, 1, 2, 3, 4, 5, 6, 7, 10, 46, 53] [2, 3] n (sh28_1 a0 a1 v1_0 v1_1 v1_2 v1_3) K) (KK28_1 a0 a1 K) v1_0 v1_1 v1_2 v1_3) (by kernel_rfl) ?_
    simp only [ih]
    exact ln28_1 rec28 L a0 a1 (lp_R14_typed_1 rec28 L a0 a1 n) (KK28_1 a0 a1 K) v1_0 v1_1 v1_2 v1_3
def kc28_1 (rec28 : api_Env → api_Expr → Option (Int × Int)) (L : Nat)  (kk : PV → Prop) : Ex → St → Prop := (kBlock 0 (kSeq (EV (O28 rec28 L) L 9 c28.r.r.r.r.r) (kEnd Tryz.prog (RS Tryz.f28) kk)))
theorem q28_1 (rec28 : api_Env → api_Expr → Option (Int × Int)) (L : Nat) (a0 : api_Env) (a1 : api_Expr) (kk : PV → Prop) (o1 : Nat × (Int × Int × List Int × Int)) : KK28_1 a0 a1 (kc28_1 rec28 L kk) o1 =
 (seln o1.1 [(ob (some (o1.2.1, o1.2.2.1)) (fun (x : (Int × Int)) => kk (.tup [I x.1, I x.2]))),
 (br ((o1.2.2.2.1.length : Int) == 0)
 (ob (F_R14_leaf L a0 (api_Expr.cp a1)) fun r2 =>
 (ob (some (r2.1, r2.2)) (fun (x : (Int × Int)) => kk (.tup [I x.1, I x.2]))))
 (br ((o1.2.2.2.1.length : Int) == 1)
 (gd ((0 : Int) ≤ 0)
 (gd (0 < ((o1.2.2.2.1.length : Nat) : Int))
 (ob (F_R14_unary L a1.Op (o1.2.2.2.1.getD 0 default)) fun r3 =>
 (br (r3 == 0)
 (ob (some (0, 10)) (fun (x : (Int × Int)) => kk (.tup [I x.1, I x.2])))
 (ob (some (r3, 0)) (fun (x : (Int × Int)) => kk (.tup [I x.1, I x.2])))))))
 (gd ((0 : Int) ≤ 0)
 (gd (0 < ((o1.2.2.2.1.length : Nat) : Int))
 (gd ((0 : Int) ≤ 1)
 (gd (1 < ((o1.2.2.2.1.length : Nat) : Int))
 (ob (F_R14_binary L a1.Op (o1.2.2.2.1.getD 0 default) (o1.2.2.2.1.getD 1 default)) fun r4 =>
 (br (r4 == 0)
 (ob (some (0, 10)) (fun (x : (Int × Int)) => kk (.tup [I x.1, I x.2])))
 (ob (some (r4, 0)) (fun (x : (Int × Int)) => kk (.tup [I x.1, I x.2])))))))))))]) := by kernel_rfl
def T_R14_typed {A : Type} (an : An A) (rec28 : api_Env → api_Expr → Option (Int × Int)) (L : Nat) (a0 : api_Env) (a1 : api_Expr) (out : (Int × Int) → A) : A :=
 (an.bd (lp_R14_typed_1 rec28 L a0 a1 L 0 0 [] 0) fun o1 =>
 (an.sl o1.1 [(an.lf out (o1.2.1, o1.2.2.1)),
 (an.cn ((o1.2.2.2.1.length : Int) == 0)
 (an.bd (F_R14_leaf L a0 (api_Expr.cp a1)) fun r2 =>
 (an.lf out (r2.1, r2.2)))
 (an.cn ((o1.2.2.2.1.length : Int) == 1)
 (an.gd ((0 : Int) ≤ 0)
 (an.gd (0 < ((o1.2.2.2.1.length : Nat) : Int))
 (an.bd (F_R14_unary L a1.Op (o1.2.2.2.1.getD 0 default)) fun r3 =>
 (an.cn (r3 == 0)
 (an.lf out (0, 10))
 (an.lf out (r3, 0))))))
 (an.gd ((0 : Int) ≤ 0)
 (an.gd (0 < ((o1.2.2.2.1.length : Nat) : Int))
 (an.gd ((0 : Int) ≤ 1)
 (an.gd (1 < ((o1.2.2.2.1.length : Nat) : Int))
 (an.bd (F_R14_binary L a1.Op (o1.2.2.2.1.getD 0 default) (o1.2.2.2.1.getD 1 default)) fun r4 =>
 (an.cn (r4 == 0)
 (an.lf out (0, 10))
 (an.lf out (r4, 0))))))))))]))
def B_R14_typed (rec28 : api_Env → api_Expr → Option (Int × Int)) (L : Nat) (a0 : api_Env) (a1 : api_Expr) : Option (Int × Int) := T_R14_typed (anO _) rec28 L a0 a1 some
theorem e28 (rec28 : api_Env → api_Expr → Option (Int × Int)) (L : Nat) (a0 : api_Env) (a1 : api_Expr) (kk : PV → Prop) : EW (O28 rec28 L) L 9 (RS Tryz.f28) c28 [.agg (enapi_Env a0), .agg (enapi_Expr a1)] kk = ob (B_R14_typed rec28 L a0 a1) (fun (x : (Int × Int)) => kk (.tup [I x.1, I x.2])) := by
  refine Eq.trans (b := T_R14_typed anP rec28 L a0 a1 (fun (x : (Int × Int)) => kk (.tup [I x.1, I x.2]))) ?_ ?_
  · refine Eq.trans (b := (loopN (EV (O28 rec28 L) L 9 c28.r.r.r.r.l.r.r.l.l) [0, 1, 2, 3, 4, 5, 6, 7, 10, 46, 53] [2, 3] L (sh28_1 a0 a1 0 0 [] 0) (kc28_1 rec28 L kk))) (by kernel_rfl) ?_
    unfold T_R14_typed
    dsimp only [anP]
    simp only [le28_1, q28_1]
  generalize (fun (x : (Int × Int)) => kk (.tup [I x.1, I x.2])) = Q
  unfold B_R14_typed T_R14_typed
  dsimp only [anP, anO]
  try simp only [y1, y2, y3, y4, y5 Q, y6, y7, y8 Q, y9, z1, z2, z3, z4]
theorem b28 (rec28 : api_Env → api_Expr → Option (Int × Int)) (hr28 : ∀ (y0 : api_Env) (y1 : api_Expr) (r : (Int × Int)), rec28 y0 y1 = some r → Holds Tryz.prog 28 [.agg (enapi_Env y0), .agg (enapi_Expr y1)] (.tup [I r.1, I r.2])) (L : Nat) (a0 : api_Env) (a1 : api_Expr) (r : (Int × Int)) (h : B_R14_typed rec28 L a0 a1 = some r) : Holds Tryz.prog 28 [.agg (enapi_Env a0), .agg (enapi_Expr a1)] (.tup [I r.1, I r.2]) :=
  hE grwOK (s28 rec28 hr28 L) mixed Tryz.func28 (by kernel_rfl : cFn Tryz.prog inl Tryz.f28 = some c28) (er := fun (x : (Int × Int)) => .tup [I x.1, I x.2]) (by kernel_rfl) (e28 rec28 L a0 a1) h
def F_R14_typed : Nat → api_Env → api_Expr → Option (Int × Int)
  | 0, _, _ => none
  | L + 1, a0, a1 => B_R14_typed (F_R14_typed L) L a0 a1
theorem hall28 : ∀ L, (∀ (y0 : api_Env) (y1 : api_Expr) (r : (Int × Int)), F_R14_typed L y0 y1 = some r → Holds Tryz.prog 28 [.agg (enapi_Env y0), .agg (enapi_Expr y1)] (.tup [I r.1, I r.2])) := by
  intro L
  induction L with
  | zero => exact fun _ _ r h => (by cases h)
  | succ L ih =>
    have i28 := ih
    exact fun y0 y1 r h => b28 (F_R14_typed L) i28 L y0 y1 r h
theorem h28 (L : Nat) : ∀ (y0 : api_Env) (y1 : api_Expr) (r : (Int × Int)), F_R14_typed L y0 y1 = some r → Holds Tryz.prog 28 [.agg (enapi_Env y0), .agg (enapi_Expr y1)] (.tup [I r.1, I r.2]) := hall28 L

/-! ### simulator/simulatorref14.Expr -/
noncomputable def c13 : EC := (cFn Tryz.prog inl Tryz.f13).getD .stop
def O13  (L : Nat) : Oracle := (orc 23 (A1 (fun (x : Int) => I x) ca_api_Expr (F_R09_Check L)) (orc 28 (A2 (fun (x : (Int × Int)) => .tup [I x.1, I x.2]) ca_api_Env ca_api_Expr (F_R14_typed L)) noC))
theorem s13   (L : Nat) : SoundC Tryz.prog (O13 L) := (orc_sound (a1 _ (h23 L)) (orc_sound (a2 _ (h28 L)) (noC_sound Tryz.prog)))
def T_R14_Expr {A : Type} (an : An A)  (L : Nat) (a0 : api_Env) (a1 : api_Expr) (out : (Int × Int) → A) : A :=
 (an.bd (F_R09_Check L (api_Expr.cp a1)) fun r1 =>
 (an.cn (r1 != 0)
 (an.lf out (0, r1))
 (an.bd (F_R14_typed L a0 (api_Expr.cp a1)) fun r2 =>
 (an.lf out (r2.1, r2.2)))))
def F_R14_Expr  (L : Nat) (a0 : api_Env) (a1 : api_Expr) : Option (Int × Int) := T_R14_Expr (anO _) L a0 a1 some
theorem e13  (L : Nat) (a0 : api_Env) (a1 : api_Expr) (kk : PV → Prop) : EW (O13 L) L 9 (RS Tryz.f13) c13 [.agg (enapi_Env a0), .agg (enapi_Expr a1)] kk = ob (F_R14_Expr L a0 a1) (fun (x : (Int × Int)) => kk (.tup [I x.1, I x.2])) := by
  refine Eq.trans (b := T_R14_Expr anP L a0 a1 (fun (x : (Int × Int)) => kk (.tup [I x.1, I x.2]))) (by kernel_rfl) ?_
  generalize (fun (x : (Int × Int)) => kk (.tup [I x.1, I x.2])) = Q
  unfold F_R14_Expr T_R14_Expr
  dsimp only [anP, anO]
  try simp only [y1, y2, y3, y4, y5 Q, y6, y7, y8 Q, y9, z1, z2, z3, z4]
theorem h13   (L : Nat) (a0 : api_Env) (a1 : api_Expr) (r : (Int × Int)) (h : F_R14_Expr L a0 a1 = some r) : Holds Tryz.prog 13 [.agg (enapi_Env a0), .agg (enapi_Expr a1)] (.tup [I r.1, I r.2]) :=
  hE grwOK (s13  L) mixed Tryz.func13 (by kernel_rfl : cFn Tryz.prog inl Tryz.f13 = some c13) (er := fun (x : (Int × Int)) => .tup [I x.1, I x.2]) (by kernel_rfl) (e13 L a0 a1) h

/-! ### L14_awake -/
def F_L14_awake (L : Nat) : Option Bool := some true
def oA11 : Oracle := (orc 10 (A1 (fun (x : Bool) => B x) ca_api_Env (F_L14_light 100)) (orc 81 (A1 (fun (x : Int) => I x) ca_api_Expr (F_expr_Nodes 100)) (orc 82 (A1 (fun (x : Int) => I x) ca_api_Expr (F_expr_Depth 100)) (orc 216 (A1 (fun (x : Int) => I x) (cI .i64) (F_expr_kids 100)) (orc 215 (A2 (fun (x : Bool) => B x) ca_expr_kind (cI .i64) (F_expr_kind_known 100)) (orc 78 (A1 (fun (x : Bool) => B x) (cI .i64) (F_expr_object 100)) (orc 217 (A2 (fun (x : Bool) => B x) ca_expr_kind (cI .i64) (F_expr_kind_named 100)) (orc 199 (A1 (fun (x : Bool) => B x) (cI .i64) (F_num_In 100)) (orc 218 (A2 (fun (x : (Int × Int × Bool)) => .tup [I x.1, I x.2.1, B x.2.2]) ca_expr_kind (cI .i64) (F_expr_kind_numbers 100)) (orc 101 (A1 (fun (x : Bool) => B x) (cI .u8) (F_names_letter 100)) (orc 102 (A1 (fun (x : Bool) => B x) cS (F_names_Keyword 100)) (orc 58 (A1 (fun (x : Int) => I x) cS (F_names_Check 100)) (orc 169 (A2 (fun (x : Int) => I x) ca_expr_kind ca_api_Expr (F_expr_kind_node 100)) (orc 83 (A2 (fun (x : Int) => I x) ca_expr_kind ca_api_Expr (F_expr_kind_nodes 100)) (orc 46 (A2 (fun (x : Int) => I x) ca_expr_kind ca_api_Expr (F_expr_kind_check 100)) (orc 26 (A1 (fun (x : Int) => I x) ca_api_Expr (F_expr_Check 100)) (orc 29 (A2 (fun (x : (Int × Bool)) => .tup [I x.1, B x.2]) cl68 cS (F_typing_local 100)) (orc 14 (A2 (fun (x : (Int × Bool)) => .tup [I x.1, B x.2]) ca_api_Env cS (F_typing_Find 100)) (orc 178 (A2 (fun (x : Int) => I x) cl9 cS (F_slices_Index_string 100)) (orc 94 (A2 (fun (x : Int) => I x) ca_api_SiteDecl cS (F_model_Routine 100)) (orc 84 (A2 (fun (x : (ByteArray × Int)) => .tup [S x.1, I x.2]) ca_api_SiteDecl cS (F_model_place 100)) (orc 48 (A2 (fun (x : ByteArray) => S x) ca_api_SiteDecl cS (F_model_Kind 100)) (orc 47 (A2 (fun (x : Bool) => B x) (cI .i64) cS (F_typing_object 100)) (orc 85 (A1 (fun (x : Bool) => B x) (cI .i64) (F_typing_measures 100)) (orc 49 (A2 (fun (x : Int) => I x) (cI .i64) (cI .i64) (F_typing_unary 100)) (orc 50 (A3 (fun (x : Int) => I x) (cI .i64) (cI .i64) (cI .i64) (F_typing_binary 100)) (orc 27 (A2 (fun (x : (Int × Int)) => .tup [I x.1, I x.2]) ca_api_Env ca_api_Expr (F_typing_node 100)) (orc 12 (A2 (fun (x : (Int × Int)) => .tup [I x.1, I x.2]) ca_api_Env ca_api_Expr (F_typing_Expr 100)) (orc 75 (A1 (fun (x : Int) => I x) ca_api_Expr (F_R09_Nodes 100)) (orc 76 (A1 (fun (x : Int) => I x) ca_api_Expr (F_R09_Depth 100)) (orc 154 (A1 (fun (x : Int) => I x) (cI .i64) (F_R09_Arity 100)) (orc 155 (A1 (fun (x : Bool) => B x) (cI .i64) (F_R09_object 100)) (orc 156 (A1 (fun (x : Bool) => B x) (cI .i64) (F_R01_In 100)) (orc 157 (A1 (fun (x : Int) => I x) (cI .i64) (F_R09_most 100)) (orc 139 (A1 (fun (x : Bool) => B x) (cI .u8) (F_R07_letter 100)) (orc 202 (A0 (fun (x : (List ByteArray)) => .lst false (.t9 x))  (F_R07_Keywords 100)) (orc 143 (A2 (fun (x : Int) => I x) cl9 cS (F_R07_Find 100)) (orc 140 (A1 (fun (x : Bool) => B x) cS (F_R07_Keyword 100)) (orc 66 (A1 (fun (x : Int) => I x) cS (F_R07_Check 100)) (orc 77 (A2 (fun (x : Int) => I x) ca_api_Expr cB (F_R09_node 100)) (orc 42 (A2 (fun (x : Int) => I x) ca_api_Expr cB (F_R09_check 100)) (orc 23 (A1 (fun (x : Int) => I x) ca_api_Expr (F_R09_Check 100)) (orc 144 (A1 (fun (x : (List (List ByteArray))) => .lst false (.t27 x)) ca_api_SiteDecl (F_R11_Names 100)) (orc 86 (A2 (fun (x : ByteArray) => S x) ca_api_SiteDecl cS (F_R11_Kind 100)) (orc 30 (A2 (fun (x : (Int × Bool)) => .tup [I x.1, B x.2]) cl68 cS (F_R14_Local 100)) (orc 31 (A2 (fun (x : (Int × Bool)) => .tup [I x.1, B x.2]) cl72 cS (F_R14_valued 100)) (orc 15 (A2 (fun (x : (Int × Bool)) => .tup [I x.1, B x.2]) ca_api_Env cS (F_R14_Find 100)) (orc 51 (A2 (fun (x : (Int × Int)) => .tup [I x.1, I x.2]) ca_api_Env ca_api_Expr (F_R14_leaf 100)) (orc 87 (A1 (fun (x : Bool) => B x) (cI .i64) (F_R14_measured 100)) (orc 52 (A2 (fun (x : Int) => I x) (cI .i64) (cI .i64) (F_R14_unary 100)) (orc 53 (A3 (fun (x : Int) => I x) (cI .i64) (cI .i64) (cI .i64) (F_R14_binary 100)) (orc 28 (A2 (fun (x : (Int × Int)) => .tup [I x.1, I x.2]) ca_api_Env ca_api_Expr (F_R14_typed 100)) (orc 13 (A2 (fun (x : (Int × Int)) => .tup [I x.1, I x.2]) ca_api_Env ca_api_Expr (F_R14_Expr 100)) noC)))))))))))))))))))))))))))))))))))))))))))))))))))))
def nA11 : Nat → Bool := fun f => inL f [10, 81, 82, 216, 215, 78, 217, 199, 218, 101, 102, 58, 169, 83, 46, 26, 29, 14, 178, 94, 84, 48, 47, 85, 49, 50, 27, 12, 75, 76, 154, 155, 156, 157, 139, 202, 143, 140, 66, 77, 42, 23, 144, 86, 30, 31, 15, 51, 87, 52, 53, 28, 13]
theorem h11 (L : Nat) (r : Bool) (h : F_L14_awake L = some r) : Holds Tryz.prog 11 [] (B r) := by
  injection h with h
  subst h
  exact holds_run (inl := inl) (nb := nA11) (base := oA11) grwOK mixed (orc_sound (a1 _ (h10 100)) (orc_sound (a1 _ (h81 100)) (orc_sound (a1 _ (h82 100)) (orc_sound (a1 _ (h216 100)) (orc_sound (a2 _ (h215 100)) (orc_sound (a1 _ (h78 100)) (orc_sound (a2 _ (h217 100)) (orc_sound (a1 _ (h199 100)) (orc_sound (a2 _ (h218 100)) (orc_sound (a1 _ (h101 100)) (orc_sound (a1 _ (h102 100)) (orc_sound (a1 _ (h58 100)) (orc_sound (a2 _ (h169 100)) (orc_sound (a2 _ (h83 100)) (orc_sound (a2 _ (h46 100)) (orc_sound (a1 _ (h26 100)) (orc_sound (a2 _ (h29 100)) (orc_sound (a2 _ (h14 100)) (orc_sound (a2 _ (h178 100)) (orc_sound (a2 _ (h94 100)) (orc_sound (a2 _ (h84 100)) (orc_sound (a2 _ (h48 100)) (orc_sound (a2 _ (h47 100)) (orc_sound (a1 _ (h85 100)) (orc_sound (a2 _ (h49 100)) (orc_sound (a3 _ (h50 100)) (orc_sound (a2 _ (h27 100)) (orc_sound (a2 _ (h12 100)) (orc_sound (a1 _ (h75 100)) (orc_sound (a1 _ (h76 100)) (orc_sound (a1 _ (h154 100)) (orc_sound (a1 _ (h155 100)) (orc_sound (a1 _ (h156 100)) (orc_sound (a1 _ (h157 100)) (orc_sound (a1 _ (h139 100)) (orc_sound (a0 _ (h202 100)) (orc_sound (a2 _ (h143 100)) (orc_sound (a1 _ (h140 100)) (orc_sound (a1 _ (h66 100)) (orc_sound (a2 _ (h77 100)) (orc_sound (a2 _ (h42 100)) (orc_sound (a1 _ (h23 100)) (orc_sound (a1 _ (h144 100)) (orc_sound (a2 _ (h86 100)) (orc_sound (a2 _ (h30 100)) (orc_sound (a2 _ (h31 100)) (orc_sound (a2 _ (h15 100)) (orc_sound (a2 _ (h51 100)) (orc_sound (a1 _ (h87 100)) (orc_sound (a2 _ (h52 100)) (orc_sound (a3 _ (h53 100)) (orc_sound (a2 _ (h28 100)) (orc_sound (a2 _ (h13 100)) (noC_sound Tryz.prog)))))))))))))))))))))))))))))))))))))))))))))))))))))) 100 9 40 (fun kk => by kernel_rfl)

/-! ### simulator/simulatorlaw14.TypingExprs -/
noncomputable def c3 : EC := (cFn Tryz.prog inl Tryz.f3).getD .stop
def O3  (L : Nat) : Oracle := (orc 10 (A1 (fun (x : Bool) => B x) ca_api_Env (F_L14_light L)) (orc 11 (A0 (fun (x : Bool) => B x)  (F_L14_awake L)) (orc 12 (A2 (fun (x : (Int × Int)) => .tup [I x.1, I x.2]) ca_api_Env ca_api_Expr (F_typing_Expr L)) (orc 13 (A2 (fun (x : (Int × Int)) => .tup [I x.1, I x.2]) ca_api_Env ca_api_Expr (F_R14_Expr L)) (orc 14 (A2 (fun (x : (Int × Bool)) => .tup [I x.1, B x.2]) ca_api_Env cS (F_typing_Find L)) (orc 15 (A2 (fun (x : (Int × Bool)) => .tup [I x.1, B x.2]) ca_api_Env cS (F_R14_Find L)) noC))))))
theorem s3   (L : Nat) : SoundC Tryz.prog (O3 L) := (orc_sound (a1 _ (h10 L)) (orc_sound (a0 _ (h11 L)) (orc_sound (a2 _ (h12 L)) (orc_sound (a2 _ (h13 L)) (orc_sound (a2 _ (h14 L)) (orc_sound (a2 _ (h15 L)) (noC_sound Tryz.prog)))))))
def T_L14_TypingExprs {A : Type} (an : An A)  (L : Nat) (a0 : api_Env) (a1 : api_Expr) (a2 : ByteArray) (out : Bool → A) : A :=
 (an.bd (F_L14_light L a0) fun r1 =>
 (an.cn (!r1)
 (an.bd (F_L14_awake L) fun r2 =>
 (an.lf out r2))
 (an.bd (F_typing_Expr L a0 (api_Expr.cp a1)) fun r3 =>
 (an.bd (F_R14_Expr L a0 (api_Expr.cp a1)) fun r4 =>
 (an.bd (F_typing_Find L a0 a2) fun r5 =>
 (an.bd (F_R14_Find L a0 a2) fun r6 =>
 (an.jp (bif (r3.1 == r4.1) then (r3.2 == r4.2)
 else false) (fun j => (an.cn (r3.1 == r4.1)
 (an.ap j (r3.2 == r4.2))
 (an.ap j false))) (fun b7 =>
 (an.jp (bif b7 then (r5.1 == r6.1)
 else false) (fun j => (an.cn b7
 (an.ap j (r5.1 == r6.1))
 (an.ap j false))) (fun b8 =>
 (an.jp (bif b8 then (r5.2 == r6.2)
 else false) (fun j => (an.cn b8
 (an.ap j (r5.2 == r6.2))
 (an.ap j false))) (fun b9 =>
 (an.jb (bif b9 then (Option.bind (F_L14_awake L) fun r11 =>
 (some r11))
 else (some false)) (fun j => (an.cn b9
 (an.bd (F_L14_awake L) fun r12 =>
 (an.lf j r12))
 (an.lf j false))) (fun b10 =>
 (an.lf out b10)))))))))))))))
def F_L14_TypingExprs  (L : Nat) (a0 : api_Env) (a1 : api_Expr) (a2 : ByteArray) : Option Bool := T_L14_TypingExprs (anO _) L a0 a1 a2 some
theorem e3  (L : Nat) (a0 : api_Env) (a1 : api_Expr) (a2 : ByteArray) (kk : PV → Prop) : EW (O3 L) L 9 (RS Tryz.f3) c3 [.agg (enapi_Env a0), .agg (enapi_Expr a1), S a2] kk = ob (F_L14_TypingExprs L a0 a1 a2) (fun (x : Bool) => kk (B x)) := by
  refine Eq.trans (b := T_L14_TypingExprs anP L a0 a1 a2 (fun (x : Bool) => kk (B x))) (by kernel_rfl) ?_
  generalize (fun (x : Bool) => kk (B x)) = Q
  unfold F_L14_TypingExprs T_L14_TypingExprs
  dsimp only [anP, anO]
  try simp only [y1, y2, y3, y4, y5 Q, y6, y7, y8 Q, y9, z1, z2, z3, z4]
theorem h3   (L : Nat) (a0 : api_Env) (a1 : api_Expr) (a2 : ByteArray) (r : Bool) (h : F_L14_TypingExprs L a0 a1 a2 = some r) : Holds Tryz.prog 3 [.agg (enapi_Env a0), .agg (enapi_Expr a1), S a2] (B r) :=
  hE grwOK (s3  L) mixed Tryz.func3 (by kernel_rfl : cFn Tryz.prog inl Tryz.f3 = some c3) (er := fun (x : Bool) => B x) (by kernel_rfl) (e3 L a0 a1 a2) h

/-! ### simulator/simulatorlaw14.TypingKids -/
noncomputable def c6 : EC := (cFn Tryz.prog inl Tryz.f6).getD .stop
def O6  (L : Nat) : Oracle := (orc 10 (A1 (fun (x : Bool) => B x) ca_api_Env (F_L14_light L)) (orc 11 (A0 (fun (x : Bool) => B x)  (F_L14_awake L)) (orc 12 (A2 (fun (x : (Int × Int)) => .tup [I x.1, I x.2]) ca_api_Env ca_api_Expr (F_typing_Expr L)) noC)))
theorem s6   (L : Nat) : SoundC Tryz.prog (O6 L) := (orc_sound (a1 _ (h10 L)) (orc_sound (a0 _ (h11 L)) (orc_sound (a2 _ (h12 L)) (noC_sound Tryz.prog))))
def sh6_1 (r3 : (Int × Int)) (a0 : api_Env) (a1 : api_Expr) (v1_0 : Bool) (v1_2 : List Int) (v1_3 : Int) : St := ({ fr := [(0, .any), (1, .any), (2, .loc 2 0), (3, .loc 3 0), (4, B v1_0), (5, I r3.1), (6, .any), (7, .lst true (.t41 v1_2)), (8, I v1_3), (51, .any), (75, .any), (123, .any), (152, .any)], ob := [(2, (enapi_Env a0)), (3, (enapi_Expr a1))], base := 0 } : St)
def KK6_1 (r3 : (Int × Int)) (a0 : api_Env) (a1 : api_Expr) (K : Ex → St → Prop) : Nat × (Bool × List Int × Int) → Prop := fun o => seln o.1 [K .ret (sh6_1 r3 a0 a1 o.2.1 o.2.2.1 o.2.2.2), K (.exit 0) (sh6_1 r3 a0 a1 o.2.1 o.2.2.1 o.2.2.2)]
def lb_L14_TypingKids_1 {A : Type} (an : An A)  (L : Nat) (r3 : (Int × Int)) (a0 : api_Env) (a1 : api_Expr) (rec : Bool → List Int → Int → A) (out : Nat × (Bool × List Int × Int) → A) (v1_0 : Bool) (v1_2 : List Int) (v1_3 : Int) : A :=
 (an.cn (decide (v1_3 < (a1.Kids.length : Int)))
 (an.gd ((0 : Int) ≤ v1_3)
 (an.gd (v1_3 < ((a1.Kids.length : Nat) : Int))
 (an.bd (F_typing_Expr L a0 (api_Expr.cp (a1.Kids.getD (Int.toNat v1_3) default))) fun r7 =>
 (an.cn (r7.2 != 0)
 (an.lf out (0, (false, v1_2, v1_3)))
 (an.gd ((v1_2.length + [r7.1].length) * 8 ≤ 140737488355328)
 (an.gd (v1_2.length + [r7.1].length ≤ maxLen)
 (rec v1_0 (v1_2 ++ [r7.1]) (w64 (v1_3 + 1)))))))))
 (an.lf out (1, (v1_0, v1_2, v1_3))))
def lp_L14_TypingKids_1  (L : Nat) (r3 : (Int × Int)) (a0 : api_Env) (a1 : api_Expr) : Nat → Bool → List Int → Int → Option (Nat × (Bool × List Int × Int))
  | 0, _, _, _ => none
  | n + 1, v1_0, v1_2, v1_3 => lb_L14_TypingKids_1 (anO _)  L r3 a0 a1 (lp_L14_TypingKids_1  L r3 a0 a1 n) some v1_0 v1_2 v1_3
theorem ln6_1  (L : Nat) (r3 : (Int × Int)) (a0 : api_Env) (a1 : api_Expr) (g : Bool → List Int → Int → Option (Nat × (Bool × List Int × Int))) (Q : Nat × (Bool × List Int × Int) → Prop) (v1_0 : Bool) (v1_2 : List Int) (v1_3 : Int) : lb_L14_TypingKids_1 anP  L r3 a0 a1 (fun v1_0 v1_2 v1_3 => ob (g v1_0 v1_2 v1_3) Q) Q v1_0 v1_2 v1_3 = ob (lb_L14_TypingKids_1 (anO _)  L r3 a0 a1 g some v1_0 v1_2 v1_3) Q := by
  unfold lb_L14_TypingKids_1
  dsimp only [anP, anO]
  try simp only [y1, y2, y3, y4, y5 Q, y6, y7, y8 Q, y9, z1, z2, z3, z4]
theorem le6_1  (L : Nat) (r3 : (Int × Int)) (a0 : api_Env) (a1 : api_Expr) (n : Nat) (v1_0 : Bool) (v1_2 : List Int) (v1_3 : Int) (K : Ex → St → Prop) : loopN (EV (O6 L) L 9 c6.r.r.r.r.r.r.r.r.r.r.l.r.r.l.l) [0, 1, 2, 3, 4, 5, 6, 7, 8, 51, 75, 123, 152] [2, 3] n (sh6_1 r3 a0 a1 v1_0 v1_2 v1_3) K = ob (lp_L14_TypingKids_1  L r3 a0 a1 n v1_0 v1_2 v1_3) (fun o => KK6_1 r3 a0 a1 K o) := by
  induction n generalizing v1_0 v1_2 v1_3 with
  | zero => rfl
  | succ n ih =>
    refine Eq.trans (b := lb_L14_TypingKids_1 anP  L r3 a0 a1 (fun v1_0 v1_2 v1_3 => loopN (EV (O6 L) L 9 c6.r.r.r.r.r.r.r.r.r.r.l.r.r.l.l) [0, 1, 2, 3, 4, 5, 6, 7, 8, 51, 75, 123, 152] [2, 3] n (sh6_1 r3 a0 a1 v1_0 v1_2 v1_3) K) (KK6_1 r3 a0 a1 K) v1_0 v1_2 v1_3) (by kernel_rfl) ?_
    simp only [ih]
    exact ln6_1  L r3 a0 a1 (lp_L14_TypingKids_1  L r3 a0 a1 n) (KK6_1 r3 a0 a1 K) v1_0 v1_2 v1_3
def kc6_1  (L : Nat)  (kk : PV → Prop) : Ex → St → Prop := (kBlock 0 (kSeq (EV (O6 L) L 9 c6.r.r.r.r.r.r.r.r.r.r.r) (kEnd Tryz.prog (RS Tryz.f6) kk)))
theorem q6_1  (L : Nat) (r3 : (Int × Int)) (a0 : api_Env) (a1 : api_Expr) (kk : PV → Prop) (o6 : Nat × (Bool × List Int × Int)) : KK6_1 r3 a0 a1 (kc6_1 L kk) o6 =
 (seln o6.1 [(ob (some o6.2.1) (fun (x : Bool) => kk (B x))),
 (jn (fun j => (br (decide (a1.Op ≥ 14))
 (ap j (decide (a1.Op ≤ 19)))
 (ap j false))) (fun b7 =>
 (jn (fun j => (br b7
 (ap j true)
 (ap j (a1.Op == 6)))) (fun b8 =>
 (jn (fun j => (br b8
 (ap j true)
 (ap j (a1.Op == 2)))) (fun b9 =>
 (br b9
 (jn (fun j => (br (r3.1 == 2)
 (ob (F_L14_awake L) fun r11 =>
 (ob (some r11) j))
 (ob (some false) j))) (fun b10 =>
 (ob (some b10) (fun (x : Bool) => kk (B x)))))
 (jn (fun j => (br (a1.Op == 9)
 (ap j true)
 (ap j (a1.Op == 10)))) (fun b12 =>
 (jn (fun j => (br b12
 (ap j true)
 (ap j (a1.Op == 13)))) (fun b13 =>
 (jn (fun j => (br b13
 (ap j true)
 (ap j (a1.Op == 20)))) (fun b14 =>
 (jn (fun j => (br b14
 (ap j true)
 (ap j (a1.Op == 21)))) (fun b15 =>
 (br b15
 (jn (fun j => (br ((o6.2.2.1.length : Int) == 2)
 (gd ((0 : Int) ≤ 0)
 (gd (0 < ((o6.2.2.1.length : Nat) : Int))
 (ob (some ((o6.2.2.1.getD 0 default) == r3.1)) j)))
 (ob (some false) j))) (fun b16 =>
 (jn (fun j => (br b16
 (gd ((0 : Int) ≤ 1)
 (gd (1 < ((o6.2.2.1.length : Nat) : Int))
 (ob (some ((o6.2.2.1.getD 1 default) == r3.1)) j)))
 (ob (some false) j))) (fun b17 =>
 (jn (fun j => (br b17
 (ap j (r3.1 != 2))
 (ap j false))) (fun b18 =>
 (jn (fun j => (br b18
 (ob (F_L14_awake L) fun r20 =>
 (ob (some r20) j))
 (ob (some false) j))) (fun b19 =>
 (ob (some b19) (fun (x : Bool) => kk (B x)))))))))))
 (br (a1.Op == 11)
 (jn (fun j => (br ((o6.2.2.1.length : Int) == 2)
 (gd ((0 : Int) ≤ 0)
 (gd (0 < ((o6.2.2.1.length : Nat) : Int))
 (br ((o6.2.2.1.getD 0 default) == 1)
 (gd ((0 : Int) ≤ 1)
 (gd (1 < ((o6.2.2.1.length : Nat) : Int))
 (ob (some ((r3.1 == 1) == ((o6.2.2.1.getD 1 default) == 1))) j)))
 (ob (some ((r3.1 == 1) == false)) j))))
 (ob (some false) j))) (fun b21 =>
 (jn (fun j => (br b21
 (ap j (r3.1 != 2))
 (ap j false))) (fun b22 =>
 (jn (fun j => (br b22
 (ob (F_L14_awake L) fun r24 =>
 (ob (some r24) j))
 (ob (some false) j))) (fun b23 =>
 (ob (some b23) (fun (x : Bool) => kk (B x)))))))))
 (br (a1.Op == 12)
 (br ((o6.2.2.1.length : Int) == 2)
 (gd ((0 : Int) ≤ 0)
 (gd (0 < ((o6.2.2.1.length : Nat) : Int))
 (gd ((0 : Int) ≤ 1)
 (gd (1 < ((o6.2.2.1.length : Nat) : Int))
 (br ((r3.1 == 1) == ((o6.2.2.1.getD 0 default) == (o6.2.2.1.getD 1 default)))
 (gd ((0 : Int) ≤ 1)
 (gd (1 < ((o6.2.2.1.length : Nat) : Int))
 (br ((o6.2.2.1.getD 1 default) != 2)
 (ob (F_L14_awake L) fun r25 =>
 (ob (some r25) (fun (x : Bool) => kk (B x))))
 (ob (some false) (fun (x : Bool) => kk (B x))))))
 (ob (some false) (fun (x : Bool) => kk (B x))))))))
 (ob (some false) (fun (x : Bool) => kk (B x))))
 (ob (F_L14_awake L) fun r26 =>
 (ob (some r26) (fun (x : Bool) => kk (B x))))))))))))))))))))))]) := by kernel_rfl
def T_L14_TypingKids {A : Type} (an : An A)  (L : Nat) (a0 : api_Env) (a1 : api_Expr) (out : Bool → A) : A :=
 (an.bd (F_L14_light L a0) fun r1 =>
 (an.cn (!r1)
 (an.bd (F_L14_awake L) fun r2 =>
 (an.lf out r2))
 (an.bd (F_typing_Expr L a0 (api_Expr.cp a1)) fun r3 =>
 (an.cn (r3.2 != 0)
 (an.jb (bif (r3.1 == 0) then (Option.bind (F_L14_awake L) fun r5 =>
 (some r5))
 else (some false)) (fun j => (an.cn (r3.1 == 0)
 (an.bd (F_L14_awake L) fun r6 =>
 (an.lf j r6))
 (an.lf j false))) (fun b4 =>
 (an.lf out b4)))
 (an.bd (lp_L14_TypingKids_1 L r3 a0 a1 L false [] 0) fun o7 =>
 (an.sl o7.1 [(an.lf out o7.2.1),
 (an.jp (bif (decide (a1.Op ≥ 14)) then (decide (a1.Op ≤ 19))
 else false) (fun j => (an.cn (decide (a1.Op ≥ 14))
 (an.ap j (decide (a1.Op ≤ 19)))
 (an.ap j false))) (fun b8 =>
 (an.jp (bif b8 then true
 else (a1.Op == 6)) (fun j => (an.cn b8
 (an.ap j true)
 (an.ap j (a1.Op == 6)))) (fun b9 =>
 (an.jp (bif b9 then true
 else (a1.Op == 2)) (fun j => (an.cn b9
 (an.ap j true)
 (an.ap j (a1.Op == 2)))) (fun b10 =>
 (an.cn b10
 (an.jb (bif (r3.1 == 2) then (Option.bind (F_L14_awake L) fun r12 =>
 (some r12))
 else (some false)) (fun j => (an.cn (r3.1 == 2)
 (an.bd (F_L14_awake L) fun r13 =>
 (an.lf j r13))
 (an.lf j false))) (fun b11 =>
 (an.lf out b11)))
 (an.jp (bif (a1.Op == 9) then true
 else (a1.Op == 10)) (fun j => (an.cn (a1.Op == 9)
 (an.ap j true)
 (an.ap j (a1.Op == 10)))) (fun b14 =>
 (an.jp (bif b14 then true
 else (a1.Op == 13)) (fun j => (an.cn b14
 (an.ap j true)
 (an.ap j (a1.Op == 13)))) (fun b15 =>
 (an.jp (bif b15 then true
 else (a1.Op == 20)) (fun j => (an.cn b15
 (an.ap j true)
 (an.ap j (a1.Op == 20)))) (fun b16 =>
 (an.jp (bif b16 then true
 else (a1.Op == 21)) (fun j => (an.cn b16
 (an.ap j true)
 (an.ap j (a1.Op == 21)))) (fun b17 =>
 (an.cn b17
 (an.jb (bif ((o7.2.2.1.length : Int) == 2) then (if (0 : Int) ≤ 0 then
 (if 0 < ((o7.2.2.1.length : Nat) : Int) then
 (some ((o7.2.2.1.getD 0 default) == r3.1)) else none) else none)
 else (some false)) (fun j => (an.cn ((o7.2.2.1.length : Int) == 2)
 (an.gd ((0 : Int) ≤ 0)
 (an.gd (0 < ((o7.2.2.1.length : Nat) : Int))
 (an.lf j ((o7.2.2.1.getD 0 default) == r3.1))))
 (an.lf j false))) (fun b18 =>
 (an.jb (bif b18 then (if (0 : Int) ≤ 1 then
 (if 1 < ((o7.2.2.1.length : Nat) : Int) then
 (some ((o7.2.2.1.getD 1 default) == r3.1)) else none) else none)
 else (some false)) (fun j => (an.cn b18
 (an.gd ((0 : Int) ≤ 1)
 (an.gd (1 < ((o7.2.2.1.length : Nat) : Int))
 (an.lf j ((o7.2.2.1.getD 1 default) == r3.1))))
 (an.lf j false))) (fun b19 =>
 (an.jp (bif b19 then (r3.1 != 2)
 else false) (fun j => (an.cn b19
 (an.ap j (r3.1 != 2))
 (an.ap j false))) (fun b20 =>
 (an.jb (bif b20 then (Option.bind (F_L14_awake L) fun r22 =>
 (some r22))
 else (some false)) (fun j => (an.cn b20
 (an.bd (F_L14_awake L) fun r23 =>
 (an.lf j r23))
 (an.lf j false))) (fun b21 =>
 (an.lf out b21)))))))))
 (an.cn (a1.Op == 11)
 (an.jb (bif ((o7.2.2.1.length : Int) == 2) then (if (0 : Int) ≤ 0 then
 (if 0 < ((o7.2.2.1.length : Nat) : Int) then
 (bif ((o7.2.2.1.getD 0 default) == 1) then (if (0 : Int) ≤ 1 then
 (if 1 < ((o7.2.2.1.length : Nat) : Int) then
 (some ((r3.1 == 1) == ((o7.2.2.1.getD 1 default) == 1))) else none) else none)
 else (some ((r3.1 == 1) == false))) else none) else none)
 else (some false)) (fun j => (an.cn ((o7.2.2.1.length : Int) == 2)
 (an.gd ((0 : Int) ≤ 0)
 (an.gd (0 < ((o7.2.2.1.length : Nat) : Int))
 (an.cn ((o7.2.2.1.getD 0 default) == 1)
 (an.gd ((0 : Int) ≤ 1)
 (an.gd (1 < ((o7.2.2.1.length : Nat) : Int))
 (an.lf j ((r3.1 == 1) == ((o7.2.2.1.getD 1 default) == 1)))))
 (an.lf j ((r3.1 == 1) == false)))))
 (an.lf j false))) (fun b24 =>
 (an.jp (bif b24 then (r3.1 != 2)
 else false) (fun j => (an.cn b24
 (an.ap j (r3.1 != 2))
 (an.ap j false))) (fun b25 =>
 (an.jb (bif b25 then (Option.bind (F_L14_awake L) fun r27 =>
 (some r27))
 else (some false)) (fun j => (an.cn b25
 (an.bd (F_L14_awake L) fun r28 =>
 (an.lf j r28))
 (an.lf j false))) (fun b26 =>
 (an.lf out b26)))))))
 (an.cn (a1.Op == 12)
 (an.cn ((o7.2.2.1.length : Int) == 2)
 (an.gd ((0 : Int) ≤ 0)
 (an.gd (0 < ((o7.2.2.1.length : Nat) : Int))
 (an.gd ((0 : Int) ≤ 1)
 (an.gd (1 < ((o7.2.2.1.length : Nat) : Int))
 (an.cn ((r3.1 == 1) == ((o7.2.2.1.getD 0 default) == (o7.2.2.1.getD 1 default)))
 (an.gd ((0 : Int) ≤ 1)
 (an.gd (1 < ((o7.2.2.1.length : Nat) : Int))
 (an.cn ((o7.2.2.1.getD 1 default) != 2)
 (an.bd (F_L14_awake L) fun r29 =>
 (an.lf out r29))
 (an.lf out false))))
 (an.lf out false))))))
 (an.lf out false))
 (an.bd (F_L14_awake L) fun r30 =>
 (an.lf out r30))))))))))))))))))))]))))))
def F_L14_TypingKids  (L : Nat) (a0 : api_Env) (a1 : api_Expr) : Option Bool := T_L14_TypingKids (anO _) L a0 a1 some
theorem e6  (L : Nat) (a0 : api_Env) (a1 : api_Expr) (kk : PV → Prop) : EW (O6 L) L 9 (RS Tryz.f6) c6 [.agg (enapi_Env a0), .agg (enapi_Expr a1)] kk = ob (F_L14_TypingKids L a0 a1) (fun (x : Bool) => kk (B x)) := by
  refine Eq.trans (b := T_L14_TypingKids anP L a0 a1 (fun (x : Bool) => kk (B x))) ?_ ?_
  · refine Eq.trans (b := (ob (F_L14_light L a0) fun r1 =>
 (br (!r1)
 (ob (F_L14_awake L) fun r2 =>
 (ob (some r2) (fun (x : Bool) => kk (B x))))
 (ob (F_typing_Expr L a0 (api_Expr.cp a1)) fun r3 =>
 (br (r3.2 != 0)
 (jn (fun j => (br (r3.1 == 0)
 (ob (F_L14_awake L) fun r5 =>
 (ob (some r5) j))
 (ob (some false) j))) (fun b4 =>
 (ob (some b4) (fun (x : Bool) => kk (B x)))))
 (loopN (EV (O6 L) L 9 c6.r.r.r.r.r.r.r.r.r.r.l.r.r.l.l) [0, 1, 2, 3, 4, 5, 6, 7, 8, 51, 75, 123, 152] [2, 3] L (sh6_1 r3 a0 a1 false [] 0) (kc6_1 L kk))))))) (by kernel_rfl) ?_
    unfold T_L14_TypingKids
    dsimp only [anP]
    simp only [le6_1, q6_1]
  generalize (fun (x : Bool) => kk (B x)) = Q
  unfold F_L14_TypingKids T_L14_TypingKids
  dsimp only [anP, anO]
  try simp only [y1, y2, y3, y4, y5 Q, y6, y7, y8 Q, y9, z1, z2, z3, z4]
  try simp only [z5, z6, y1, y2, y3, y4, y5 Q, y6, y7, y8 Q, y9, z1, z2, z3, z4]
theorem h6   (L : Nat) (a0 : api_Env) (a1 : api_Expr) (r : Bool) (h : F_L14_TypingKids L a0 a1 = some r) : Holds Tryz.prog 6 [.agg (enapi_Env a0), .agg (enapi_Expr a1)] (B r) :=
  hE grwOK (s6  L) mixed Tryz.func6 (by kernel_rfl : cFn Tryz.prog inl Tryz.f6 = some c6) (er := fun (x : Bool) => B x) (by kernel_rfl) (e6 L a0 a1) h

/-! ### simulator/expr.Replace -/
noncomputable def c22 : EC := (cFn Tryz.prog inl Tryz.f22).getD .stop
def O22 (rec22 : api_Expr → ByteArray → api_Expr → Option api_Expr) (L : Nat) : Oracle := (orc 22 (A3 (fun (x : api_Expr) => .agg (enapi_Expr x)) ca_api_Expr cS ca_api_Expr rec22) noC)
theorem s22 (rec22 : api_Expr → ByteArray → api_Expr → Option api_Expr) (hr22 : ∀ (y0 : api_Expr) (y1 : ByteArray) (y2 : api_Expr) (r : api_Expr), rec22 y0 y1 y2 = some r → Holds Tryz.prog 22 [.agg (enapi_Expr y0), S y1, .agg (enapi_Expr y2)] (.agg (enapi_Expr r))) (L : Nat) : SoundC Tryz.prog (O22 rec22 L) := (orc_sound (a3 _ hr22) (noC_sound Tryz.prog))
def sh22_1 (a1 : ByteArray) (a0 : api_Expr) (a2 : api_Expr) (v1_1 : List api_Expr) (v1_4 : Int) : St := ({ fr := [(0, .any), (1, S a1), (2, .any), (3, .loc 3 0), (5, .loc 5 0), (6, .loc 6 0), (7, .lst true (.t38 v1_1)), (21, .lst false (.t38 a0.Kids)), (22, I (a0.Kids.length : Int)), (23, I v1_4)], ob := [(3, (enapi_Expr a0)), (5, (enapi_Expr a2)), (6, [I 0, S (⟨#[]⟩ : ByteArray), I 0, .lst true (.t38 [])])], base := 0 } : St)
def KK22_1 (a1 : ByteArray) (a0 : api_Expr) (a2 : api_Expr) (K : Ex → St → Prop) : Nat × (List api_Expr × Int) → Prop := fun o => seln o.1 [K (.exit 0) (sh22_1 a1 a0 a2 o.2.1 o.2.2)]
def lb_expr_Replace_1 {A : Type} (an : An A) (rec22 : api_Expr → ByteArray → api_Expr → Option api_Expr) (L : Nat) (a1 : ByteArray) (a0 : api_Expr) (a2 : api_Expr) (rec : List api_Expr → Int → A) (out : Nat × (List api_Expr × Int) → A) (v1_1 : List api_Expr) (v1_4 : Int) : A :=
 (an.cn (decide (v1_4 < (a0.Kids.length : Int)))
 (an.gd ((0 : Int) ≤ v1_4)
 (an.gd (v1_4 < ((a0.Kids.length : Nat) : Int))
 (an.bd (rec22 (api_Expr.cp (a0.Kids.getD (Int.toNat v1_4) default)) a1 (api_Expr.cp a2)) fun r2 =>
 (an.gd ((v1_1.length + [(api_Expr.cp r2)].length) * 56 ≤ 140737488355328)
 (an.gd (v1_1.length + [(api_Expr.cp r2)].length ≤ maxLen)
 (rec (v1_1 ++ [(api_Expr.cp r2)]) (w64 (v1_4 + 1))))))))
 (an.lf out (0, (v1_1, v1_4))))
def lp_expr_Replace_1 (rec22 : api_Expr → ByteArray → api_Expr → Option api_Expr) (L : Nat) (a1 : ByteArray) (a0 : api_Expr) (a2 : api_Expr) : Nat → List api_Expr → Int → Option (Nat × (List api_Expr × Int))
  | 0, _, _ => none
  | n + 1, v1_1, v1_4 => lb_expr_Replace_1 (anO _) rec22 L a1 a0 a2 (lp_expr_Replace_1 rec22 L a1 a0 a2 n) some v1_1 v1_4
theorem ln22_1 (rec22 : api_Expr → ByteArray → api_Expr → Option api_Expr) (L : Nat) (a1 : ByteArray) (a0 : api_Expr) (a2 : api_Expr) (g : List api_Expr → Int → Option (Nat × (List api_Expr × Int))) (Q : Nat × (List api_Expr × Int) → Prop) (v1_1 : List api_Expr) (v1_4 : Int) : lb_expr_Replace_1 anP rec22 L a1 a0 a2 (fun v1_1 v1_4 => ob (g v1_1 v1_4) Q) Q v1_1 v1_4 = ob (lb_expr_Replace_1 (anO _) rec22 L a1 a0 a2 g some v1_1 v1_4) Q := by
  unfold lb_expr_Replace_1
  dsimp only [anP, anO]
  try simp only [y1, y2, y3, y4, y5 Q, y6, y7, y8 Q, y9, z1, z2, z3, z4]
theorem le22_1 (rec22 : api_Expr → ByteArray → api_Expr → Option api_Expr) (L : Nat) (a1 : ByteArray) (a0 : api_Expr) (a2 : api_Expr) (n : Nat) (v1_1 : List api_Expr) (v1_4 : Int) (K : Ex → St → Prop) : loopN (EV (O22 rec22 L) L 9 c22.r.r.r.r.r.r.l.r.r.l.l) [0, 1, 2, 3, 5, 6, 7, 21, 22, 23] [3, 5, 6] n (sh22_1 a1 a0 a2 v1_1 v1_4) K = ob (lp_expr_Replace_1 rec22 L a1 a0 a2 n v1_1 v1_4) (fun o => KK22_1 a1 a0 a2 K o) := by
  induction n generalizing v1_1 v1_4 with
  | zero => rfl
  | succ n ih =>
    refine Eq.trans (b := lb_expr_Replace_1 anP rec22 L a1 a0 a2 (fun v1_1 v1_4 => loopN (EV (O22 rec22 L) L 9 c22.r.r.r.r.r.r.l.r.r.l.l) [0, 1, 2, 3, 5, 6, 7, 21, 22, 23] [3, 5, 6] n (sh22_1 a1 a0 a2 v1_1 v1_4) K) (KK22_1 a1 a0 a2 K) v1_1 v1_4) (by kernel_rfl) ?_
    simp only [ih]
    exact ln22_1 rec22 L a1 a0 a2 (lp_expr_Replace_1 rec22 L a1 a0 a2 n) (KK22_1 a1 a0 a2 K) v1_1 v1_4
def kc22_1 (rec22 : api_Expr → ByteArray → api_Expr → Option api_Expr) (L : Nat)  (kk : PV → Prop) : Ex → St → Prop := (kBlock 0 (kSeq (EV (O22 rec22 L) L 9 c22.r.r.r.r.r.r.r) (kEnd Tryz.prog (RS Tryz.f22) kk)))
theorem q22_1 (rec22 : api_Expr → ByteArray → api_Expr → Option api_Expr) (L : Nat) (a1 : ByteArray) (a0 : api_Expr) (a2 : api_Expr) (kk : PV → Prop) (o2 : Nat × (List api_Expr × Int)) : KK22_1 a1 a0 a2 (kc22_1 rec22 L kk) o2 =
 (seln o2.1 [(ob (some (api_Expr.mk a0.Op a0.Name a0.N o2.2.1)) (fun (x : api_Expr) => kk (.agg (enapi_Expr x))))]) := by kernel_rfl
def T_expr_Replace {A : Type} (an : An A) (rec22 : api_Expr → ByteArray → api_Expr → Option api_Expr) (L : Nat) (a0 : api_Expr) (a1 : ByteArray) (a2 : api_Expr) (out : api_Expr → A) : A :=
 (an.jp (bif (a0.Op == 3) then (a0.Name.toList == a1.toList)
 else false) (fun j => (an.cn (a0.Op == 3)
 (an.ap j (a0.Name.toList == a1.toList))
 (an.ap j false))) (fun b1 =>
 (an.cn b1
 (an.lf out (api_Expr.cp a2))
 (an.bd (lp_expr_Replace_1 rec22 L a1 a0 a2 L [] 0) fun o2 =>
 (an.sl o2.1 [(an.lf out (api_Expr.mk a0.Op a0.Name a0.N o2.2.1))])))))
def B_expr_Replace (rec22 : api_Expr → ByteArray → api_Expr → Option api_Expr) (L : Nat) (a0 : api_Expr) (a1 : ByteArray) (a2 : api_Expr) : Option api_Expr := T_expr_Replace (anO _) rec22 L a0 a1 a2 some
theorem e22 (rec22 : api_Expr → ByteArray → api_Expr → Option api_Expr) (L : Nat) (a0 : api_Expr) (a1 : ByteArray) (a2 : api_Expr) (kk : PV → Prop) : EW (O22 rec22 L) L 9 (RS Tryz.f22) c22 [.agg (enapi_Expr a0), S a1, .agg (enapi_Expr a2)] kk = ob (B_expr_Replace rec22 L a0 a1 a2) (fun (x : api_Expr) => kk (.agg (enapi_Expr x))) := by
  refine Eq.trans (b := T_expr_Replace anP rec22 L a0 a1 a2 (fun (x : api_Expr) => kk (.agg (enapi_Expr x)))) ?_ ?_
  · refine Eq.trans (b := (jn (fun j => (br (a0.Op == 3)
 (ap j (a0.Name.toList == a1.toList))
 (ap j false))) (fun b1 =>
 (br b1
 (ob (some (api_Expr.cp a2)) (fun (x : api_Expr) => kk (.agg (enapi_Expr x))))
 (loopN (EV (O22 rec22 L) L 9 c22.r.r.r.r.r.r.l.r.r.l.l) [0, 1, 2, 3, 5, 6, 7, 21, 22, 23] [3, 5, 6] L (sh22_1 a1 a0 a2 [] 0) (kc22_1 rec22 L kk)))))) (by kernel_rfl) ?_
    unfold T_expr_Replace
    dsimp only [anP]
    simp only [le22_1, q22_1]
  generalize (fun (x : api_Expr) => kk (.agg (enapi_Expr x))) = Q
  unfold B_expr_Replace T_expr_Replace
  dsimp only [anP, anO]
  try simp only [y1, y2, y3, y4, y5 Q, y6, y7, y8 Q, y9, z1, z2, z3, z4]
theorem b22 (rec22 : api_Expr → ByteArray → api_Expr → Option api_Expr) (hr22 : ∀ (y0 : api_Expr) (y1 : ByteArray) (y2 : api_Expr) (r : api_Expr), rec22 y0 y1 y2 = some r → Holds Tryz.prog 22 [.agg (enapi_Expr y0), S y1, .agg (enapi_Expr y2)] (.agg (enapi_Expr r))) (L : Nat) (a0 : api_Expr) (a1 : ByteArray) (a2 : api_Expr) (r : api_Expr) (h : B_expr_Replace rec22 L a0 a1 a2 = some r) : Holds Tryz.prog 22 [.agg (enapi_Expr a0), S a1, .agg (enapi_Expr a2)] (.agg (enapi_Expr r)) :=
  hE grwOK (s22 rec22 hr22 L) mixed Tryz.func22 (by kernel_rfl : cFn Tryz.prog inl Tryz.f22 = some c22) (er := fun (x : api_Expr) => .agg (enapi_Expr x)) (by kernel_rfl) (e22 rec22 L a0 a1 a2) h
def F_expr_Replace : Nat → api_Expr → ByteArray → api_Expr → Option api_Expr
  | 0, _, _, _ => none
  | L + 1, a0, a1, a2 => B_expr_Replace (F_expr_Replace L) L a0 a1 a2
theorem hall22 : ∀ L, (∀ (y0 : api_Expr) (y1 : ByteArray) (y2 : api_Expr) (r : api_Expr), F_expr_Replace L y0 y1 y2 = some r → Holds Tryz.prog 22 [.agg (enapi_Expr y0), S y1, .agg (enapi_Expr y2)] (.agg (enapi_Expr r))) := by
  intro L
  induction L with
  | zero => exact fun _ _ _ r h => (by cases h)
  | succ L ih =>
    have i22 := ih
    exact fun y0 y1 y2 r h => b22 (F_expr_Replace L) i22 L y0 y1 y2 r h
theorem h22 (L : Nat) : ∀ (y0 : api_Expr) (y1 : ByteArray) (y2 : api_Expr) (r : api_Expr), F_expr_Replace L y0 y1 y2 = some r → Holds Tryz.prog 22 [.agg (enapi_Expr y0), S y1, .agg (enapi_Expr y2)] (.agg (enapi_Expr r)) := hall22 L

/-! ### simulator/simulatorlaw14.TypingSwaps -/
noncomputable def c8 : EC := (cFn Tryz.prog inl Tryz.f8).getD .stop
def O8  (L : Nat) : Oracle := (orc 10 (A1 (fun (x : Bool) => B x) ca_api_Env (F_L14_light L)) (orc 11 (A0 (fun (x : Bool) => B x)  (F_L14_awake L)) (orc 12 (A2 (fun (x : (Int × Int)) => .tup [I x.1, I x.2]) ca_api_Env ca_api_Expr (F_typing_Expr L)) (orc 14 (A2 (fun (x : (Int × Bool)) => .tup [I x.1, B x.2]) ca_api_Env cS (F_typing_Find L)) (orc 22 (A3 (fun (x : api_Expr) => .agg (enapi_Expr x)) ca_api_Expr cS ca_api_Expr (F_expr_Replace L)) (orc 23 (A1 (fun (x : Int) => I x) ca_api_Expr (F_R09_Check L)) noC))))))
theorem s8   (L : Nat) : SoundC Tryz.prog (O8 L) := (orc_sound (a1 _ (h10 L)) (orc_sound (a0 _ (h11 L)) (orc_sound (a2 _ (h12 L)) (orc_sound (a2 _ (h14 L)) (orc_sound (a3 _ (h22 L)) (orc_sound (a1 _ (h23 L)) (noC_sound Tryz.prog)))))))
def T_L14_TypingSwaps {A : Type} (an : An A)  (L : Nat) (a0 : api_Env) (a1 : L14_Swap) (out : Bool → A) : A :=
 (an.bd (F_L14_light L a0) fun r1 =>
 (an.cn (!r1)
 (an.bd (F_L14_awake L) fun r2 =>
 (an.lf out r2))
 (an.bd (F_typing_Expr L a0 (api_Expr.cp a1.E)) fun r3 =>
 (an.bd (F_typing_Expr L a0 (api_Expr.cp a1.By)) fun r4 =>
 (an.bd (F_typing_Find L a0 a1.Name) fun r5 =>
 (an.jp (bif (r3.2 != 0) then true
 else (r4.2 != 0)) (fun j => (an.cn (r3.2 != 0)
 (an.ap j true)
 (an.ap j (r4.2 != 0)))) (fun b6 =>
 (an.jp (bif b6 then true
 else (!r5.2)) (fun j => (an.cn b6
 (an.ap j true)
 (an.ap j (!r5.2)))) (fun b7 =>
 (an.jp (bif b7 then true
 else (r4.1 != r5.1)) (fun j => (an.cn b7
 (an.ap j true)
 (an.ap j (r4.1 != r5.1)))) (fun b8 =>
 (an.cn b8
 (an.bd (F_L14_awake L) fun r9 =>
 (an.lf out r9))
 (an.bd (F_expr_Replace L (api_Expr.cp a1.E) a1.Name (api_Expr.cp a1.By)) fun r10 =>
 (an.bd (F_R09_Check L (api_Expr.cp r10)) fun r11 =>
 (an.cn (r11 != 0)
 (an.bd (F_L14_awake L) fun r12 =>
 (an.lf out r12))
 (an.bd (F_typing_Expr L a0 (api_Expr.cp r10)) fun r13 =>
 (an.jp (bif (r13.1 == r3.1) then (r13.2 == 0)
 else false) (fun j => (an.cn (r13.1 == r3.1)
 (an.ap j (r13.2 == 0))
 (an.ap j false))) (fun b14 =>
 (an.jb (bif b14 then (Option.bind (F_L14_awake L) fun r16 =>
 (some r16))
 else (some false)) (fun j => (an.cn b14
 (an.bd (F_L14_awake L) fun r17 =>
 (an.lf j r17))
 (an.lf j false))) (fun b15 =>
 (an.lf out b15)))))))))))))))))))))
def F_L14_TypingSwaps  (L : Nat) (a0 : api_Env) (a1 : L14_Swap) : Option Bool := T_L14_TypingSwaps (anO _) L a0 a1 some
theorem e8  (L : Nat) (a0 : api_Env) (a1 : L14_Swap) (kk : PV → Prop) : EW (O8 L) L 9 (RS Tryz.f8) c8 [.agg (enapi_Env a0), .agg (enL14_Swap a1)] kk = ob (F_L14_TypingSwaps L a0 a1) (fun (x : Bool) => kk (B x)) := by
  refine Eq.trans (b := T_L14_TypingSwaps anP L a0 a1 (fun (x : Bool) => kk (B x))) (by kernel_rfl) ?_
  generalize (fun (x : Bool) => kk (B x)) = Q
  unfold F_L14_TypingSwaps T_L14_TypingSwaps
  dsimp only [anP, anO]
  try simp only [y1, y2, y3, y4, y5 Q, y6, y7, y8 Q, y9, z1, z2, z3, z4]
theorem h8   (L : Nat) (a0 : api_Env) (a1 : L14_Swap) (r : Bool) (h : F_L14_TypingSwaps L a0 a1 = some r) : Holds Tryz.prog 8 [.agg (enapi_Env a0), .agg (enL14_Swap a1)] (B r) :=
  hE grwOK (s8  L) mixed Tryz.func8 (by kernel_rfl : cFn Tryz.prog inl Tryz.f8 = some c8) (er := fun (x : Bool) => B x) (by kernel_rfl) (e8 L a0 a1) h


end Go.Proofs.YtcbandfdmbkokaaGreat.Ev
