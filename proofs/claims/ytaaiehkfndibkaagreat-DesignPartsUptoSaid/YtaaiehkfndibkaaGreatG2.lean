import Derived.Test.YtaaiehkfndibkaaGreatG1
namespace Go.Proofs.YtaaiehkfndibkaaGreat.Ev
open Go
set_option maxRecDepth 100000
set_option linter.unusedVariables false
set_option linter.unusedSimpArgs false
set_option linter.unnecessarySimpa false
/-! ### simulator/design.Half -/
noncomputable def c27 : EC := (cFn Tryz.prog inl Tryz.f27).getD .stop
def O27  (L : Nat) : Oracle := (orc 14 (A1 (fun (x : Int) => I x) cl59 (F_design_Size L)) (orc 16 (A2 (fun (x : ((List Int) × Int)) => .tup [.lst false (.t3 x.1), I x.2]) cl59 (cI .i64) (F_design_Point L)) (orc 46 (A1 (fun (x : Int) => I x) cl59 (F_design_usable L)) noC)))
theorem s27   (L : Nat) : SoundC Tryz.prog (O27 L) := (orc_sound (a1 _ (h14 L)) (orc_sound (a2 _ (h16 L)) (orc_sound (a1 _ (h46 L)) (noC_sound Tryz.prog))))
def sh27_2 (a0 : (List api_Factor)) (v1_2 : List Int) (v1_4 : Int) (r3 : ((List Int) × Int)) (r2 : Int) (v2_6 : Int) (v2_11 : Int) : St := ({ fr := [(0, .lst false (.t59 a0)), (2, .lst true (.t3 [])), (3, .lst true (.t3 v1_2)), (4, I v1_4), (5, .lst false (.t3 r3.1)), (6, I r3.2), (7, I v2_6), (14, I r2), (15, I v1_4), (24, .lst false (.t3 r3.1)), (25, I (r3.1.length : Int)), (26, I v2_11)], ob := [], base := 0 } : St)
def KK27_2 (a0 : (List api_Factor)) (v1_2 : List Int) (v1_4 : Int) (r3 : ((List Int) × Int)) (r2 : Int) (K : Ex → St → Prop) : Nat × (Int × Int) → Prop := fun o => seln o.1 [K (.exit 2) (sh27_2 a0 v1_2 v1_4 r3 r2 o.2.1 o.2.2)]
def lb_design_Half_2 {A : Type} (an : An A)  (L : Nat) (a0 : (List api_Factor)) (v1_2 : List Int) (v1_4 : Int) (r3 : ((List Int) × Int)) (r2 : Int) (rec : Int → Int → A) (out : Nat × (Int × Int) → A) (v2_6 : Int) (v2_11 : Int) : A :=
 (an.cn (decide (v2_11 < (r3.1.length : Int)))
 (an.gd ((0 : Int) ≤ v2_11)
 (an.gd (v2_11 < ((r3.1.length : Nat) : Int))
 (rec (w64 (v2_6 + (r3.1.getD (Int.toNat v2_11) default))) (w64 (v2_11 + 1)))))
 (an.lf out (0, (v2_6, v2_11))))
def lp_design_Half_2  (L : Nat) (a0 : (List api_Factor)) (v1_2 : List Int) (v1_4 : Int) (r3 : ((List Int) × Int)) (r2 : Int) : Nat → Int → Int → Option (Nat × (Int × Int))
  | 0, _, _ => none
  | n + 1, v2_6, v2_11 => lb_design_Half_2 (anO _)  L a0 v1_2 v1_4 r3 r2 (lp_design_Half_2  L a0 v1_2 v1_4 r3 r2 n) some v2_6 v2_11
theorem ln27_2  (L : Nat) (a0 : (List api_Factor)) (v1_2 : List Int) (v1_4 : Int) (r3 : ((List Int) × Int)) (r2 : Int) (g : Int → Int → Option (Nat × (Int × Int))) (Q : Nat × (Int × Int) → Prop) (v2_6 : Int) (v2_11 : Int) : lb_design_Half_2 anP  L a0 v1_2 v1_4 r3 r2 (fun v2_6 v2_11 => ob (g v2_6 v2_11) Q) Q v2_6 v2_11 = ob (lb_design_Half_2 (anO _)  L a0 v1_2 v1_4 r3 r2 g some v2_6 v2_11) Q := by
  unfold lb_design_Half_2
  dsimp only [anP, anO]
  try simp only [y1, y2, y3, y4, y5 Q, y6, y7, y8 Q, y9, z1, z2, z3, z4]
theorem le27_2  (L : Nat) (a0 : (List api_Factor)) (v1_2 : List Int) (v1_4 : Int) (r3 : ((List Int) × Int)) (r2 : Int) (n : Nat) (v2_6 : Int) (v2_11 : Int) (K : Ex → St → Prop) : loopN (EV (O27 L) L 9 c27.r.r.r.r.r.r.l.r.r.l.l.r.r.r.r.l.l.r.r.r.r.r.r.l.r.r.l.l) [0, 2, 3, 4, 5, 6, 7, 14, 15, 24, 25, 26] [] n (sh27_2 a0 v1_2 v1_4 r3 r2 v2_6 v2_11) K = ob (lp_design_Half_2  L a0 v1_2 v1_4 r3 r2 n v2_6 v2_11) (fun o => KK27_2 a0 v1_2 v1_4 r3 r2 K o) := by
  induction n generalizing v2_6 v2_11 with
  | zero => rfl
  | succ n ih =>
    refine Eq.trans (b := lb_design_Half_2 anP  L a0 v1_2 v1_4 r3 r2 (fun v2_6 v2_11 => loopN (EV (O27 L) L 9 c27.r.r.r.r.r.r.l.r.r.l.l.r.r.r.r.l.l.r.r.r.r.r.r.l.r.r.l.l) [0, 2, 3, 4, 5, 6, 7, 14, 15, 24, 25, 26] [] n (sh27_2 a0 v1_2 v1_4 r3 r2 v2_6 v2_11) K) (KK27_2 a0 v1_2 v1_4 r3 r2 K) v2_6 v2_11) (by kernel_rfl) ?_
    simp only [ih]
    exact ln27_2  L a0 v1_2 v1_4 r3 r2 (lp_design_Half_2  L a0 v1_2 v1_4 r3 r2 n) (KK27_2 a0 v1_2 v1_4 r3 r2 K) v2_6 v2_11
def sh27_1 (a0 : (List api_Factor)) (r2 : Int) (v1_2 : List Int) (v1_4 : Int) : St := ({ fr := [(0, .lst false (.t59 a0)), (2, .lst true (.t3 [])), (3, .lst true (.t3 v1_2)), (14, I r2), (15, I v1_4)], ob := [], base := 0 } : St)
def KK27_1 (a0 : (List api_Factor)) (r2 : Int) (K : Ex → St → Prop) : Nat × (List Int × Int) → Prop := fun o => seln o.1 [K (.exit 0) (sh27_1 a0 r2 o.2.1 o.2.2)]
def lb_design_Half_1 {A : Type} (an : An A)  (L : Nat) (a0 : (List api_Factor)) (r2 : Int) (rec : List Int → Int → A) (out : Nat × (List Int × Int) → A) (v1_2 : List Int) (v1_4 : Int) : A :=
 (an.cn (decide (v1_4 < r2))
 (an.bd (F_design_Point L a0 v1_4) fun r3 =>
 (an.bd (lp_design_Half_2 L a0 v1_2 v1_4 r3 r2 L 0 0) fun o4 =>
 (an.sl o4.1 [(an.cn ((Int.tmod o4.2.1 2) == 0)
 (an.gd ((v1_2.length + [v1_4].length) * 8 ≤ 140737488355328)
 (an.gd (v1_2.length + [v1_4].length ≤ maxLen)
 (rec (v1_2 ++ [v1_4]) (w64 (v1_4 + 1)))))
 (rec v1_2 (w64 (v1_4 + 1))))])))
 (an.lf out (0, (v1_2, v1_4))))
def lp_design_Half_1  (L : Nat) (a0 : (List api_Factor)) (r2 : Int) : Nat → List Int → Int → Option (Nat × (List Int × Int))
  | 0, _, _ => none
  | n + 1, v1_2, v1_4 => lb_design_Half_1 (anO _)  L a0 r2 (lp_design_Half_1  L a0 r2 n) some v1_2 v1_4
theorem ln27_1  (L : Nat) (a0 : (List api_Factor)) (r2 : Int) (g : List Int → Int → Option (Nat × (List Int × Int))) (Q : Nat × (List Int × Int) → Prop) (v1_2 : List Int) (v1_4 : Int) : lb_design_Half_1 anP  L a0 r2 (fun v1_2 v1_4 => ob (g v1_2 v1_4) Q) Q v1_2 v1_4 = ob (lb_design_Half_1 (anO _)  L a0 r2 g some v1_2 v1_4) Q := by
  unfold lb_design_Half_1
  dsimp only [anP, anO]
  try simp only [y1, y2, y3, y4, y5 Q, y6, y7, y8 Q, y9, z1, z2, z3, z4]
def kc27_1  (L : Nat)  (a0 : (List api_Factor)) (r2 : Int) (n : Nat) (K : Ex → St → Prop) : Ex → St → Prop := (kBlock 2 (kSeq (EV (O27 L) L 9 c27.r.r.r.r.r.r.l.r.r.l.l.r.r.r.r.l.l.r.r.r.r.r.r.r) (kBlock 1 (kSeq (EV (O27 L) L 9 c27.r.r.r.r.r.r.l.r.r.l.l.r.r.r.r.r) (kRound (loopN (EV (O27 L) L 9 c27.r.r.r.r.r.r.l.r.r.l.l) [0, 2, 3, 14, 15] [] n) [0, 2, 3, 14, 15] [] K)))))
theorem q27_1  (L : Nat) (v1_2 : List Int) (v1_4 : Int) (r3 : ((List Int) × Int)) (a0 : (List api_Factor)) (r2 : Int) (n : Nat) (K : Ex → St → Prop) (o4 : Nat × (Int × Int)) : KK27_2 a0 v1_2 v1_4 r3 r2 (kc27_1 L a0 r2 n K) o4 =
 (seln o4.1 [(br ((Int.tmod o4.2.1 2) == 0)
 (gd ((v1_2.length + [v1_4].length) * 8 ≤ 140737488355328)
 (gd (v1_2.length + [v1_4].length ≤ maxLen)
 (loopN (EV (O27 L) L 9 c27.r.r.r.r.r.r.l.r.r.l.l) [0, 2, 3, 14, 15] [] n (sh27_1 a0 r2 (v1_2 ++ [v1_4]) (w64 (v1_4 + 1))) K)))
 (loopN (EV (O27 L) L 9 c27.r.r.r.r.r.r.l.r.r.l.l) [0, 2, 3, 14, 15] [] n (sh27_1 a0 r2 v1_2 (w64 (v1_4 + 1))) K))]) := by kernel_rfl
theorem le27_1  (L : Nat) (a0 : (List api_Factor)) (r2 : Int) (n : Nat) (v1_2 : List Int) (v1_4 : Int) (K : Ex → St → Prop) : loopN (EV (O27 L) L 9 c27.r.r.r.r.r.r.l.r.r.l.l) [0, 2, 3, 14, 15] [] n (sh27_1 a0 r2 v1_2 v1_4) K = ob (lp_design_Half_1  L a0 r2 n v1_2 v1_4) (fun o => KK27_1 a0 r2 K o) := by
  induction n generalizing v1_2 v1_4 with
  | zero => rfl
  | succ n ih =>
    refine Eq.trans (b := lb_design_Half_1 anP  L a0 r2 (fun v1_2 v1_4 => loopN (EV (O27 L) L 9 c27.r.r.r.r.r.r.l.r.r.l.l) [0, 2, 3, 14, 15] [] n (sh27_1 a0 r2 v1_2 v1_4) K) (KK27_1 a0 r2 K) v1_2 v1_4) ?_ ?_
    · refine Eq.trans (b := (br (decide (v1_4 < r2))
 (ob (F_design_Point L a0 v1_4) fun r3 =>
 (loopN (EV (O27 L) L 9 c27.r.r.r.r.r.r.l.r.r.l.l.r.r.r.r.l.l.r.r.r.r.r.r.l.r.r.l.l) [0, 2, 3, 4, 5, 6, 7, 14, 15, 24, 25, 26] [] L (sh27_2 a0 v1_2 v1_4 r3 r2 0 0) (kc27_1 L a0 r2 n K)))
 (ob (some (0, (v1_2, v1_4))) (KK27_1 a0 r2 K)))) (by kernel_rfl) ?_
      unfold lb_design_Half_1
      dsimp only [anP]
      simp only [le27_2, q27_1]
    simp only [ih]
    exact ln27_1  L a0 r2 (lp_design_Half_1  L a0 r2 n) (KK27_1 a0 r2 K) v1_2 v1_4
def kc27_2  (L : Nat)  (kk : PV → Prop) : Ex → St → Prop := (kBlock 0 (kSeq (EV (O27 L) L 9 c27.r.r.r.r.r.r.r) (kEnd Tryz.prog (RS Tryz.f27) kk)))
theorem q27_2  (L : Nat) (a0 : (List api_Factor)) (r2 : Int) (kk : PV → Prop) (o3 : Nat × (List Int × Int)) : KK27_1 a0 r2 (kc27_2 L kk) o3 =
 (seln o3.1 [(ob (some o3.2.1) (fun (x : (List Int)) => kk (.lst false (.t3 x))))]) := by kernel_rfl
def T_design_Half {A : Type} (an : An A)  (L : Nat) (a0 : (List api_Factor)) (out : (List Int) → A) : A :=
 (an.bd (F_design_usable L a0) fun r1 =>
 (an.cn (r1 != 0)
 (an.lf out [])
 (an.bd (F_design_Size L a0) fun r2 =>
 (an.bd (lp_design_Half_1 L a0 r2 L [] 0) fun o3 =>
 (an.sl o3.1 [(an.lf out o3.2.1)])))))
def F_design_Half  (L : Nat) (a0 : (List api_Factor)) : Option (List Int) := T_design_Half (anO _) L a0 some
theorem e27  (L : Nat) (a0 : (List api_Factor)) (kk : PV → Prop) : EW (O27 L) L 9 (RS Tryz.f27) c27 [.lst false (.t59 a0)] kk = ob (F_design_Half L a0) (fun (x : (List Int)) => kk (.lst false (.t3 x))) := by
  refine Eq.trans (b := T_design_Half anP L a0 (fun (x : (List Int)) => kk (.lst false (.t3 x)))) ?_ ?_
  · refine Eq.trans (b := (ob (F_design_usable L a0) fun r1 =>
 (br (r1 != 0)
 (ob (some []) (fun (x : (List Int)) => kk (.lst false (.t3 x))))
 (ob (F_design_Size L a0) fun r2 =>
 (loopN (EV (O27 L) L 9 c27.r.r.r.r.r.r.l.r.r.l.l) [0, 2, 3, 14, 15] [] L (sh27_1 a0 r2 [] 0) (kc27_2 L kk)))))) (by kernel_rfl) ?_
    unfold T_design_Half
    dsimp only [anP]
    simp only [le27_1, q27_2]
  generalize (fun (x : (List Int)) => kk (.lst false (.t3 x))) = Q
  unfold F_design_Half T_design_Half
  dsimp only [anP, anO]
  try simp only [y1, y2, y3, y4, y5 Q, y6, y7, y8 Q, y9, z1, z2, z3, z4]
theorem h27   (L : Nat) (a0 : (List api_Factor)) (r : (List Int)) (h : F_design_Half L a0 = some r) : Holds Tryz.prog 27 [.lst false (.t59 a0)] (.lst false (.t3 r)) :=
  hE grwOK (s27  L) mixed Tryz.func27 (by kernel_rfl : cFn Tryz.prog inl Tryz.f27 = some c27) (er := fun (x : (List Int)) => .lst false (.t3 x)) (by kernel_rfl) (e27 L a0) h
/-! ### simulator/simulatorref51.Half -/
noncomputable def c28 : EC := (cFn Tryz.prog inl Tryz.f28).getD .stop
def O28  (L : Nat) : Oracle := (orc 15 (A1 (fun (x : Int) => I x) cl59 (F_R51_Size L)) (orc 17 (A2 (fun (x : ((List Int) × Int)) => .tup [.lst false (.t3 x.1), I x.2]) cl59 (cI .i64) (F_R51_Point L)) (orc 47 (A1 (fun (x : Int) => I x) cl59 (F_R51_Usable L)) noC)))
theorem s28   (L : Nat) : SoundC Tryz.prog (O28 L) := (orc_sound (a1 _ (h15 L)) (orc_sound (a2 _ (h17 L)) (orc_sound (a1 _ (h47 L)) (noC_sound Tryz.prog))))
def sh28_2 (a0 : (List api_Factor)) (v1_2 : List Int) (v1_3 : Int) (r3 : ((List Int) × Int)) (v2_6 : Int) (v2_7 : Int) : St := ({ fr := [(0, .lst false (.t59 a0)), (2, .lst true (.t3 [])), (3, .lst true (.t3 v1_2)), (4, I v1_3), (5, .lst false (.t3 r3.1)), (6, I r3.2), (7, I v2_6), (8, I v2_7)], ob := [], base := 0 } : St)
def KK28_2 (a0 : (List api_Factor)) (v1_2 : List Int) (v1_3 : Int) (r3 : ((List Int) × Int)) (K : Ex → St → Prop) : Nat × (Int × Int) → Prop := fun o => seln o.1 [K (.exit 2) (sh28_2 a0 v1_2 v1_3 r3 o.2.1 o.2.2)]
def lb_R51_Half_2 {A : Type} (an : An A)  (L : Nat) (a0 : (List api_Factor)) (v1_2 : List Int) (v1_3 : Int) (r3 : ((List Int) × Int)) (rec : Int → Int → A) (out : Nat × (Int × Int) → A) (v2_6 : Int) (v2_7 : Int) : A :=
 (an.cn (decide (v2_7 < (r3.1.length : Int)))
 (an.gd ((0 : Int) ≤ v2_7)
 (an.gd (v2_7 < ((r3.1.length : Nat) : Int))
 (rec (w64 (v2_6 + (r3.1.getD (Int.toNat v2_7) default))) (w64 (v2_7 + 1)))))
 (an.lf out (0, (v2_6, v2_7))))
def lp_R51_Half_2  (L : Nat) (a0 : (List api_Factor)) (v1_2 : List Int) (v1_3 : Int) (r3 : ((List Int) × Int)) : Nat → Int → Int → Option (Nat × (Int × Int))
  | 0, _, _ => none
  | n + 1, v2_6, v2_7 => lb_R51_Half_2 (anO _)  L a0 v1_2 v1_3 r3 (lp_R51_Half_2  L a0 v1_2 v1_3 r3 n) some v2_6 v2_7
theorem ln28_2  (L : Nat) (a0 : (List api_Factor)) (v1_2 : List Int) (v1_3 : Int) (r3 : ((List Int) × Int)) (g : Int → Int → Option (Nat × (Int × Int))) (Q : Nat × (Int × Int) → Prop) (v2_6 : Int) (v2_7 : Int) : lb_R51_Half_2 anP  L a0 v1_2 v1_3 r3 (fun v2_6 v2_7 => ob (g v2_6 v2_7) Q) Q v2_6 v2_7 = ob (lb_R51_Half_2 (anO _)  L a0 v1_2 v1_3 r3 g some v2_6 v2_7) Q := by
  unfold lb_R51_Half_2
  dsimp only [anP, anO]
  try simp only [y1, y2, y3, y4, y5 Q, y6, y7, y8 Q, y9, z1, z2, z3, z4]
theorem le28_2  (L : Nat) (a0 : (List api_Factor)) (v1_2 : List Int) (v1_3 : Int) (r3 : ((List Int) × Int)) (n : Nat) (v2_6 : Int) (v2_7 : Int) (K : Ex → St → Prop) : loopN (EV (O28 L) L 9 c28.r.r.r.r.r.r.l.r.r.l.l.r.r.l.l.r.r.r.r.l.r.r.l.l) [0, 2, 3, 4, 5, 6, 7, 8] [] n (sh28_2 a0 v1_2 v1_3 r3 v2_6 v2_7) K = ob (lp_R51_Half_2  L a0 v1_2 v1_3 r3 n v2_6 v2_7) (fun o => KK28_2 a0 v1_2 v1_3 r3 K o) := by
  induction n generalizing v2_6 v2_7 with
  | zero => rfl
  | succ n ih =>
    refine Eq.trans (b := lb_R51_Half_2 anP  L a0 v1_2 v1_3 r3 (fun v2_6 v2_7 => loopN (EV (O28 L) L 9 c28.r.r.r.r.r.r.l.r.r.l.l.r.r.l.l.r.r.r.r.l.r.r.l.l) [0, 2, 3, 4, 5, 6, 7, 8] [] n (sh28_2 a0 v1_2 v1_3 r3 v2_6 v2_7) K) (KK28_2 a0 v1_2 v1_3 r3 K) v2_6 v2_7) (by kernel_rfl) ?_
    simp only [ih]
    exact ln28_2  L a0 v1_2 v1_3 r3 (lp_R51_Half_2  L a0 v1_2 v1_3 r3 n) (KK28_2 a0 v1_2 v1_3 r3 K) v2_6 v2_7
def sh28_1 (a0 : (List api_Factor)) (v1_2 : List Int) (v1_3 : Int) : St := ({ fr := [(0, .lst false (.t59 a0)), (2, .lst true (.t3 [])), (3, .lst true (.t3 v1_2)), (4, I v1_3)], ob := [], base := 0 } : St)
def KK28_1 (a0 : (List api_Factor)) (K : Ex → St → Prop) : Nat × (List Int × Int) → Prop := fun o => seln o.1 [K (.exit 0) (sh28_1 a0 o.2.1 o.2.2)]
def lb_R51_Half_1 {A : Type} (an : An A)  (L : Nat) (a0 : (List api_Factor)) (rec : List Int → Int → A) (out : Nat × (List Int × Int) → A) (v1_2 : List Int) (v1_3 : Int) : A :=
 (an.bd (F_R51_Size L a0) fun r2 =>
 (an.cn (decide (v1_3 < r2))
 (an.bd (F_R51_Point L a0 v1_3) fun r3 =>
 (an.bd (lp_R51_Half_2 L a0 v1_2 v1_3 r3 L 0 0) fun o4 =>
 (an.sl o4.1 [(an.cn ((Int.tmod o4.2.1 2) == 0)
 (an.gd ((v1_2.length + [v1_3].length) * 8 ≤ 140737488355328)
 (an.gd (v1_2.length + [v1_3].length ≤ maxLen)
 (rec (v1_2 ++ [v1_3]) (w64 (v1_3 + 1)))))
 (rec v1_2 (w64 (v1_3 + 1))))])))
 (an.lf out (0, (v1_2, v1_3)))))
def lp_R51_Half_1  (L : Nat) (a0 : (List api_Factor)) : Nat → List Int → Int → Option (Nat × (List Int × Int))
  | 0, _, _ => none
  | n + 1, v1_2, v1_3 => lb_R51_Half_1 (anO _)  L a0 (lp_R51_Half_1  L a0 n) some v1_2 v1_3
theorem ln28_1  (L : Nat) (a0 : (List api_Factor)) (g : List Int → Int → Option (Nat × (List Int × Int))) (Q : Nat × (List Int × Int) → Prop) (v1_2 : List Int) (v1_3 : Int) : lb_R51_Half_1 anP  L a0 (fun v1_2 v1_3 => ob (g v1_2 v1_3) Q) Q v1_2 v1_3 = ob (lb_R51_Half_1 (anO _)  L a0 g some v1_2 v1_3) Q := by
  unfold lb_R51_Half_1
  dsimp only [anP, anO]
  try simp only [y1, y2, y3, y4, y5 Q, y6, y7, y8 Q, y9, z1, z2, z3, z4]
def kc28_1  (L : Nat)  (a0 : (List api_Factor)) (n : Nat) (K : Ex → St → Prop) : Ex → St → Prop := (kBlock 2 (kSeq (EV (O28 L) L 9 c28.r.r.r.r.r.r.l.r.r.l.l.r.r.l.l.r.r.r.r.r) (kBlock 1 (kSeq (EV (O28 L) L 9 c28.r.r.r.r.r.r.l.r.r.l.l.r.r.r) (kRound (loopN (EV (O28 L) L 9 c28.r.r.r.r.r.r.l.r.r.l.l) [0, 2, 3, 4] [] n) [0, 2, 3, 4] [] K)))))
theorem q28_1  (L : Nat) (v1_2 : List Int) (v1_3 : Int) (r3 : ((List Int) × Int)) (a0 : (List api_Factor)) (n : Nat) (K : Ex → St → Prop) (o4 : Nat × (Int × Int)) : KK28_2 a0 v1_2 v1_3 r3 (kc28_1 L a0 n K) o4 =
 (seln o4.1 [(br ((Int.tmod o4.2.1 2) == 0)
 (gd ((v1_2.length + [v1_3].length) * 8 ≤ 140737488355328)
 (gd (v1_2.length + [v1_3].length ≤ maxLen)
 (loopN (EV (O28 L) L 9 c28.r.r.r.r.r.r.l.r.r.l.l) [0, 2, 3, 4] [] n (sh28_1 a0 (v1_2 ++ [v1_3]) (w64 (v1_3 + 1))) K)))
 (loopN (EV (O28 L) L 9 c28.r.r.r.r.r.r.l.r.r.l.l) [0, 2, 3, 4] [] n (sh28_1 a0 v1_2 (w64 (v1_3 + 1))) K))]) := by kernel_rfl
theorem le28_1  (L : Nat) (a0 : (List api_Factor)) (n : Nat) (v1_2 : List Int) (v1_3 : Int) (K : Ex → St → Prop) : loopN (EV (O28 L) L 9 c28.r.r.r.r.r.r.l.r.r.l.l) [0, 2, 3, 4] [] n (sh28_1 a0 v1_2 v1_3) K = ob (lp_R51_Half_1  L a0 n v1_2 v1_3) (fun o => KK28_1 a0 K o) := by
  induction n generalizing v1_2 v1_3 with
  | zero => rfl
  | succ n ih =>
    refine Eq.trans (b := lb_R51_Half_1 anP  L a0 (fun v1_2 v1_3 => loopN (EV (O28 L) L 9 c28.r.r.r.r.r.r.l.r.r.l.l) [0, 2, 3, 4] [] n (sh28_1 a0 v1_2 v1_3) K) (KK28_1 a0 K) v1_2 v1_3) ?_ ?_
    · refine Eq.trans (b := (ob (F_R51_Size L a0) fun r2 =>
 (br (decide (v1_3 < r2))
 (ob (F_R51_Point L a0 v1_3) fun r3 =>
 (loopN (EV (O28 L) L 9 c28.r.r.r.r.r.r.l.r.r.l.l.r.r.l.l.r.r.r.r.l.r.r.l.l) [0, 2, 3, 4, 5, 6, 7, 8] [] L (sh28_2 a0 v1_2 v1_3 r3 0 0) (kc28_1 L a0 n K)))
 (ob (some (0, (v1_2, v1_3))) (KK28_1 a0 K))))) (by kernel_rfl) ?_
      unfold lb_R51_Half_1
      dsimp only [anP]
      simp only [le28_2, q28_1]
    simp only [ih]
    exact ln28_1  L a0 (lp_R51_Half_1  L a0 n) (KK28_1 a0 K) v1_2 v1_3
def kc28_2  (L : Nat)  (kk : PV → Prop) : Ex → St → Prop := (kBlock 0 (kSeq (EV (O28 L) L 9 c28.r.r.r.r.r.r.r) (kEnd Tryz.prog (RS Tryz.f28) kk)))
theorem q28_2  (L : Nat) (a0 : (List api_Factor)) (kk : PV → Prop) (o2 : Nat × (List Int × Int)) : KK28_1 a0 (kc28_2 L kk) o2 =
 (seln o2.1 [(ob (some o2.2.1) (fun (x : (List Int)) => kk (.lst false (.t3 x))))]) := by kernel_rfl
def T_R51_Half {A : Type} (an : An A)  (L : Nat) (a0 : (List api_Factor)) (out : (List Int) → A) : A :=
 (an.bd (F_R51_Usable L a0) fun r1 =>
 (an.cn (r1 != 0)
 (an.lf out [])
 (an.bd (lp_R51_Half_1 L a0 L [] 0) fun o2 =>
 (an.sl o2.1 [(an.lf out o2.2.1)]))))
def F_R51_Half  (L : Nat) (a0 : (List api_Factor)) : Option (List Int) := T_R51_Half (anO _) L a0 some
theorem e28  (L : Nat) (a0 : (List api_Factor)) (kk : PV → Prop) : EW (O28 L) L 9 (RS Tryz.f28) c28 [.lst false (.t59 a0)] kk = ob (F_R51_Half L a0) (fun (x : (List Int)) => kk (.lst false (.t3 x))) := by
  refine Eq.trans (b := T_R51_Half anP L a0 (fun (x : (List Int)) => kk (.lst false (.t3 x)))) ?_ ?_
  · refine Eq.trans (b := (ob (F_R51_Usable L a0) fun r1 =>
 (br (r1 != 0)
 (ob (some []) (fun (x : (List Int)) => kk (.lst false (.t3 x))))
 (loopN (EV (O28 L) L 9 c28.r.r.r.r.r.r.l.r.r.l.l) [0, 2, 3, 4] [] L (sh28_1 a0 [] 0) (kc28_2 L kk))))) (by kernel_rfl) ?_
    unfold T_R51_Half
    dsimp only [anP]
    simp only [le28_1, q28_2]
  generalize (fun (x : (List Int)) => kk (.lst false (.t3 x))) = Q
  unfold F_R51_Half T_R51_Half
  dsimp only [anP, anO]
  try simp only [y1, y2, y3, y4, y5 Q, y6, y7, y8 Q, y9, z1, z2, z3, z4]
theorem h28   (L : Nat) (a0 : (List api_Factor)) (r : (List Int)) (h : F_R51_Half L a0 = some r) : Holds Tryz.prog 28 [.lst false (.t59 a0)] (.lst false (.t3 r)) :=
  hE grwOK (s28  L) mixed Tryz.func28 (by kernel_rfl : cFn Tryz.prog inl Tryz.f28 = some c28) (er := fun (x : (List Int)) => .lst false (.t3 x)) (by kernel_rfl) (e28 L a0) h
/-! ### simulator/simulatorlaw51.DesignParts -/
noncomputable def c5 : EC := (cFn Tryz.prog inl Tryz.f5).getD .stop
def O5  (L : Nat) : Oracle := (orc 9 (A1 (fun (x : Bool) => B x) cl59 (F_L51_small L)) (orc 11 (A0 (fun (x : Bool) => B x)  (F_L51_awake L)) (orc 22 (A2 (fun (x : Bool) => B x) cl3 cl3 (F_R51_Same L)) (orc 24 (A2 (fun (x : ((List (List Int)) × Int)) => .tup [.lst false (.t35 x.1), I x.2]) cl59 cl3 (F_design_Near L)) (orc 25 (A2 (fun (x : ((List (List Int)) × Int)) => .tup [.lst false (.t35 x.1), I x.2]) cl59 cl3 (F_R51_Near L)) (orc 26 (A2 (fun (x : Bool) => B x) cl35 cl35 (F_R51_SamePoints L)) (orc 27 (A1 (fun (x : (List Int)) => .lst false (.t3 x)) cl59 (F_design_Half L)) (orc 28 (A1 (fun (x : (List Int)) => .lst false (.t3 x)) cl59 (F_R51_Half L)) noC))))))))
theorem s5   (L : Nat) : SoundC Tryz.prog (O5 L) := (orc_sound (a1 _ (h9 L)) (orc_sound (a0 _ (h11 L)) (orc_sound (a2 _ (h22 L)) (orc_sound (a2 _ (h24 L)) (orc_sound (a2 _ (h25 L)) (orc_sound (a2 _ (h26 L)) (orc_sound (a1 _ (h27 L)) (orc_sound (a1 _ (h28 L)) (noC_sound Tryz.prog)))))))))
def T_L51_DesignParts {A : Type} (an : An A)  (L : Nat) (a0 : (List api_Factor)) (a1 : (List Int)) (out : Bool → A) : A :=
 (an.bd (F_L51_small L a0) fun r1 =>
 (an.jp (bif (!r1) then true
 else (decide ((a1.length : Int) > 100))) (fun j => (an.cn (!r1)
 (an.ap j true)
 (an.ap j (decide ((a1.length : Int) > 100))))) (fun b2 =>
 (an.cn b2
 (an.bd (F_L51_awake L) fun r3 =>
 (an.lf out r3))
 (an.bd (F_design_Near L a0 a1) fun r4 =>
 (an.bd (F_R51_Near L a0 a1) fun r5 =>
 (an.jb (bif (r4.2 == r5.2) then (Option.bind (F_R51_SamePoints L r4.1 r5.1) fun r7 =>
 (some r7))
 else (some false)) (fun j => (an.cn (r4.2 == r5.2)
 (an.bd (F_R51_SamePoints L r4.1 r5.1) fun r8 =>
 (an.lf j r8))
 (an.lf j false))) (fun b6 =>
 (an.jb (bif b6 then (Option.bind (F_design_Half L a0) fun r10 =>
 (Option.bind (F_R51_Half L a0) fun r11 =>
 (Option.bind (F_R51_Same L r10 r11) fun r12 =>
 (some r12))))
 else (some false)) (fun j => (an.cn b6
 (an.bd (F_design_Half L a0) fun r13 =>
 (an.bd (F_R51_Half L a0) fun r14 =>
 (an.bd (F_R51_Same L r13 r14) fun r15 =>
 (an.lf j r15))))
 (an.lf j false))) (fun b9 =>
 (an.jb (bif b9 then (Option.bind (F_L51_awake L) fun r17 =>
 (some r17))
 else (some false)) (fun j => (an.cn b9
 (an.bd (F_L51_awake L) fun r18 =>
 (an.lf j r18))
 (an.lf j false))) (fun b16 =>
 (an.lf out b16)))))))))))))
def F_L51_DesignParts  (L : Nat) (a0 : (List api_Factor)) (a1 : (List Int)) : Option Bool := T_L51_DesignParts (anO _) L a0 a1 some
theorem e5  (L : Nat) (a0 : (List api_Factor)) (a1 : (List Int)) (kk : PV → Prop) : EW (O5 L) L 9 (RS Tryz.f5) c5 [.lst false (.t59 a0), .lst false (.t3 a1)] kk = ob (F_L51_DesignParts L a0 a1) (fun (x : Bool) => kk (B x)) := by
  refine Eq.trans (b := T_L51_DesignParts anP L a0 a1 (fun (x : Bool) => kk (B x))) (by kernel_rfl) ?_
  generalize (fun (x : Bool) => kk (B x)) = Q
  unfold F_L51_DesignParts T_L51_DesignParts
  dsimp only [anP, anO]
  try simp only [y1, y2, y3, y4, y5 Q, y6, y7, y8 Q, y9, z1, z2, z3, z4]
theorem h5   (L : Nat) (a0 : (List api_Factor)) (a1 : (List Int)) (r : Bool) (h : F_L51_DesignParts L a0 a1 = some r) : Holds Tryz.prog 5 [.lst false (.t59 a0), .lst false (.t3 a1)] (B r) :=
  hE grwOK (s5  L) mixed Tryz.func5 (by kernel_rfl : cFn Tryz.prog inl Tryz.f5 = some c5) (er := fun (x : Bool) => B x) (by kernel_rfl) (e5 L a0 a1) h
/-! ### simulator/simulatorlaw51.before -/
noncomputable def c29 : EC := (cFn Tryz.prog inl Tryz.f29).getD .stop
def O29  (L : Nat) : Oracle := noC
theorem s29   (L : Nat) : SoundC Tryz.prog (O29 L) := (noC_sound Tryz.prog)
def sh29_1 (a0 : (List Int)) (a1 : (List Int)) (v1_2 : Bool) (v1_3 : Int) : St := ({ fr := [(0, .lst false (.t3 a0)), (1, .lst false (.t3 a1)), (4, B v1_2), (5, I v1_3)], ob := [], base := 0 } : St)
def KK29_1 (a0 : (List Int)) (a1 : (List Int)) (K : Ex → St → Prop) : Nat × (Bool × Int) → Prop := fun o => seln o.1 [K .ret (sh29_1 a0 a1 o.2.1 o.2.2), K (.exit 0) (sh29_1 a0 a1 o.2.1 o.2.2)]
def lb_L51_before_1 {A : Type} (an : An A)  (L : Nat) (a0 : (List Int)) (a1 : (List Int)) (rec : Bool → Int → A) (out : Nat × (Bool × Int) → A) (v1_2 : Bool) (v1_3 : Int) : A :=
 (an.jp (bif (decide (v1_3 < (a0.length : Int))) then (decide (v1_3 < (a1.length : Int)))
 else false) (fun j => (an.cn (decide (v1_3 < (a0.length : Int)))
 (an.ap j (decide (v1_3 < (a1.length : Int))))
 (an.ap j false))) (fun b1 =>
 (an.cn b1
 (an.gd ((0 : Int) ≤ v1_3)
 (an.gd (v1_3 < ((a0.length : Nat) : Int))
 (an.gd ((0 : Int) ≤ v1_3)
 (an.gd (v1_3 < ((a1.length : Nat) : Int))
 (an.cn ((a0.getD (Int.toNat v1_3) default) != (a1.getD (Int.toNat v1_3) default))
 (an.gd ((0 : Int) ≤ v1_3)
 (an.gd (v1_3 < ((a0.length : Nat) : Int))
 (an.gd ((0 : Int) ≤ v1_3)
 (an.gd (v1_3 < ((a1.length : Nat) : Int))
 (an.lf out (0, ((decide ((a0.getD (Int.toNat v1_3) default) < (a1.getD (Int.toNat v1_3) default))), v1_3)))))))
 (rec v1_2 (w64 (v1_3 + 1))))))))
 (an.lf out (1, (v1_2, v1_3))))))
def lp_L51_before_1  (L : Nat) (a0 : (List Int)) (a1 : (List Int)) : Nat → Bool → Int → Option (Nat × (Bool × Int))
  | 0, _, _ => none
  | n + 1, v1_2, v1_3 => lb_L51_before_1 (anO _)  L a0 a1 (lp_L51_before_1  L a0 a1 n) some v1_2 v1_3
theorem ln29_1  (L : Nat) (a0 : (List Int)) (a1 : (List Int)) (g : Bool → Int → Option (Nat × (Bool × Int))) (Q : Nat × (Bool × Int) → Prop) (v1_2 : Bool) (v1_3 : Int) : lb_L51_before_1 anP  L a0 a1 (fun v1_2 v1_3 => ob (g v1_2 v1_3) Q) Q v1_2 v1_3 = ob (lb_L51_before_1 (anO _)  L a0 a1 g some v1_2 v1_3) Q := by
  unfold lb_L51_before_1
  dsimp only [anP, anO]
  try simp only [y1, y2, y3, y4, y5 Q, y6, y7, y8 Q, y9, z1, z2, z3, z4]
  try simp only [z5, z6, y1, y2, y3, y4, y5 Q, y6, y7, y8 Q, y9, z1, z2, z3, z4]
theorem le29_1  (L : Nat) (a0 : (List Int)) (a1 : (List Int)) (n : Nat) (v1_2 : Bool) (v1_3 : Int) (K : Ex → St → Prop) : loopN (EV (O29 L) L 9 c29.r.r.l.r.r.l.l) [0, 1, 4, 5] [] n (sh29_1 a0 a1 v1_2 v1_3) K = ob (lp_L51_before_1  L a0 a1 n v1_2 v1_3) (fun o => KK29_1 a0 a1 K o) := by
  induction n generalizing v1_2 v1_3 with
  | zero => rfl
  | succ n ih =>
    refine Eq.trans (b := lb_L51_before_1 anP  L a0 a1 (fun v1_2 v1_3 => loopN (EV (O29 L) L 9 c29.r.r.l.r.r.l.l) [0, 1, 4, 5] [] n (sh29_1 a0 a1 v1_2 v1_3) K) (KK29_1 a0 a1 K) v1_2 v1_3) (by kernel_rfl) ?_
    simp only [ih]
    exact ln29_1  L a0 a1 (lp_L51_before_1  L a0 a1 n) (KK29_1 a0 a1 K) v1_2 v1_3
def kc29_1  (L : Nat)  (kk : PV → Prop) : Ex → St → Prop := (kBlock 0 (kSeq (EV (O29 L) L 9 c29.r.r.r) (kEnd Tryz.prog (RS Tryz.f29) kk)))
theorem q29_1  (L : Nat) (a0 : (List Int)) (a1 : (List Int)) (kk : PV → Prop) (o1 : Nat × (Bool × Int)) : KK29_1 a0 a1 (kc29_1 L kk) o1 =
 (seln o1.1 [(ob (some o1.2.1) (fun (x : Bool) => kk (B x))),
 (ob (some false) (fun (x : Bool) => kk (B x)))]) := by kernel_rfl
def T_L51_before {A : Type} (an : An A)  (L : Nat) (a0 : (List Int)) (a1 : (List Int)) (out : Bool → A) : A :=
 (an.bd (lp_L51_before_1 L a0 a1 L false 0) fun o1 =>
 (an.sl o1.1 [(an.lf out o1.2.1),
 (an.lf out false)]))
def F_L51_before  (L : Nat) (a0 : (List Int)) (a1 : (List Int)) : Option Bool := T_L51_before (anO _) L a0 a1 some
theorem e29  (L : Nat) (a0 : (List Int)) (a1 : (List Int)) (kk : PV → Prop) : EW (O29 L) L 9 (RS Tryz.f29) c29 [.lst false (.t3 a0), .lst false (.t3 a1)] kk = ob (F_L51_before L a0 a1) (fun (x : Bool) => kk (B x)) := by
  refine Eq.trans (b := T_L51_before anP L a0 a1 (fun (x : Bool) => kk (B x))) ?_ ?_
  · refine Eq.trans (b := (loopN (EV (O29 L) L 9 c29.r.r.l.r.r.l.l) [0, 1, 4, 5] [] L (sh29_1 a0 a1 false 0) (kc29_1 L kk))) (by kernel_rfl) ?_
    unfold T_L51_before
    dsimp only [anP]
    simp only [le29_1, q29_1]
  generalize (fun (x : Bool) => kk (B x)) = Q
  unfold F_L51_before T_L51_before
  dsimp only [anP, anO]
  try simp only [y1, y2, y3, y4, y5 Q, y6, y7, y8 Q, y9, z1, z2, z3, z4]
theorem h29   (L : Nat) (a0 : (List Int)) (a1 : (List Int)) (r : Bool) (h : F_L51_before L a0 a1 = some r) : Holds Tryz.prog 29 [.lst false (.t3 a0), .lst false (.t3 a1)] (B r) :=
  hE grwOK (s29  L) mixed Tryz.func29 (by kernel_rfl : cFn Tryz.prog inl Tryz.f29 = some c29) (er := fun (x : Bool) => B x) (by kernel_rfl) (e29 L a0 a1) h
/-! ### simulator/simulatorlaw51.DesignIndexes -/
noncomputable def c6 : EC := (cFn Tryz.prog inl Tryz.f6).getD .stop
def O6  (L : Nat) : Oracle := (orc 9 (A1 (fun (x : Bool) => B x) cl59 (F_L51_small L)) (orc 11 (A0 (fun (x : Bool) => B x)  (F_L51_awake L)) (orc 14 (A1 (fun (x : Int) => I x) cl59 (F_design_Size L)) (orc 16 (A2 (fun (x : ((List Int) × Int)) => .tup [.lst false (.t3 x.1), I x.2]) cl59 (cI .i64) (F_design_Point L)) (orc 18 (A2 (fun (x : (Int × Int)) => .tup [I x.1, I x.2]) cl59 cl3 (F_design_Index L)) (orc 29 (A2 (fun (x : Bool) => B x) cl3 cl3 (F_L51_before L)) noC))))))
theorem s6   (L : Nat) : SoundC Tryz.prog (O6 L) := (orc_sound (a1 _ (h9 L)) (orc_sound (a0 _ (h11 L)) (orc_sound (a1 _ (h14 L)) (orc_sound (a2 _ (h16 L)) (orc_sound (a2 _ (h18 L)) (orc_sound (a2 _ (h29 L)) (noC_sound Tryz.prog)))))))
def T_L51_DesignIndexes {A : Type} (an : An A)  (L : Nat) (a0 : (List api_Factor)) (a1 : Int) (out : Bool → A) : A :=
 (an.bd (F_L51_small L a0) fun r1 =>
 (an.cn (!r1)
 (an.bd (F_L51_awake L) fun r2 =>
 (an.lf out r2))
 (an.bd (F_design_Point L a0 a1) fun r3 =>
 (an.cn (r3.2 != 0)
 (an.jb (bif ((r3.1.length : Int) == 0) then (Option.bind (F_L51_awake L) fun r5 =>
 (some r5))
 else (some false)) (fun j => (an.cn ((r3.1.length : Int) == 0)
 (an.bd (F_L51_awake L) fun r6 =>
 (an.lf j r6))
 (an.lf j false))) (fun b4 =>
 (an.lf out b4)))
 (an.bd (F_design_Index L a0 r3.1) fun r7 =>
 (an.jp (bif (r7.2 != 0) then true
 else (r7.1 != a1)) (fun j => (an.cn (r7.2 != 0)
 (an.ap j true)
 (an.ap j (r7.1 != a1)))) (fun b8 =>
 (an.jp (bif b8 then true
 else ((r3.1.length : Int) != (a0.length : Int))) (fun j => (an.cn b8
 (an.ap j true)
 (an.ap j ((r3.1.length : Int) != (a0.length : Int))))) (fun b9 =>
 (an.jp (bif b9 then true
 else (decide (a1 < 0))) (fun j => (an.cn b9
 (an.ap j true)
 (an.ap j (decide (a1 < 0))))) (fun b10 =>
 (an.jb (bif b10 then (some true)
 else (Option.bind (F_design_Size L a0) fun r12 =>
 (some (decide (a1 ≥ r12))))) (fun j => (an.cn b10
 (an.lf j true)
 (an.bd (F_design_Size L a0) fun r13 =>
 (an.lf j (decide (a1 ≥ r13)))))) (fun b11 =>
 (an.cn b11
 (an.lf out false)
 (an.bd (F_design_Size L a0) fun r14 =>
 (an.cn (decide ((w64 (a1 + 1)) < r14))
 (an.bd (F_design_Point L a0 (w64 (a1 + 1))) fun r15 =>
 (an.jp (bif (r15.2 != 0) then true
 else ((r15.1.length : Int) != (a0.length : Int))) (fun j => (an.cn (r15.2 != 0)
 (an.ap j true)
 (an.ap j ((r15.1.length : Int) != (a0.length : Int))))) (fun b16 =>
 (an.jb (bif b16 then (some true)
 else (Option.bind (F_L51_before L r3.1 r15.1) fun r18 =>
 (some (!r18)))) (fun j => (an.cn b16
 (an.lf j true)
 (an.bd (F_L51_before L r3.1 r15.1) fun r19 =>
 (an.lf j (!r19))))) (fun b17 =>
 (an.cn b17
 (an.lf out false)
 (an.bd (F_L51_awake L) fun r20 =>
 (an.lf out r20))))))))
 (an.bd (F_L51_awake L) fun r21 =>
 (an.lf out r21))))))))))))))))))
def F_L51_DesignIndexes  (L : Nat) (a0 : (List api_Factor)) (a1 : Int) : Option Bool := T_L51_DesignIndexes (anO _) L a0 a1 some
theorem e6  (L : Nat) (a0 : (List api_Factor)) (a1 : Int) (kk : PV → Prop) : EW (O6 L) L 9 (RS Tryz.f6) c6 [.lst false (.t59 a0), I a1] kk = ob (F_L51_DesignIndexes L a0 a1) (fun (x : Bool) => kk (B x)) := by
  refine Eq.trans (b := T_L51_DesignIndexes anP L a0 a1 (fun (x : Bool) => kk (B x))) (by kernel_rfl) ?_
  generalize (fun (x : Bool) => kk (B x)) = Q
  unfold F_L51_DesignIndexes T_L51_DesignIndexes
  dsimp only [anP, anO]
  try simp only [y1, y2, y3, y4, y5 Q, y6, y7, y8 Q, y9, z1, z2, z3, z4]
theorem h6   (L : Nat) (a0 : (List api_Factor)) (a1 : Int) (r : Bool) (h : F_L51_DesignIndexes L a0 a1 = some r) : Holds Tryz.prog 6 [.lst false (.t59 a0), I a1] (B r) :=
  hE grwOK (s6  L) mixed Tryz.func6 (by kernel_rfl : cFn Tryz.prog inl Tryz.f6 = some c6) (er := fun (x : Bool) => B x) (by kernel_rfl) (e6 L a0 a1) h
/-! ### simulator/simulatorlaw51.contains -/
noncomputable def c30 : EC := (cFn Tryz.prog inl Tryz.f30).getD .stop
def O30  (L : Nat) : Oracle := (orc 22 (A2 (fun (x : Bool) => B x) cl3 cl3 (F_R51_Same L)) noC)
theorem s30   (L : Nat) : SoundC Tryz.prog (O30 L) := (orc_sound (a2 _ (h22 L)) (noC_sound Tryz.prog))
def sh30_1 (a0 : (List (List Int))) (a1 : (List Int)) (v1_2 : Bool) (v1_3 : Int) : St := ({ fr := [(0, .lst false (.t35 a0)), (1, .lst false (.t3 a1)), (4, B v1_2), (5, I v1_3)], ob := [], base := 0 } : St)
def KK30_1 (a0 : (List (List Int))) (a1 : (List Int)) (K : Ex → St → Prop) : Nat × (Bool × Int) → Prop := fun o => seln o.1 [K .ret (sh30_1 a0 a1 o.2.1 o.2.2), K (.exit 0) (sh30_1 a0 a1 o.2.1 o.2.2)]
def lb_L51_contains_1 {A : Type} (an : An A)  (L : Nat) (a0 : (List (List Int))) (a1 : (List Int)) (rec : Bool → Int → A) (out : Nat × (Bool × Int) → A) (v1_2 : Bool) (v1_3 : Int) : A :=
 (an.cn (decide (v1_3 < (a0.length : Int)))
 (an.gd ((0 : Int) ≤ v1_3)
 (an.gd (v1_3 < ((a0.length : Nat) : Int))
 (an.bd (F_R51_Same L (a0.getD (Int.toNat v1_3) default) a1) fun r1 =>
 (an.cn r1
 (an.lf out (0, (true, v1_3)))
 (rec v1_2 (w64 (v1_3 + 1)))))))
 (an.lf out (1, (v1_2, v1_3))))
def lp_L51_contains_1  (L : Nat) (a0 : (List (List Int))) (a1 : (List Int)) : Nat → Bool → Int → Option (Nat × (Bool × Int))
  | 0, _, _ => none
  | n + 1, v1_2, v1_3 => lb_L51_contains_1 (anO _)  L a0 a1 (lp_L51_contains_1  L a0 a1 n) some v1_2 v1_3
theorem ln30_1  (L : Nat) (a0 : (List (List Int))) (a1 : (List Int)) (g : Bool → Int → Option (Nat × (Bool × Int))) (Q : Nat × (Bool × Int) → Prop) (v1_2 : Bool) (v1_3 : Int) : lb_L51_contains_1 anP  L a0 a1 (fun v1_2 v1_3 => ob (g v1_2 v1_3) Q) Q v1_2 v1_3 = ob (lb_L51_contains_1 (anO _)  L a0 a1 g some v1_2 v1_3) Q := by
  unfold lb_L51_contains_1
  dsimp only [anP, anO]
  try simp only [y1, y2, y3, y4, y5 Q, y6, y7, y8 Q, y9, z1, z2, z3, z4]
theorem le30_1  (L : Nat) (a0 : (List (List Int))) (a1 : (List Int)) (n : Nat) (v1_2 : Bool) (v1_3 : Int) (K : Ex → St → Prop) : loopN (EV (O30 L) L 9 c30.r.r.l.r.r.l.l) [0, 1, 4, 5] [] n (sh30_1 a0 a1 v1_2 v1_3) K = ob (lp_L51_contains_1  L a0 a1 n v1_2 v1_3) (fun o => KK30_1 a0 a1 K o) := by
  induction n generalizing v1_2 v1_3 with
  | zero => rfl
  | succ n ih =>
    refine Eq.trans (b := lb_L51_contains_1 anP  L a0 a1 (fun v1_2 v1_3 => loopN (EV (O30 L) L 9 c30.r.r.l.r.r.l.l) [0, 1, 4, 5] [] n (sh30_1 a0 a1 v1_2 v1_3) K) (KK30_1 a0 a1 K) v1_2 v1_3) (by kernel_rfl) ?_
    simp only [ih]
    exact ln30_1  L a0 a1 (lp_L51_contains_1  L a0 a1 n) (KK30_1 a0 a1 K) v1_2 v1_3
def kc30_1  (L : Nat)  (kk : PV → Prop) : Ex → St → Prop := (kBlock 0 (kSeq (EV (O30 L) L 9 c30.r.r.r) (kEnd Tryz.prog (RS Tryz.f30) kk)))
theorem q30_1  (L : Nat) (a0 : (List (List Int))) (a1 : (List Int)) (kk : PV → Prop) (o1 : Nat × (Bool × Int)) : KK30_1 a0 a1 (kc30_1 L kk) o1 =
 (seln o1.1 [(ob (some o1.2.1) (fun (x : Bool) => kk (B x))),
 (ob (some false) (fun (x : Bool) => kk (B x)))]) := by kernel_rfl
def T_L51_contains {A : Type} (an : An A)  (L : Nat) (a0 : (List (List Int))) (a1 : (List Int)) (out : Bool → A) : A :=
 (an.bd (lp_L51_contains_1 L a0 a1 L false 0) fun o1 =>
 (an.sl o1.1 [(an.lf out o1.2.1),
 (an.lf out false)]))
def F_L51_contains  (L : Nat) (a0 : (List (List Int))) (a1 : (List Int)) : Option Bool := T_L51_contains (anO _) L a0 a1 some
theorem e30  (L : Nat) (a0 : (List (List Int))) (a1 : (List Int)) (kk : PV → Prop) : EW (O30 L) L 9 (RS Tryz.f30) c30 [.lst false (.t35 a0), .lst false (.t3 a1)] kk = ob (F_L51_contains L a0 a1) (fun (x : Bool) => kk (B x)) := by
  refine Eq.trans (b := T_L51_contains anP L a0 a1 (fun (x : Bool) => kk (B x))) ?_ ?_
  · refine Eq.trans (b := (loopN (EV (O30 L) L 9 c30.r.r.l.r.r.l.l) [0, 1, 4, 5] [] L (sh30_1 a0 a1 false 0) (kc30_1 L kk))) (by kernel_rfl) ?_
    unfold T_L51_contains
    dsimp only [anP]
    simp only [le30_1, q30_1]
  generalize (fun (x : Bool) => kk (B x)) = Q
  unfold F_L51_contains T_L51_contains
  dsimp only [anP, anO]
  try simp only [y1, y2, y3, y4, y5 Q, y6, y7, y8 Q, y9, z1, z2, z3, z4]
theorem h30   (L : Nat) (a0 : (List (List Int))) (a1 : (List Int)) (r : Bool) (h : F_L51_contains L a0 a1 = some r) : Holds Tryz.prog 30 [.lst false (.t35 a0), .lst false (.t3 a1)] (B r) :=
  hE grwOK (s30  L) mixed Tryz.func30 (by kernel_rfl : cFn Tryz.prog inl Tryz.f30 = some c30) (er := fun (x : Bool) => B x) (by kernel_rfl) (e30 L a0 a1) h
/-! ### simulator/simulatorlaw51.in -/
noncomputable def c31 : EC := (cFn Tryz.prog inl Tryz.f31).getD .stop
def O31  (L : Nat) : Oracle := noC
theorem s31   (L : Nat) : SoundC Tryz.prog (O31 L) := (noC_sound Tryz.prog)
def sh31_1 (a0 : (List Int)) (a1 : Int) (v1_2 : Bool) (v1_3 : Int) : St := ({ fr := [(0, .lst false (.t3 a0)), (1, I a1), (4, B v1_2), (5, I v1_3)], ob := [], base := 0 } : St)
def KK31_1 (a0 : (List Int)) (a1 : Int) (K : Ex → St → Prop) : Nat × (Bool × Int) → Prop := fun o => seln o.1 [K .ret (sh31_1 a0 a1 o.2.1 o.2.2), K (.exit 0) (sh31_1 a0 a1 o.2.1 o.2.2)]
def lb_L51_in_1 {A : Type} (an : An A)  (L : Nat) (a0 : (List Int)) (a1 : Int) (rec : Bool → Int → A) (out : Nat × (Bool × Int) → A) (v1_2 : Bool) (v1_3 : Int) : A :=
 (an.cn (decide (v1_3 < (a0.length : Int)))
 (an.gd ((0 : Int) ≤ v1_3)
 (an.gd (v1_3 < ((a0.length : Nat) : Int))
 (an.cn ((a0.getD (Int.toNat v1_3) default) == a1)
 (an.lf out (0, (true, v1_3)))
 (rec v1_2 (w64 (v1_3 + 1))))))
 (an.lf out (1, (v1_2, v1_3))))
def lp_L51_in_1  (L : Nat) (a0 : (List Int)) (a1 : Int) : Nat → Bool → Int → Option (Nat × (Bool × Int))
  | 0, _, _ => none
  | n + 1, v1_2, v1_3 => lb_L51_in_1 (anO _)  L a0 a1 (lp_L51_in_1  L a0 a1 n) some v1_2 v1_3
theorem ln31_1  (L : Nat) (a0 : (List Int)) (a1 : Int) (g : Bool → Int → Option (Nat × (Bool × Int))) (Q : Nat × (Bool × Int) → Prop) (v1_2 : Bool) (v1_3 : Int) : lb_L51_in_1 anP  L a0 a1 (fun v1_2 v1_3 => ob (g v1_2 v1_3) Q) Q v1_2 v1_3 = ob (lb_L51_in_1 (anO _)  L a0 a1 g some v1_2 v1_3) Q := by
  unfold lb_L51_in_1
  dsimp only [anP, anO]
  try simp only [y1, y2, y3, y4, y5 Q, y6, y7, y8 Q, y9, z1, z2, z3, z4]
theorem le31_1  (L : Nat) (a0 : (List Int)) (a1 : Int) (n : Nat) (v1_2 : Bool) (v1_3 : Int) (K : Ex → St → Prop) : loopN (EV (O31 L) L 9 c31.r.r.l.r.r.l.l) [0, 1, 4, 5] [] n (sh31_1 a0 a1 v1_2 v1_3) K = ob (lp_L51_in_1  L a0 a1 n v1_2 v1_3) (fun o => KK31_1 a0 a1 K o) := by
  induction n generalizing v1_2 v1_3 with
  | zero => rfl
  | succ n ih =>
    refine Eq.trans (b := lb_L51_in_1 anP  L a0 a1 (fun v1_2 v1_3 => loopN (EV (O31 L) L 9 c31.r.r.l.r.r.l.l) [0, 1, 4, 5] [] n (sh31_1 a0 a1 v1_2 v1_3) K) (KK31_1 a0 a1 K) v1_2 v1_3) (by kernel_rfl) ?_
    simp only [ih]
    exact ln31_1  L a0 a1 (lp_L51_in_1  L a0 a1 n) (KK31_1 a0 a1 K) v1_2 v1_3
def kc31_1  (L : Nat)  (kk : PV → Prop) : Ex → St → Prop := (kBlock 0 (kSeq (EV (O31 L) L 9 c31.r.r.r) (kEnd Tryz.prog (RS Tryz.f31) kk)))
theorem q31_1  (L : Nat) (a0 : (List Int)) (a1 : Int) (kk : PV → Prop) (o1 : Nat × (Bool × Int)) : KK31_1 a0 a1 (kc31_1 L kk) o1 =
 (seln o1.1 [(ob (some o1.2.1) (fun (x : Bool) => kk (B x))),
 (ob (some false) (fun (x : Bool) => kk (B x)))]) := by kernel_rfl
def T_L51_in {A : Type} (an : An A)  (L : Nat) (a0 : (List Int)) (a1 : Int) (out : Bool → A) : A :=
 (an.bd (lp_L51_in_1 L a0 a1 L false 0) fun o1 =>
 (an.sl o1.1 [(an.lf out o1.2.1),
 (an.lf out false)]))
def F_L51_in  (L : Nat) (a0 : (List Int)) (a1 : Int) : Option Bool := T_L51_in (anO _) L a0 a1 some
theorem e31  (L : Nat) (a0 : (List Int)) (a1 : Int) (kk : PV → Prop) : EW (O31 L) L 9 (RS Tryz.f31) c31 [.lst false (.t3 a0), I a1] kk = ob (F_L51_in L a0 a1) (fun (x : Bool) => kk (B x)) := by
  refine Eq.trans (b := T_L51_in anP L a0 a1 (fun (x : Bool) => kk (B x))) ?_ ?_
  · refine Eq.trans (b := (loopN (EV (O31 L) L 9 c31.r.r.l.r.r.l.l) [0, 1, 4, 5] [] L (sh31_1 a0 a1 false 0) (kc31_1 L kk))) (by kernel_rfl) ?_
    unfold T_L51_in
    dsimp only [anP]
    simp only [le31_1, q31_1]
  generalize (fun (x : Bool) => kk (B x)) = Q
  unfold F_L51_in T_L51_in
  dsimp only [anP, anO]
  try simp only [y1, y2, y3, y4, y5 Q, y6, y7, y8 Q, y9, z1, z2, z3, z4]
theorem h31   (L : Nat) (a0 : (List Int)) (a1 : Int) (r : Bool) (h : F_L51_in L a0 a1 = some r) : Holds Tryz.prog 31 [.lst false (.t3 a0), I a1] (B r) :=
  hE grwOK (s31  L) mixed Tryz.func31 (by kernel_rfl : cFn Tryz.prog inl Tryz.f31 = some c31) (er := fun (x : Bool) => B x) (by kernel_rfl) (e31 L a0 a1) h
/-! ### simulator/simulatorlaw51.DesignNeighbors -/
noncomputable def c7 : EC := (cFn Tryz.prog inl Tryz.f7).getD .stop
def O7  (L : Nat) : Oracle := (orc 9 (A1 (fun (x : Bool) => B x) cl59 (F_L51_small L)) (orc 11 (A0 (fun (x : Bool) => B x)  (F_L51_awake L)) (orc 18 (A2 (fun (x : (Int × Int)) => .tup [I x.1, I x.2]) cl59 cl3 (F_design_Index L)) (orc 24 (A2 (fun (x : ((List (List Int)) × Int)) => .tup [.lst false (.t35 x.1), I x.2]) cl59 cl3 (F_design_Near L)) (orc 27 (A1 (fun (x : (List Int)) => .lst false (.t3 x)) cl59 (F_design_Half L)) (orc 30 (A2 (fun (x : Bool) => B x) cl35 cl3 (F_L51_contains L)) (orc 31 (A2 (fun (x : Bool) => B x) cl3 (cI .i64) (F_L51_in L)) noC)))))))
theorem s7   (L : Nat) : SoundC Tryz.prog (O7 L) := (orc_sound (a1 _ (h9 L)) (orc_sound (a0 _ (h11 L)) (orc_sound (a2 _ (h18 L)) (orc_sound (a2 _ (h24 L)) (orc_sound (a1 _ (h27 L)) (orc_sound (a2 _ (h30 L)) (orc_sound (a2 _ (h31 L)) (noC_sound Tryz.prog))))))))
def sh7_2 (a0 : (List api_Factor)) (a1 : (List Int)) (v1_2 : Bool) (r4 : ((List (List Int)) × Int)) (r8 : (List Int)) (r9 : (Int × Int)) (v1_6 : Int) (r10 : ((List (List Int)) × Int)) (r11 : (Int × Int)) (v2_11 : Int) (v2_12 : Int) : St := ({ fr := [(0, .lst false (.t59 a0)), (1, .lst false (.t3 a1)), (4, B v1_2), (5, .lst false (.t35 r4.1)), (6, .any), (7, .lst false (.t3 r8)), (8, I r9.1), (9, .any), (10, I v1_6), (11, .lst false (.t35 r10.1)), (12, I r10.2), (13, I r11.1), (14, I r11.2), (15, I v2_11), (16, I v2_12)], ob := [], base := 0 } : St)
def KK7_2 (a0 : (List api_Factor)) (a1 : (List Int)) (v1_2 : Bool) (r4 : ((List (List Int)) × Int)) (r8 : (List Int)) (r9 : (Int × Int)) (v1_6 : Int) (r10 : ((List (List Int)) × Int)) (r11 : (Int × Int)) (K : Ex → St → Prop) : Nat × (Int × Int) → Prop := fun o => seln o.1 [K (.exit 2) (sh7_2 a0 a1 v1_2 r4 r8 r9 v1_6 r10 r11 o.2.1 o.2.2)]
def lb_L51_DesignNeighbors_2 {A : Type} (an : An A)  (L : Nat) (a0 : (List api_Factor)) (a1 : (List Int)) (v1_2 : Bool) (r4 : ((List (List Int)) × Int)) (r8 : (List Int)) (r9 : (Int × Int)) (v1_6 : Int) (r10 : ((List (List Int)) × Int)) (r11 : (Int × Int)) (rec : Int → Int → A) (out : Nat × (Int × Int) → A) (v2_11 : Int) (v2_12 : Int) : A :=
 (an.cn (decide (v2_12 < (a1.length : Int)))
 (an.gd ((0 : Int) ≤ v2_12)
 (an.gd (v2_12 < ((a1.length : Nat) : Int))
 (an.gd ((0 : Int) ≤ v1_6)
 (an.gd (v1_6 < ((r4.1.length : Nat) : Int))
 (an.gd ((0 : Int) ≤ v2_12)
 (an.gd (v2_12 < (((r4.1.getD (Int.toNat v1_6) default).length : Nat) : Int))
 (an.gd ((0 : Int) ≤ v1_6)
 (an.gd (v1_6 < ((r4.1.length : Nat) : Int))
 (an.gd ((0 : Int) ≤ v2_12)
 (an.gd (v2_12 < (((r4.1.getD (Int.toNat v1_6) default).length : Nat) : Int))
 (an.gd ((0 : Int) ≤ v2_12)
 (an.gd (v2_12 < ((a1.length : Nat) : Int))
 (rec (w64 (v2_11 + (if (w64 (((r4.1.getD (Int.toNat v1_6) default).getD (Int.toNat v2_12) default) - (a1.getD (Int.toNat v2_12) default))) > (w64 ((a1.getD (Int.toNat v2_12) default) - ((r4.1.getD (Int.toNat v1_6) default).getD (Int.toNat v2_12) default))) then (w64 (((r4.1.getD (Int.toNat v1_6) default).getD (Int.toNat v2_12) default) - (a1.getD (Int.toNat v2_12) default))) else (w64 ((a1.getD (Int.toNat v2_12) default) - ((r4.1.getD (Int.toNat v1_6) default).getD (Int.toNat v2_12) default)))))) (w64 (v2_12 + 1)))))))))))))))
 (an.lf out (0, (v2_11, v2_12))))
def lp_L51_DesignNeighbors_2  (L : Nat) (a0 : (List api_Factor)) (a1 : (List Int)) (v1_2 : Bool) (r4 : ((List (List Int)) × Int)) (r8 : (List Int)) (r9 : (Int × Int)) (v1_6 : Int) (r10 : ((List (List Int)) × Int)) (r11 : (Int × Int)) : Nat → Int → Int → Option (Nat × (Int × Int))
  | 0, _, _ => none
  | n + 1, v2_11, v2_12 => lb_L51_DesignNeighbors_2 (anO _)  L a0 a1 v1_2 r4 r8 r9 v1_6 r10 r11 (lp_L51_DesignNeighbors_2  L a0 a1 v1_2 r4 r8 r9 v1_6 r10 r11 n) some v2_11 v2_12
theorem ln7_2  (L : Nat) (a0 : (List api_Factor)) (a1 : (List Int)) (v1_2 : Bool) (r4 : ((List (List Int)) × Int)) (r8 : (List Int)) (r9 : (Int × Int)) (v1_6 : Int) (r10 : ((List (List Int)) × Int)) (r11 : (Int × Int)) (g : Int → Int → Option (Nat × (Int × Int))) (Q : Nat × (Int × Int) → Prop) (v2_11 : Int) (v2_12 : Int) : lb_L51_DesignNeighbors_2 anP  L a0 a1 v1_2 r4 r8 r9 v1_6 r10 r11 (fun v2_11 v2_12 => ob (g v2_11 v2_12) Q) Q v2_11 v2_12 = ob (lb_L51_DesignNeighbors_2 (anO _)  L a0 a1 v1_2 r4 r8 r9 v1_6 r10 r11 g some v2_11 v2_12) Q := by
  unfold lb_L51_DesignNeighbors_2
  dsimp only [anP, anO]
  try simp only [y1, y2, y3, y4, y5 Q, y6, y7, y8 Q, y9, z1, z2, z3, z4]
theorem le7_2  (L : Nat) (a0 : (List api_Factor)) (a1 : (List Int)) (v1_2 : Bool) (r4 : ((List (List Int)) × Int)) (r8 : (List Int)) (r9 : (Int × Int)) (v1_6 : Int) (r10 : ((List (List Int)) × Int)) (r11 : (Int × Int)) (n : Nat) (v2_11 : Int) (v2_12 : Int) (K : Ex → St → Prop) : loopN (EV (O7 L) L 9 c7.r.r.r.r.r.r.r.r.r.r.r.r.r.r.l.r.r.l.l.r.r.l.l.r.r.r.r.r.r.r.r.l.r.r.l.l) [0, 1, 4, 5, 6, 7, 8, 9, 10, 11, 12, 13, 14, 15, 16] [] n (sh7_2 a0 a1 v1_2 r4 r8 r9 v1_6 r10 r11 v2_11 v2_12) K = ob (lp_L51_DesignNeighbors_2  L a0 a1 v1_2 r4 r8 r9 v1_6 r10 r11 n v2_11 v2_12) (fun o => KK7_2 a0 a1 v1_2 r4 r8 r9 v1_6 r10 r11 K o) := by
  induction n generalizing v2_11 v2_12 with
  | zero => rfl
  | succ n ih =>
    refine Eq.trans (b := lb_L51_DesignNeighbors_2 anP  L a0 a1 v1_2 r4 r8 r9 v1_6 r10 r11 (fun v2_11 v2_12 => loopN (EV (O7 L) L 9 c7.r.r.r.r.r.r.r.r.r.r.r.r.r.r.l.r.r.l.l.r.r.l.l.r.r.r.r.r.r.r.r.l.r.r.l.l) [0, 1, 4, 5, 6, 7, 8, 9, 10, 11, 12, 13, 14, 15, 16] [] n (sh7_2 a0 a1 v1_2 r4 r8 r9 v1_6 r10 r11 v2_11 v2_12) K) (KK7_2 a0 a1 v1_2 r4 r8 r9 v1_6 r10 r11 K) v2_11 v2_12) (by kernel_rfl) ?_
    simp only [ih]
    exact ln7_2  L a0 a1 v1_2 r4 r8 r9 v1_6 r10 r11 (lp_L51_DesignNeighbors_2  L a0 a1 v1_2 r4 r8 r9 v1_6 r10 r11 n) (KK7_2 a0 a1 v1_2 r4 r8 r9 v1_6 r10 r11 K) v2_11 v2_12
def sh7_1 (a0 : (List api_Factor)) (a1 : (List Int)) (r4 : ((List (List Int)) × Int)) (r8 : (List Int)) (r9 : (Int × Int)) (v1_2 : Bool) (v1_6 : Int) : St := ({ fr := [(0, .lst false (.t59 a0)), (1, .lst false (.t3 a1)), (4, B v1_2), (5, .lst false (.t35 r4.1)), (6, .any), (7, .lst false (.t3 r8)), (8, I r9.1), (9, .any), (10, I v1_6)], ob := [], base := 0 } : St)
def KK7_1 (a0 : (List api_Factor)) (a1 : (List Int)) (r4 : ((List (List Int)) × Int)) (r8 : (List Int)) (r9 : (Int × Int)) (K : Ex → St → Prop) : Nat × (Bool × Int) → Prop := fun o => seln o.1 [K .ret (sh7_1 a0 a1 r4 r8 r9 o.2.1 o.2.2), K (.exit 0) (sh7_1 a0 a1 r4 r8 r9 o.2.1 o.2.2)]
def lb_L51_DesignNeighbors_1 {A : Type} (an : An A)  (L : Nat) (a0 : (List api_Factor)) (a1 : (List Int)) (r4 : ((List (List Int)) × Int)) (r8 : (List Int)) (r9 : (Int × Int)) (rec : Bool → Int → A) (out : Nat × (Bool × Int) → A) (v1_2 : Bool) (v1_6 : Int) : A :=
 (an.cn (decide (v1_6 < (r4.1.length : Int)))
 (an.gd ((0 : Int) ≤ v1_6)
 (an.gd (v1_6 < ((r4.1.length : Nat) : Int))
 (an.bd (F_design_Near L a0 (r4.1.getD (Int.toNat v1_6) default)) fun r10 =>
 (an.gd ((0 : Int) ≤ v1_6)
 (an.gd (v1_6 < ((r4.1.length : Nat) : Int))
 (an.bd (F_design_Index L a0 (r4.1.getD (Int.toNat v1_6) default)) fun r11 =>
 (an.jp (bif (r10.2 != 0) then true
 else (r11.2 != 0)) (fun j => (an.cn (r10.2 != 0)
 (an.ap j true)
 (an.ap j (r11.2 != 0)))) (fun b12 =>
 (an.jb (bif b12 then (some true)
 else (Option.bind (F_L51_contains L r10.1 a1) fun r14 =>
 (some (!r14)))) (fun j => (an.cn b12
 (an.lf j true)
 (an.bd (F_L51_contains L r10.1 a1) fun r15 =>
 (an.lf j (!r15))))) (fun b13 =>
 (an.jb (bif b13 then (some true)
 else (Option.bind (F_L51_in L r8 r9.1) fun r17 =>
 (Option.bind (F_L51_in L r8 r11.1) fun r18 =>
 (some (r17 == r18))))) (fun j => (an.cn b13
 (an.lf j true)
 (an.bd (F_L51_in L r8 r9.1) fun r19 =>
 (an.bd (F_L51_in L r8 r11.1) fun r20 =>
 (an.lf j (r19 == r20)))))) (fun b16 =>
 (an.jb (bif b16 then (some true)
 else (if (0 : Int) ≤ v1_6 then
 (if v1_6 < ((r4.1.length : Nat) : Int) then
 (some (((r4.1.getD (Int.toNat v1_6) default).length : Int) != (a1.length : Int))) else none) else none)) (fun j => (an.cn b16
 (an.lf j true)
 (an.gd ((0 : Int) ≤ v1_6)
 (an.gd (v1_6 < ((r4.1.length : Nat) : Int))
 (an.lf j (((r4.1.getD (Int.toNat v1_6) default).length : Int) != (a1.length : Int))))))) (fun b21 =>
 (an.cn b21
 (an.lf out (0, (false, v1_6)))
 (an.bd (lp_L51_DesignNeighbors_2 L a0 a1 v1_2 r4 r8 r9 v1_6 r10 r11 L 0 0) fun o22 =>
 (an.sl o22.1 [(an.cn (o22.2.1 != 1)
 (an.lf out (0, (false, v1_6)))
 (rec v1_2 (w64 (v1_6 + 1))))])))))))))))))))))
 (an.lf out (1, (v1_2, v1_6))))
def lp_L51_DesignNeighbors_1  (L : Nat) (a0 : (List api_Factor)) (a1 : (List Int)) (r4 : ((List (List Int)) × Int)) (r8 : (List Int)) (r9 : (Int × Int)) : Nat → Bool → Int → Option (Nat × (Bool × Int))
  | 0, _, _ => none
  | n + 1, v1_2, v1_6 => lb_L51_DesignNeighbors_1 (anO _)  L a0 a1 r4 r8 r9 (lp_L51_DesignNeighbors_1  L a0 a1 r4 r8 r9 n) some v1_2 v1_6
theorem ln7_1  (L : Nat) (a0 : (List api_Factor)) (a1 : (List Int)) (r4 : ((List (List Int)) × Int)) (r8 : (List Int)) (r9 : (Int × Int)) (g : Bool → Int → Option (Nat × (Bool × Int))) (Q : Nat × (Bool × Int) → Prop) (v1_2 : Bool) (v1_6 : Int) : lb_L51_DesignNeighbors_1 anP  L a0 a1 r4 r8 r9 (fun v1_2 v1_6 => ob (g v1_2 v1_6) Q) Q v1_2 v1_6 = ob (lb_L51_DesignNeighbors_1 (anO _)  L a0 a1 r4 r8 r9 g some v1_2 v1_6) Q := by
  unfold lb_L51_DesignNeighbors_1
  dsimp only [anP, anO]
  try simp only [y1, y2, y3, y4, y5 Q, y6, y7, y8 Q, y9, z1, z2, z3, z4]
  try simp only [z5, z6, y1, y2, y3, y4, y5 Q, y6, y7, y8 Q, y9, z1, z2, z3, z4]
def kc7_1  (L : Nat)  (a0 : (List api_Factor)) (a1 : (List Int)) (r4 : ((List (List Int)) × Int)) (r8 : (List Int)) (r9 : (Int × Int)) (n : Nat) (K : Ex → St → Prop) : Ex → St → Prop := (kBlock 2 (kSeq (EV (O7 L) L 9 c7.r.r.r.r.r.r.r.r.r.r.r.r.r.r.l.r.r.l.l.r.r.l.l.r.r.r.r.r.r.r.r.r) (kBlock 1 (kSeq (EV (O7 L) L 9 c7.r.r.r.r.r.r.r.r.r.r.r.r.r.r.l.r.r.l.l.r.r.r) (kRound (loopN (EV (O7 L) L 9 c7.r.r.r.r.r.r.r.r.r.r.r.r.r.r.l.r.r.l.l) [0, 1, 4, 5, 6, 7, 8, 9, 10] [] n) [0, 1, 4, 5, 6, 7, 8, 9, 10] [] K)))))
theorem q7_1  (L : Nat) (v1_2 : Bool) (v1_6 : Int) (r10 : ((List (List Int)) × Int)) (r11 : (Int × Int)) (a0 : (List api_Factor)) (a1 : (List Int)) (r4 : ((List (List Int)) × Int)) (r8 : (List Int)) (r9 : (Int × Int)) (n : Nat) (K : Ex → St → Prop) (o19 : Nat × (Int × Int)) : KK7_2 a0 a1 v1_2 r4 r8 r9 v1_6 r10 r11 (kc7_1 L a0 a1 r4 r8 r9 n K) o19 =
 (seln o19.1 [(br (o19.2.1 != 1)
 (ob (some (0, (false, v1_6))) (KK7_1 a0 a1 r4 r8 r9 K))
 (loopN (EV (O7 L) L 9 c7.r.r.r.r.r.r.r.r.r.r.r.r.r.r.l.r.r.l.l) [0, 1, 4, 5, 6, 7, 8, 9, 10] [] n (sh7_1 a0 a1 r4 r8 r9 v1_2 (w64 (v1_6 + 1))) K))]) := by kernel_rfl
theorem le7_1  (L : Nat) (a0 : (List api_Factor)) (a1 : (List Int)) (r4 : ((List (List Int)) × Int)) (r8 : (List Int)) (r9 : (Int × Int)) (n : Nat) (v1_2 : Bool) (v1_6 : Int) (K : Ex → St → Prop) : loopN (EV (O7 L) L 9 c7.r.r.r.r.r.r.r.r.r.r.r.r.r.r.l.r.r.l.l) [0, 1, 4, 5, 6, 7, 8, 9, 10] [] n (sh7_1 a0 a1 r4 r8 r9 v1_2 v1_6) K = ob (lp_L51_DesignNeighbors_1  L a0 a1 r4 r8 r9 n v1_2 v1_6) (fun o => KK7_1 a0 a1 r4 r8 r9 K o) := by
  induction n generalizing v1_2 v1_6 with
  | zero => rfl
  | succ n ih =>
    refine Eq.trans (b := lb_L51_DesignNeighbors_1 anP  L a0 a1 r4 r8 r9 (fun v1_2 v1_6 => loopN (EV (O7 L) L 9 c7.r.r.r.r.r.r.r.r.r.r.r.r.r.r.l.r.r.l.l) [0, 1, 4, 5, 6, 7, 8, 9, 10] [] n (sh7_1 a0 a1 r4 r8 r9 v1_2 v1_6) K) (KK7_1 a0 a1 r4 r8 r9 K) v1_2 v1_6) ?_ ?_
    · refine Eq.trans (b := (br (decide (v1_6 < (r4.1.length : Int)))
 (gd ((0 : Int) ≤ v1_6)
 (gd (v1_6 < ((r4.1.length : Nat) : Int))
 (ob (F_design_Near L a0 (r4.1.getD (Int.toNat v1_6) default)) fun r10 =>
 (gd ((0 : Int) ≤ v1_6)
 (gd (v1_6 < ((r4.1.length : Nat) : Int))
 (ob (F_design_Index L a0 (r4.1.getD (Int.toNat v1_6) default)) fun r11 =>
 (jn (fun j => (br (r10.2 != 0)
 (ap j true)
 (ap j (r11.2 != 0)))) (fun b12 =>
 (jn (fun j => (br b12
 (ob (some true) j)
 (ob (F_L51_contains L r10.1 a1) fun r14 =>
 (ob (some (!r14)) j)))) (fun b13 =>
 (jn (fun j => (br b13
 (ob (some true) j)
 (ob (F_L51_in L r8 r9.1) fun r16 =>
 (ob (F_L51_in L r8 r11.1) fun r17 =>
 (ob (some (r16 == r17)) j))))) (fun b15 =>
 (jn (fun j => (br b15
 (ob (some true) j)
 (gd ((0 : Int) ≤ v1_6)
 (gd (v1_6 < ((r4.1.length : Nat) : Int))
 (ob (some (((r4.1.getD (Int.toNat v1_6) default).length : Int) != (a1.length : Int))) j))))) (fun b18 =>
 (br b18
 (ob (some (0, (false, v1_6))) (KK7_1 a0 a1 r4 r8 r9 K))
 (loopN (EV (O7 L) L 9 c7.r.r.r.r.r.r.r.r.r.r.r.r.r.r.l.r.r.l.l.r.r.l.l.r.r.r.r.r.r.r.r.l.r.r.l.l) [0, 1, 4, 5, 6, 7, 8, 9, 10, 11, 12, 13, 14, 15, 16] [] L (sh7_2 a0 a1 v1_2 r4 r8 r9 v1_6 r10 r11 0 0) (kc7_1 L a0 a1 r4 r8 r9 n K)))))))))))))))))
 (ob (some (1, (v1_2, v1_6))) (KK7_1 a0 a1 r4 r8 r9 K)))) (by kernel_rfl) ?_
      unfold lb_L51_DesignNeighbors_1
      dsimp only [anP]
      simp only [le7_2, q7_1]
    simp only [ih]
    exact ln7_1  L a0 a1 r4 r8 r9 (lp_L51_DesignNeighbors_1  L a0 a1 r4 r8 r9 n) (KK7_1 a0 a1 r4 r8 r9 K) v1_2 v1_6
def kc7_2  (L : Nat)  (kk : PV → Prop) : Ex → St → Prop := (kBlock 0 (kSeq (EV (O7 L) L 9 c7.r.r.r.r.r.r.r.r.r.r.r.r.r.r.r) (kEnd Tryz.prog (RS Tryz.f7) kk)))
theorem q7_2  (L : Nat) (a0 : (List api_Factor)) (a1 : (List Int)) (r4 : ((List (List Int)) × Int)) (r7 : (List Int)) (r8 : (Int × Int)) (kk : PV → Prop) (o9 : Nat × (Bool × Int)) : KK7_1 a0 a1 r4 r7 r8 (kc7_2 L kk) o9 =
 (seln o9.1 [(ob (some o9.2.1) (fun (x : Bool) => kk (B x))),
 (ob (F_L51_awake L) fun r10 =>
 (ob (some r10) (fun (x : Bool) => kk (B x))))]) := by kernel_rfl
def T_L51_DesignNeighbors {A : Type} (an : An A)  (L : Nat) (a0 : (List api_Factor)) (a1 : (List Int)) (out : Bool → A) : A :=
 (an.bd (F_L51_small L a0) fun r1 =>
 (an.jp (bif (!r1) then true
 else (decide ((a1.length : Int) > 100))) (fun j => (an.cn (!r1)
 (an.ap j true)
 (an.ap j (decide ((a1.length : Int) > 100))))) (fun b2 =>
 (an.cn b2
 (an.bd (F_L51_awake L) fun r3 =>
 (an.lf out r3))
 (an.bd (F_design_Near L a0 a1) fun r4 =>
 (an.cn (r4.2 != 0)
 (an.jb (bif ((r4.1.length : Int) == 0) then (Option.bind (F_L51_awake L) fun r6 =>
 (some r6))
 else (some false)) (fun j => (an.cn ((r4.1.length : Int) == 0)
 (an.bd (F_L51_awake L) fun r7 =>
 (an.lf j r7))
 (an.lf j false))) (fun b5 =>
 (an.lf out b5)))
 (an.bd (F_design_Half L a0) fun r8 =>
 (an.bd (F_design_Index L a0 a1) fun r9 =>
 (an.cn (r9.2 != 0)
 (an.lf out false)
 (an.bd (lp_L51_DesignNeighbors_1 L a0 a1 r4 r8 r9 L false 0) fun o10 =>
 (an.sl o10.1 [(an.lf out o10.2.1),
 (an.bd (F_L51_awake L) fun r11 =>
 (an.lf out r11))])))))))))))
def F_L51_DesignNeighbors  (L : Nat) (a0 : (List api_Factor)) (a1 : (List Int)) : Option Bool := T_L51_DesignNeighbors (anO _) L a0 a1 some
theorem e7  (L : Nat) (a0 : (List api_Factor)) (a1 : (List Int)) (kk : PV → Prop) : EW (O7 L) L 9 (RS Tryz.f7) c7 [.lst false (.t59 a0), .lst false (.t3 a1)] kk = ob (F_L51_DesignNeighbors L a0 a1) (fun (x : Bool) => kk (B x)) := by
  refine Eq.trans (b := T_L51_DesignNeighbors anP L a0 a1 (fun (x : Bool) => kk (B x))) ?_ ?_
  · refine Eq.trans (b := (ob (F_L51_small L a0) fun r1 =>
 (jn (fun j => (br (!r1)
 (ap j true)
 (ap j (decide ((a1.length : Int) > 100))))) (fun b2 =>
 (br b2
 (ob (F_L51_awake L) fun r3 =>
 (ob (some r3) (fun (x : Bool) => kk (B x))))
 (ob (F_design_Near L a0 a1) fun r4 =>
 (br (r4.2 != 0)
 (jn (fun j => (br ((r4.1.length : Int) == 0)
 (ob (F_L51_awake L) fun r6 =>
 (ob (some r6) j))
 (ob (some false) j))) (fun b5 =>
 (ob (some b5) (fun (x : Bool) => kk (B x)))))
 (ob (F_design_Half L a0) fun r7 =>
 (ob (F_design_Index L a0 a1) fun r8 =>
 (br (r8.2 != 0)
 (ob (some false) (fun (x : Bool) => kk (B x)))
 (loopN (EV (O7 L) L 9 c7.r.r.r.r.r.r.r.r.r.r.r.r.r.r.l.r.r.l.l) [0, 1, 4, 5, 6, 7, 8, 9, 10] [] L (sh7_1 a0 a1 r4 r7 r8 false 0) (kc7_2 L kk)))))))))))) (by kernel_rfl) ?_
    unfold T_L51_DesignNeighbors
    dsimp only [anP]
    simp only [le7_1, q7_2]
  generalize (fun (x : Bool) => kk (B x)) = Q
  unfold F_L51_DesignNeighbors T_L51_DesignNeighbors
  dsimp only [anP, anO]
  try simp only [y1, y2, y3, y4, y5 Q, y6, y7, y8 Q, y9, z1, z2, z3, z4]
theorem h7   (L : Nat) (a0 : (List api_Factor)) (a1 : (List Int)) (r : Bool) (h : F_L51_DesignNeighbors L a0 a1 = some r) : Holds Tryz.prog 7 [.lst false (.t59 a0), .lst false (.t3 a1)] (B r) :=
  hE grwOK (s7  L) mixed Tryz.func7 (by kernel_rfl : cFn Tryz.prog inl Tryz.f7 = some c7) (er := fun (x : Bool) => B x) (by kernel_rfl) (e7 L a0 a1) h
end Go.Proofs.YtaaiehkfndibkaaGreat.Ev
