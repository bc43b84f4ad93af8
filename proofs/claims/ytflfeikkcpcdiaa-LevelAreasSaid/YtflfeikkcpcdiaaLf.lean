import Derived.Test.YtflfeikkcpcdiaaLe
namespace Go.Proofs.Ytflfeikkcpcdiaa.Ev
open Go
set_option maxRecDepth 100000
set_option linter.unusedVariables false
set_option linter.unusedSimpArgs false
set_option linter.unnecessarySimpa false
structure T32 where
  Value : Int
  After : Int
  deriving Inhabited
def encT32 (x : T32) : List PV := [V .i8 x.Value, V .u8 x.After]
/-! ### simulator/simulatorlaw28.LevelAreas -/
noncomputable def c3 : EC := (cFn Try.prog Try.f3).getD .skip
def O3 : Oracle := fun f args k => match f, args with
  | 8, [.val (.int .i64 x1), .val (.int .i64 x2)] => k (.tup [.agg [I (F8 x1 x2).1.Value, I (F8 x1 x2).1.Since, I (F8 x1 x2).1.Begin, I (F8 x1 x2).1.Area, I (F8 x1 x2).1.Min, I (F8 x1 x2).1.Max], I (F8 x1 x2).2])
  | 9, [] => k (B true)
  | 10, [.agg [.val (.int .i64 x1), .val (.int .i64 x2), .val (.int .i64 x3), .val (.int .i64 x4), .val (.int .i64 x5), .val (.int .i64 x6)], .val (.int .i64 x7)] => k (.tup [I (F10 (⟨x1, x2, x3, x4, x5, x6⟩ : T26) x7).1, B (F10 (⟨x1, x2, x3, x4, x5, x6⟩ : T26) x7).2])
  | 11, [.agg [.val (.int .i64 x1), .val (.int .i64 x2), .val (.int .i64 x3), .val (.int .i64 x4), .val (.int .i64 x5), .val (.int .i64 x6)], .val (.int .i64 x7), .val (.int .i64 x8)] => k (.tup [.agg [I (F11 (⟨x1, x2, x3, x4, x5, x6⟩ : T26) x7 x8).1.Value, I (F11 (⟨x1, x2, x3, x4, x5, x6⟩ : T26) x7 x8).1.Since, I (F11 (⟨x1, x2, x3, x4, x5, x6⟩ : T26) x7 x8).1.Begin, I (F11 (⟨x1, x2, x3, x4, x5, x6⟩ : T26) x7 x8).1.Area, I (F11 (⟨x1, x2, x3, x4, x5, x6⟩ : T26) x7 x8).1.Min, I (F11 (⟨x1, x2, x3, x4, x5, x6⟩ : T26) x7 x8).1.Max], I (F11 (⟨x1, x2, x3, x4, x5, x6⟩ : T26) x7 x8).2])
  | 12, [.agg [.val (.int .i64 x1), .val (.int .i64 x2), .val (.int .i64 x3), .val (.int .i64 x4), .val (.int .i64 x5), .val (.int .i64 x6)], .val (.int .i64 x7)] => ob (F12 (⟨x1, x2, x3, x4, x5, x6⟩ : T26) x7) fun r => k (.tup [.agg [I r.1.N, I r.1.D], B r.2])
  | _, _ => False
def sh3_2 (v2_0 : Int) (v2_1 : Int) (v2_2 : List T32) (v2_3 : Bool) (v2_4 : Int) (v2_5 : Int) (v2_8 : Int) (v2_9 : Int) (v2_10 : Int) (v2_11 : Int) (v2_13 : Int) (v2_14 : Int) (v2_15 : Int) (v2_16 : Int) (v2_17 : Int) (v2_18 : Int) (v2_6 : Int) (v2_7 : Int) (v2_12 : Int) : St := ({ fr := [(0, V .i8 v2_0), (1, V .u16 v2_1), (2, .arr 32 2 v2_2.length (fun i => encT32 (v2_2.getD i default))), (6, B v2_3), (7, I v2_4), (8, .loc 8 0), (9, I v2_5), (10, I v2_6), (11, I v2_7), (12, I v2_8), (13, I v2_9), (14, I v2_10), (15, I v2_11), (16, I v2_12), (17, .any), (18, .any), (19, .any), (20, .any), (21, .any), (22, .any)], ob := [(8, [I v2_13, I v2_14, I v2_15, I v2_16, I v2_17, I v2_18])] } : St)
def bd3_2 (v2_0 : Int) (v2_1 : Int) (v2_2 : List T32) (v2_3 : Bool) (v2_4 : Int) (v2_5 : Int) (v2_8 : Int) (v2_9 : Int) (v2_10 : Int) (v2_11 : Int) (v2_13 : Int) (v2_14 : Int) (v2_15 : Int) (v2_16 : Int) (v2_17 : Int) (v2_18 : Int) (kn : Int → Int → Int → Prop) (kx2 : Int → Int → Int → Prop) (v2_6 : Int) (v2_7 : Int) (v2_12 : Int) : Prop :=
 (0 ≤ v2_11 ∧ v2_11 < (v2_2.length : Int) ∧
 (br (decide (v2_12 < (w64 ((v2_2.getD (Int.toNat v2_11) default).After))))
 (kn (w64 (v2_6 + 1)) (w64 (v2_7 + v2_10)) (w64 (v2_12 + 1)))
 (kx2 v2_6 v2_7 v2_12)))
def lp3_2 (v2_0 : Int) (v2_1 : Int) (v2_2 : List T32) (v2_3 : Bool) (v2_4 : Int) (v2_5 : Int) (v2_8 : Int) (v2_9 : Int) (v2_10 : Int) (v2_11 : Int) (v2_13 : Int) (v2_14 : Int) (v2_15 : Int) (v2_16 : Int) (v2_17 : Int) (v2_18 : Int) (kx2 : Int → Int → Int → Prop) : Nat → Int → Int → Int → Prop
  | 0, _, _, _ => False
  | n + 1, v2_6, v2_7, v2_12 => bd3_2 v2_0 v2_1 v2_2 v2_3 v2_4 v2_5 v2_8 v2_9 v2_10 v2_11 v2_13 v2_14 v2_15 v2_16 v2_17 v2_18 (lp3_2 v2_0 v2_1 v2_2 v2_3 v2_4 v2_5 v2_8 v2_9 v2_10 v2_11 v2_13 v2_14 v2_15 v2_16 v2_17 v2_18 kx2 n) kx2 v2_6 v2_7 v2_12
theorem be3_2 (L : Nat) (v2_0 : Int) (v2_1 : Int) (v2_2 : List T32) (v2_3 : Bool) (v2_4 : Int) (v2_5 : Int) (v2_8 : Int) (v2_9 : Int) (v2_10 : Int) (v2_11 : Int) (v2_13 : Int) (v2_14 : Int) (v2_15 : Int) (v2_16 : Int) (v2_17 : Int) (v2_18 : Int) (v2_6 : Int) (v2_7 : Int) (v2_12 : Int) (n : Nat) (K : Ex → St → Prop) : loopN (evC Try.prog O3 L c3.r.r.r.r.r.r.r.l.r.l.l.r.l.l.l.r.l.l) [0, 1, 2, 6, 7, 8, 9, 10, 11, 12, 13, 14, 15, 16, 17, 18, 19, 20, 21, 22] [] (n + 1) (sh3_2 v2_0 v2_1 v2_2 v2_3 v2_4 v2_5 v2_8 v2_9 v2_10 v2_11 v2_13 v2_14 v2_15 v2_16 v2_17 v2_18 v2_6 v2_7 v2_12) K = bd3_2 v2_0 v2_1 v2_2 v2_3 v2_4 v2_5 v2_8 v2_9 v2_10 v2_11 v2_13 v2_14 v2_15 v2_16 v2_17 v2_18 (fun v2_6 v2_7 v2_12 => loopN (evC Try.prog O3 L c3.r.r.r.r.r.r.r.l.r.l.l.r.l.l.l.r.l.l) [0, 1, 2, 6, 7, 8, 9, 10, 11, 12, 13, 14, 15, 16, 17, 18, 19, 20, 21, 22] [] n (sh3_2 v2_0 v2_1 v2_2 v2_3 v2_4 v2_5 v2_8 v2_9 v2_10 v2_11 v2_13 v2_14 v2_15 v2_16 v2_17 v2_18 v2_6 v2_7 v2_12) K) (fun v2_6 v2_7 v2_12 => K (.exit 2) (sh3_2 v2_0 v2_1 v2_2 v2_3 v2_4 v2_5 v2_8 v2_9 v2_10 v2_11 v2_13 v2_14 v2_15 v2_16 v2_17 v2_18 v2_6 v2_7 v2_12)) v2_6 v2_7 v2_12 := by
  kernel_rfl
theorem le3_2 (L : Nat) (v2_0 : Int) (v2_1 : Int) (v2_2 : List T32) (v2_3 : Bool) (v2_4 : Int) (v2_5 : Int) (v2_8 : Int) (v2_9 : Int) (v2_10 : Int) (v2_11 : Int) (v2_13 : Int) (v2_14 : Int) (v2_15 : Int) (v2_16 : Int) (v2_17 : Int) (v2_18 : Int) (n : Nat) (v2_6 : Int) (v2_7 : Int) (v2_12 : Int) (K : Ex → St → Prop) : loopN (evC Try.prog O3 L c3.r.r.r.r.r.r.r.l.r.l.l.r.l.l.l.r.l.l) [0, 1, 2, 6, 7, 8, 9, 10, 11, 12, 13, 14, 15, 16, 17, 18, 19, 20, 21, 22] [] n (sh3_2 v2_0 v2_1 v2_2 v2_3 v2_4 v2_5 v2_8 v2_9 v2_10 v2_11 v2_13 v2_14 v2_15 v2_16 v2_17 v2_18 v2_6 v2_7 v2_12) K = lp3_2 v2_0 v2_1 v2_2 v2_3 v2_4 v2_5 v2_8 v2_9 v2_10 v2_11 v2_13 v2_14 v2_15 v2_16 v2_17 v2_18 (fun v2_6 v2_7 v2_12 => K (.exit 2) (sh3_2 v2_0 v2_1 v2_2 v2_3 v2_4 v2_5 v2_8 v2_9 v2_10 v2_11 v2_13 v2_14 v2_15 v2_16 v2_17 v2_18 v2_6 v2_7 v2_12)) n v2_6 v2_7 v2_12 := by
  induction n generalizing v2_6 v2_7 v2_12 with
  | zero => rfl
  | succ n ih =>
    rw [be3_2]
    simp only [ih]
    rfl
def sh3_1 (v1_0 : Int) (v1_1 : Int) (v1_2 : List T32) (v1_4 : Int) (v1_5 : Int) (v1_3 : Bool) (v1_6 : Int) (v1_7 : Int) (v1_8 : Int) (v1_9 : Int) (v1_10 : Int) (v1_11 : Int) (v1_12 : Int) (v1_13 : Int) (v1_14 : Int) (v1_15 : Int) (v1_16 : Int) (v1_17 : Int) : St := ({ fr := [(0, V .i8 v1_0), (1, V .u16 v1_1), (2, .arr 32 2 v1_2.length (fun i => encT32 (v1_2.getD i default))), (6, B v1_3), (7, I v1_4), (8, .loc 8 0), (9, I v1_5), (10, I v1_6), (11, I v1_7), (12, I v1_8), (13, I v1_9), (14, I v1_10), (15, I v1_11), (21, .any), (22, .any)], ob := [(8, [I v1_12, I v1_13, I v1_14, I v1_15, I v1_16, I v1_17])] } : St)
def bd3_1 (L : Nat) (v1_0 : Int) (v1_1 : Int) (v1_2 : List T32) (v1_4 : Int) (v1_5 : Int) (kn : Bool → Int → Int → Int → Int → Int → Int → Int → Int → Int → Int → Int → Int → Prop) (kr : Bool → Int → Int → Int → Int → Int → Int → Int → Int → Int → Int → Int → Int → Prop) (kx0 : Bool → Int → Int → Int → Int → Int → Int → Int → Int → Int → Int → Int → Int → Prop) (v1_3 : Bool) (v1_6 : Int) (v1_7 : Int) (v1_8 : Int) (v1_9 : Int) (v1_10 : Int) (v1_11 : Int) (v1_12 : Int) (v1_13 : Int) (v1_14 : Int) (v1_15 : Int) (v1_16 : Int) (v1_17 : Int) : Prop :=
 (br (decide (v1_11 < (v1_2.length : Int)))
 (lp3_2 v1_0 v1_1 v1_2 v1_3 v1_4 v1_5 v1_8 v1_9 v1_10 v1_11 v1_12 v1_13 v1_14 v1_15 v1_16 v1_17 (fun u2_6 u2_7 u2_12 =>
 (br ((!((F10 (⟨v1_12, v1_13, v1_14, v1_15, v1_16, v1_17⟩ : T26) u2_6).2)))
 (kr false u2_6 u2_7 v1_8 v1_9 v1_10 v1_11 v1_12 v1_13 v1_14 v1_15 v1_16 v1_17)
 (br (((F10 (⟨v1_12, v1_13, v1_14, v1_15, v1_16, v1_17⟩ : T26) u2_6).1 != u2_7))
 (kr false u2_6 u2_7 v1_8 v1_9 v1_10 v1_11 v1_12 v1_13 v1_14 v1_15 v1_16 v1_17)
 (0 ≤ v1_11 ∧ v1_11 < (v1_2.length : Int) ∧
 (br (((F11 (⟨v1_12, v1_13, v1_14, v1_15, v1_16, v1_17⟩ : T26) (w64 ((v1_2.getD (Int.toNat v1_11) default).Value)) u2_6).2 != 0))
 (kr false u2_6 u2_7 (if (w64 ((v1_2.getD (Int.toNat v1_11) default).Value)) < v1_8 then (w64 ((v1_2.getD (Int.toNat v1_11) default).Value)) else v1_8) (if (w64 ((v1_2.getD (Int.toNat v1_11) default).Value)) > v1_9 then (w64 ((v1_2.getD (Int.toNat v1_11) default).Value)) else v1_9) (w64 ((v1_2.getD (Int.toNat v1_11) default).Value)) v1_11 v1_12 v1_13 v1_14 v1_15 v1_16 v1_17)
 (br (((F11 (⟨v1_12, v1_13, v1_14, v1_15, v1_16, v1_17⟩ : T26) (w64 ((v1_2.getD (Int.toNat v1_11) default).Value)) u2_6).1.Area != u2_7))
 (kr false u2_6 u2_7 (if (w64 ((v1_2.getD (Int.toNat v1_11) default).Value)) < v1_8 then (w64 ((v1_2.getD (Int.toNat v1_11) default).Value)) else v1_8) (if (w64 ((v1_2.getD (Int.toNat v1_11) default).Value)) > v1_9 then (w64 ((v1_2.getD (Int.toNat v1_11) default).Value)) else v1_9) (w64 ((v1_2.getD (Int.toNat v1_11) default).Value)) v1_11 v1_12 v1_13 v1_14 v1_15 v1_16 v1_17)
 (br (((F11 (⟨v1_12, v1_13, v1_14, v1_15, v1_16, v1_17⟩ : T26) (w64 ((v1_2.getD (Int.toNat v1_11) default).Value)) u2_6).1.Min != (if (w64 ((v1_2.getD (Int.toNat v1_11) default).Value)) < v1_8 then (w64 ((v1_2.getD (Int.toNat v1_11) default).Value)) else v1_8)))
 (kr false u2_6 u2_7 (if (w64 ((v1_2.getD (Int.toNat v1_11) default).Value)) < v1_8 then (w64 ((v1_2.getD (Int.toNat v1_11) default).Value)) else v1_8) (if (w64 ((v1_2.getD (Int.toNat v1_11) default).Value)) > v1_9 then (w64 ((v1_2.getD (Int.toNat v1_11) default).Value)) else v1_9) (w64 ((v1_2.getD (Int.toNat v1_11) default).Value)) v1_11 v1_12 v1_13 v1_14 v1_15 v1_16 v1_17)
 (br (((F11 (⟨v1_12, v1_13, v1_14, v1_15, v1_16, v1_17⟩ : T26) (w64 ((v1_2.getD (Int.toNat v1_11) default).Value)) u2_6).1.Max != (if (w64 ((v1_2.getD (Int.toNat v1_11) default).Value)) > v1_9 then (w64 ((v1_2.getD (Int.toNat v1_11) default).Value)) else v1_9)))
 (kr false u2_6 u2_7 (if (w64 ((v1_2.getD (Int.toNat v1_11) default).Value)) < v1_8 then (w64 ((v1_2.getD (Int.toNat v1_11) default).Value)) else v1_8) (if (w64 ((v1_2.getD (Int.toNat v1_11) default).Value)) > v1_9 then (w64 ((v1_2.getD (Int.toNat v1_11) default).Value)) else v1_9) (w64 ((v1_2.getD (Int.toNat v1_11) default).Value)) v1_11 v1_12 v1_13 v1_14 v1_15 v1_16 v1_17)
 (kn v1_3 u2_6 u2_7 (if (w64 ((v1_2.getD (Int.toNat v1_11) default).Value)) < v1_8 then (w64 ((v1_2.getD (Int.toNat v1_11) default).Value)) else v1_8) (if (w64 ((v1_2.getD (Int.toNat v1_11) default).Value)) > v1_9 then (w64 ((v1_2.getD (Int.toNat v1_11) default).Value)) else v1_9) (w64 ((v1_2.getD (Int.toNat v1_11) default).Value)) (w64 (v1_11 + 1)) ((F11 (⟨v1_12, v1_13, v1_14, v1_15, v1_16, v1_17⟩ : T26) (w64 ((v1_2.getD (Int.toNat v1_11) default).Value)) u2_6).1.Value) ((F11 (⟨v1_12, v1_13, v1_14, v1_15, v1_16, v1_17⟩ : T26) (w64 ((v1_2.getD (Int.toNat v1_11) default).Value)) u2_6).1.Since) ((F11 (⟨v1_12, v1_13, v1_14, v1_15, v1_16, v1_17⟩ : T26) (w64 ((v1_2.getD (Int.toNat v1_11) default).Value)) u2_6).1.Begin) ((F11 (⟨v1_12, v1_13, v1_14, v1_15, v1_16, v1_17⟩ : T26) (w64 ((v1_2.getD (Int.toNat v1_11) default).Value)) u2_6).1.Area) ((F11 (⟨v1_12, v1_13, v1_14, v1_15, v1_16, v1_17⟩ : T26) (w64 ((v1_2.getD (Int.toNat v1_11) default).Value)) u2_6).1.Min) ((F11 (⟨v1_12, v1_13, v1_14, v1_15, v1_16, v1_17⟩ : T26) (w64 ((v1_2.getD (Int.toNat v1_11) default).Value)) u2_6).1.Max)))))))))) L v1_6 v1_7 0)
 (kx0 v1_3 v1_6 v1_7 v1_8 v1_9 v1_10 v1_11 v1_12 v1_13 v1_14 v1_15 v1_16 v1_17))
def lp3_1 (L : Nat) (v1_0 : Int) (v1_1 : Int) (v1_2 : List T32) (v1_4 : Int) (v1_5 : Int) (kr : Bool → Int → Int → Int → Int → Int → Int → Int → Int → Int → Int → Int → Int → Prop) (kx0 : Bool → Int → Int → Int → Int → Int → Int → Int → Int → Int → Int → Int → Int → Prop) : Nat → Bool → Int → Int → Int → Int → Int → Int → Int → Int → Int → Int → Int → Int → Prop
  | 0, _, _, _, _, _, _, _, _, _, _, _, _, _ => False
  | n + 1, v1_3, v1_6, v1_7, v1_8, v1_9, v1_10, v1_11, v1_12, v1_13, v1_14, v1_15, v1_16, v1_17 => bd3_1 L v1_0 v1_1 v1_2 v1_4 v1_5 (lp3_1 L v1_0 v1_1 v1_2 v1_4 v1_5 kr kx0 n) kr kx0 v1_3 v1_6 v1_7 v1_8 v1_9 v1_10 v1_11 v1_12 v1_13 v1_14 v1_15 v1_16 v1_17
theorem be3_1 (L : Nat) (v1_0 : Int) (v1_1 : Int) (v1_2 : List T32) (v1_4 : Int) (v1_5 : Int) (v1_3 : Bool) (v1_6 : Int) (v1_7 : Int) (v1_8 : Int) (v1_9 : Int) (v1_10 : Int) (v1_11 : Int) (v1_12 : Int) (v1_13 : Int) (v1_14 : Int) (v1_15 : Int) (v1_16 : Int) (v1_17 : Int) (n : Nat) (K : Ex → St → Prop) : loopN (evC Try.prog O3 L c3.r.r.r.r.r.r.r.l.r.l.l) [0, 1, 2, 6, 7, 8, 9, 10, 11, 12, 13, 14, 15, 21, 22] [19] (n + 1) (sh3_1 v1_0 v1_1 v1_2 v1_4 v1_5 v1_3 v1_6 v1_7 v1_8 v1_9 v1_10 v1_11 v1_12 v1_13 v1_14 v1_15 v1_16 v1_17) K = bd3_1 L v1_0 v1_1 v1_2 v1_4 v1_5 (fun v1_3 v1_6 v1_7 v1_8 v1_9 v1_10 v1_11 v1_12 v1_13 v1_14 v1_15 v1_16 v1_17 => loopN (evC Try.prog O3 L c3.r.r.r.r.r.r.r.l.r.l.l) [0, 1, 2, 6, 7, 8, 9, 10, 11, 12, 13, 14, 15, 21, 22] [19] n (sh3_1 v1_0 v1_1 v1_2 v1_4 v1_5 v1_3 v1_6 v1_7 v1_8 v1_9 v1_10 v1_11 v1_12 v1_13 v1_14 v1_15 v1_16 v1_17) K) (fun v1_3 v1_6 v1_7 v1_8 v1_9 v1_10 v1_11 v1_12 v1_13 v1_14 v1_15 v1_16 v1_17 => K .ret (sh3_1 v1_0 v1_1 v1_2 v1_4 v1_5 v1_3 v1_6 v1_7 v1_8 v1_9 v1_10 v1_11 v1_12 v1_13 v1_14 v1_15 v1_16 v1_17)) (fun v1_3 v1_6 v1_7 v1_8 v1_9 v1_10 v1_11 v1_12 v1_13 v1_14 v1_15 v1_16 v1_17 => K (.exit 0) (sh3_1 v1_0 v1_1 v1_2 v1_4 v1_5 v1_3 v1_6 v1_7 v1_8 v1_9 v1_10 v1_11 v1_12 v1_13 v1_14 v1_15 v1_16 v1_17)) v1_3 v1_6 v1_7 v1_8 v1_9 v1_10 v1_11 v1_12 v1_13 v1_14 v1_15 v1_16 v1_17 := by
  have h : loopN (evC Try.prog O3 L c3.r.r.r.r.r.r.r.l.r.l.l) [0, 1, 2, 6, 7, 8, 9, 10, 11, 12, 13, 14, 15, 21, 22] [19] (n + 1) (sh3_1 v1_0 v1_1 v1_2 v1_4 v1_5 v1_3 v1_6 v1_7 v1_8 v1_9 v1_10 v1_11 v1_12 v1_13 v1_14 v1_15 v1_16 v1_17) K = (br (decide (v1_11 < (v1_2.length : Int)))
 (loopN (evC Try.prog O3 L c3.r.r.r.r.r.r.r.l.r.l.l.r.l.l.l.r.l.l) [0, 1, 2, 6, 7, 8, 9, 10, 11, 12, 13, 14, 15, 16, 17, 18, 19, 20, 21, 22] [] L (sh3_2 v1_0 v1_1 v1_2 v1_3 v1_4 v1_5 v1_8 v1_9 v1_10 v1_11 v1_12 v1_13 v1_14 v1_15 v1_16 v1_17 v1_6 v1_7 0) (kBlock 2 (kSeq (evC Try.prog O3 L c3.r.r.r.r.r.r.r.l.r.l.l.r.l.l.r) (kBlock 1 (kSeq (evC Try.prog O3 L c3.r.r.r.r.r.r.r.l.r.l.l.r.r) (kRound (loopN (evC Try.prog O3 L c3.r.r.r.r.r.r.r.l.r.l.l) [0, 1, 2, 6, 7, 8, 9, 10, 11, 12, 13, 14, 15, 21, 22] [19] n) [0, 1, 2, 6, 7, 8, 9, 10, 11, 12, 13, 14, 15, 21, 22] [19] K))))))
 (K (.exit 0) (sh3_1 v1_0 v1_1 v1_2 v1_4 v1_5 v1_3 v1_6 v1_7 v1_8 v1_9 v1_10 v1_11 v1_12 v1_13 v1_14 v1_15 v1_16 v1_17))) := by kernel_rfl
  rw [h]
  simp only [le3_2]
  show _ = _
  kernel_rfl
theorem le3_1 (L : Nat) (v1_0 : Int) (v1_1 : Int) (v1_2 : List T32) (v1_4 : Int) (v1_5 : Int) (n : Nat) (v1_3 : Bool) (v1_6 : Int) (v1_7 : Int) (v1_8 : Int) (v1_9 : Int) (v1_10 : Int) (v1_11 : Int) (v1_12 : Int) (v1_13 : Int) (v1_14 : Int) (v1_15 : Int) (v1_16 : Int) (v1_17 : Int) (K : Ex → St → Prop) : loopN (evC Try.prog O3 L c3.r.r.r.r.r.r.r.l.r.l.l) [0, 1, 2, 6, 7, 8, 9, 10, 11, 12, 13, 14, 15, 21, 22] [19] n (sh3_1 v1_0 v1_1 v1_2 v1_4 v1_5 v1_3 v1_6 v1_7 v1_8 v1_9 v1_10 v1_11 v1_12 v1_13 v1_14 v1_15 v1_16 v1_17) K = lp3_1 L v1_0 v1_1 v1_2 v1_4 v1_5 (fun v1_3 v1_6 v1_7 v1_8 v1_9 v1_10 v1_11 v1_12 v1_13 v1_14 v1_15 v1_16 v1_17 => K .ret (sh3_1 v1_0 v1_1 v1_2 v1_4 v1_5 v1_3 v1_6 v1_7 v1_8 v1_9 v1_10 v1_11 v1_12 v1_13 v1_14 v1_15 v1_16 v1_17)) (fun v1_3 v1_6 v1_7 v1_8 v1_9 v1_10 v1_11 v1_12 v1_13 v1_14 v1_15 v1_16 v1_17 => K (.exit 0) (sh3_1 v1_0 v1_1 v1_2 v1_4 v1_5 v1_3 v1_6 v1_7 v1_8 v1_9 v1_10 v1_11 v1_12 v1_13 v1_14 v1_15 v1_16 v1_17)) n v1_3 v1_6 v1_7 v1_8 v1_9 v1_10 v1_11 v1_12 v1_13 v1_14 v1_15 v1_16 v1_17 := by
  induction n generalizing v1_3 v1_6 v1_7 v1_8 v1_9 v1_10 v1_11 v1_12 v1_13 v1_14 v1_15 v1_16 v1_17 with
  | zero => rfl
  | succ n ih =>
    rw [be3_1]
    simp only [ih]
    rfl
def T3t (L : Nat) (a0 : Int) (a1 : Int) (a2 : (List T32)) (k : Bool → Prop) : Prop :=
 (br (((F8 (w64 (a0)) (Int.tmod (w64 (a1)) 1000)).2 != 0))
 (k (false))
 (br (decide ((a2.length : Int) > 20))
 (k (true))
 (lp3_1 L a0 a1 a2 (Int.tmod (w64 (a1)) 1000) ((F8 (w64 (a0)) (Int.tmod (w64 (a1)) 1000)).2) (fun u1_3 u1_6 u1_7 u1_8 u1_9 u1_10 u1_11 u1_12 u1_13 u1_14 u1_15 u1_16 u1_17 =>
 (k (u1_3))) (fun u1_3 u1_6 u1_7 u1_8 u1_9 u1_10 u1_11 u1_12 u1_13 u1_14 u1_15 u1_16 u1_17 =>
 (ob (F12 (⟨u1_12, u1_13, u1_14, u1_15, u1_16, u1_17⟩ : T26) u1_6) fun r1 =>
 (br ((!(r1.2 == decide (u1_6 > (Int.tmod (w64 (a1)) 1000)))))
 (k (false))
 (br ((!r1.2))
 (k (true))
 (br (decide (r1.1.D ≥ 1))
 (br (((w64 (r1.1.N * (w64 (u1_6 - (Int.tmod (w64 (a1)) 1000))))) == (w64 (u1_7 * r1.1.D))))
 (br (decide (r1.1.N ≥ (w64 (u1_8 * r1.1.D))))
 (br (decide (r1.1.N ≤ (w64 (u1_9 * r1.1.D))))
 (k (true))
 (k (false)))
 (k (false)))
 (k (false)))
 (k (false))))))) L false (Int.tmod (w64 (a1)) 1000) 0 (w64 (a0)) (w64 (a0)) (w64 (a0)) 0 ((F8 (w64 (a0)) (Int.tmod (w64 (a1)) 1000)).1.Value) ((F8 (w64 (a0)) (Int.tmod (w64 (a1)) 1000)).1.Since) ((F8 (w64 (a0)) (Int.tmod (w64 (a1)) 1000)).1.Begin) ((F8 (w64 (a0)) (Int.tmod (w64 (a1)) 1000)).1.Area) ((F8 (w64 (a0)) (Int.tmod (w64 (a1)) 1000)).1.Min) ((F8 (w64 (a0)) (Int.tmod (w64 (a1)) 1000)).1.Max))))
theorem tree3 (L : Nat) (a0 : Int) (a1 : Int) (a2 : (List T32)) (kk : PV → Prop) : evFn Try.prog O3 L Try.f3.results.toList c3 [V .i8 a0, V .u16 a1, .arr 32 2 a2.length (fun i => encT32 (a2.getD i default))] kk = T3t L a0 a1 a2 (fun x => kk (B x)) := by
  have h : evFn Try.prog O3 L Try.f3.results.toList c3 [V .i8 a0, V .u16 a1, .arr 32 2 a2.length (fun i => encT32 (a2.getD i default))] kk = ((fun (k : Bool → Prop) => (br (((F8 (w64 (a0)) (Int.tmod (w64 (a1)) 1000)).2 != 0))
 (k (false))
 (br (decide ((a2.length : Int) > 20))
 (k (true))
 (loopN (evC Try.prog O3 L c3.r.r.r.r.r.r.r.l.r.l.l) [0, 1, 2, 6, 7, 8, 9, 10, 11, 12, 13, 14, 15, 21, 22] [19] L (sh3_1 a0 a1 a2 (Int.tmod (w64 (a1)) 1000) ((F8 (w64 (a0)) (Int.tmod (w64 (a1)) 1000)).2) false (Int.tmod (w64 (a1)) 1000) 0 (w64 (a0)) (w64 (a0)) (w64 (a0)) 0 ((F8 (w64 (a0)) (Int.tmod (w64 (a1)) 1000)).1.Value) ((F8 (w64 (a0)) (Int.tmod (w64 (a1)) 1000)).1.Since) ((F8 (w64 (a0)) (Int.tmod (w64 (a1)) 1000)).1.Begin) ((F8 (w64 (a0)) (Int.tmod (w64 (a1)) 1000)).1.Area) ((F8 (w64 (a0)) (Int.tmod (w64 (a1)) 1000)).1.Min) ((F8 (w64 (a0)) (Int.tmod (w64 (a1)) 1000)).1.Max)) (kBlock 0 (kSeq (evC Try.prog O3 L c3.r.r.r.r.r.r.r.r) (kEnd Try.prog Try.f3.results.toList kk))))))) (fun x => kk (B x))) := by kernel_rfl
  rw [h]
  simp only [le3_2, le3_1]
  show _ = _
  kernel_rfl
theorem s3 : SoundC Try.prog O3 := by
  intro f args k h
  unfold O3 at h
  split at h
  · exact ⟨_, h8 _ _, h⟩
  · exact ⟨_, h9t, h⟩
  · exact ⟨_, h10 (T26.mk _ _ _ _ _ _) _, h⟩
  · exact ⟨_, h11 (T26.mk _ _ _ _ _ _) _ _, h⟩
  · obtain ⟨r, h1, h2⟩ := ob_elim h
    exact ⟨_, h12 (T26.mk _ _ _ _ _ _) _ _ h1, h2⟩
  · exact h.elim
theorem g3 (L : Nat) (a0 : Int) (a1 : Int) (a2 : (List T32)) (r : Bool) (h : T3t L a0 a1 a2 (fun x => x = r)) (hm : ∀ p q : Bool → Prop, (∀ x, p x → q x) → T3t L a0 a1 a2 p → T3t L a0 a1 a2 q) : Holds Try.prog 3 [V .i8 a0, V .u16 a1, .arr 32 2 a2.length (fun i => encT32 (a2.getD i default))] (B r) := by
  refine holds_of_ev s3 mixed L Try.func3 (by kernel_rfl : cFn Try.prog Try.f3 = some c3) _ _ (by kernel_rfl) ?_
  rw [tree3]
  exact hm _ _ (fun x e => by rw [e]) h
end Go.Proofs.Ytflfeikkcpcdiaa.Ev
