/-  What is read. -/
import Derived.Test.YtcbandfdmbkokaaGreatG0
import Derived.Test.YtcbandfdmbkokaaGreatFy
namespace Go.Proofs.YtcbandfdmbkokaaGreat.Ev
open Go
set_option maxRecDepth 100000
set_option linter.unusedVariables false
set_option linter.unusedSimpArgs false
set_option linter.unnecessarySimpa false

def Ok_api_Field (x : api_Field) : Prop := okS x.Name ∧ okI .i64 x.Type_
def Ok_api_BeltDecl (x : api_BeltDecl) : Prop := okS x.Name ∧ okI .i64 x.Length ∧ okI .i64 x.Step
def Ok_api_Term (x : api_Term) : Prop := okI .i64 x.Coef ∧ okS x.What ∧ okS x.Name
def Ok_api_Law (x : api_Law) : Prop := okS x.Name ∧ (x.Terms.length ≤ maxLen ∧ ∀ y ∈ x.Terms, Ok_api_Term y) ∧ okI .i64 x.Total
def Ok_api_Change (x : api_Change) : Prop := okI .i64 x.At ∧ okI .i64 x.Units
def Ok_api_Dist (x : api_Dist) : Prop := okI .i64 x.Op ∧ okI .i64 x.A ∧ okI .i64 x.B ∧ okI .i64 x.N ∧ (x.Values.length ≤ maxLen ∧ ∀ y ∈ x.Values, okI .i64 y) ∧ (x.Weights.length ≤ maxLen ∧ ∀ y ∈ x.Weights, okI .i64 y)
def Ok_api_Fault (x : api_Fault) : Prop := okS x.Stream ∧ Ok_api_Dist x.Up ∧ Ok_api_Dist x.Down
def Ok_api_ResourceDecl (x : api_ResourceDecl) : Prop := okS x.Name ∧ okI .i64 x.Units ∧ (x.Shift.length ≤ maxLen ∧ ∀ y ∈ x.Shift, Ok_api_Change y) ∧ okI .i64 x.Cycle ∧ Ok_api_Fault x.Fault
inductive Ok_api_Expr : api_Expr → Prop
  | mk (a0 : Int) (a1 : ByteArray) (a2 : Int) (a3 : (List api_Expr)) (h0_0 : okI .i64 a0) (h1_0 : okS a1) (h2_0 : okI .i64 a2) (h3_0 : a3.length ≤ maxLen) (h3_1 : ∀ y ∈ a3, Ok_api_Expr y) : Ok_api_Expr (.mk a0 a1 a2 a3)
inductive Ok_api_Stmt : api_Stmt → Prop
  | mk (a0 : Int) (a1 : ByteArray) (a2 : ByteArray) (a3 : api_Expr) (a4 : api_Expr) (a5 : (List api_Expr)) (a6 : api_Dist) (a7 : Bool) (a8 : (List api_Stmt)) (a9 : (List api_Stmt)) (h0_0 : okI .i64 a0) (h1_0 : okS a1) (h2_0 : okS a2) (h3_0 : Ok_api_Expr a3) (h4_0 : Ok_api_Expr a4) (h5_0 : a5.length ≤ maxLen) (h5_1 : ∀ y ∈ a5, Ok_api_Expr y) (h6_0 : Ok_api_Dist a6) (h7_0 : True) (h8_0 : a8.length ≤ maxLen) (h8_1 : ∀ y ∈ a8, Ok_api_Stmt y) (h9_0 : a9.length ≤ maxLen) (h9_1 : ∀ y ∈ a9, Ok_api_Stmt y) : Ok_api_Stmt (.mk a0 a1 a2 a3 a4 a5 a6 a7 a8 a9)
def Ok_api_Routine (x : api_Routine) : Prop := okS x.Name ∧ (x.Params.length ≤ maxLen ∧ ∀ y ∈ x.Params, Ok_api_Field y) ∧ (x.Locals.length ≤ maxLen ∧ ∀ y ∈ x.Locals, Ok_api_Field y) ∧ (x.Body.length ≤ maxLen ∧ ∀ y ∈ x.Body, Ok_api_Stmt y)
def Ok_api_Start (x : api_Start) : Prop := okS x.Routine ∧ (x.Args.length ≤ maxLen ∧ ∀ y ∈ x.Args, okI .i64 y) ∧ okI .i64 x.At ∧ okI .i64 x.Every ∧ okI .i64 x.Until
def Ok_api_StoreDecl (x : api_StoreDecl) : Prop := okS x.Name ∧ okI .i64 x.Room ∧ okI .i64 x.Policy
def Ok_api_Value (x : api_Value) : Prop := okS x.Name ∧ okI .i64 x.Type_ ∧ okI .i64 x.N
def Ok_api_SiteDecl (x : api_SiteDecl) : Prop := okS x.Name ∧ (x.Vars.length ≤ maxLen ∧ ∀ y ∈ x.Vars, Ok_api_Value y) ∧ (x.Resources.length ≤ maxLen ∧ ∀ y ∈ x.Resources, Ok_api_ResourceDecl y) ∧ (x.Stores.length ≤ maxLen ∧ ∀ y ∈ x.Stores, Ok_api_StoreDecl y) ∧ (x.Belts.length ≤ maxLen ∧ ∀ y ∈ x.Belts, Ok_api_BeltDecl y) ∧ (x.Queues.length ≤ maxLen ∧ ∀ y ∈ x.Queues, okS y) ∧ (x.Streams.length ≤ maxLen ∧ ∀ y ∈ x.Streams, okS y) ∧ (x.Tallies.length ≤ maxLen ∧ ∀ y ∈ x.Tallies, okS y) ∧ (x.Levels.length ≤ maxLen ∧ ∀ y ∈ x.Levels, okS y) ∧ (x.Counts.length ≤ maxLen ∧ ∀ y ∈ x.Counts, okS y) ∧ (x.Routines.length ≤ maxLen ∧ ∀ y ∈ x.Routines, Ok_api_Routine y) ∧ (x.Starts.length ≤ maxLen ∧ ∀ y ∈ x.Starts, Ok_api_Start y) ∧ (x.Laws.length ≤ maxLen ∧ ∀ y ∈ x.Laws, Ok_api_Law y)
def Ok_L14_Swap (x : L14_Swap) : Prop := Ok_api_Expr x.E ∧ Ok_api_Expr x.By ∧ okS x.Name
def Ok_api_Env (x : api_Env) : Prop := (x.Params.length ≤ maxLen ∧ ∀ y ∈ x.Params, Ok_api_Value y) ∧ (x.Locals.length ≤ maxLen ∧ ∀ y ∈ x.Locals, Ok_api_Field y) ∧ Ok_api_SiteDecl x.Site
theorem lx3 (x : LX) (h : x.e = 3) : ∃ l, x = .t3 l := by
  cases x <;> first | exact ⟨_, rfl⟩ | (simp [LX.e] at h)
theorem lx4 (x : LX) (h : x.e = 4) : ∃ l, x = .t4 l := by
  cases x <;> first | exact ⟨_, rfl⟩ | (simp [LX.e] at h)
theorem lx9 (x : LX) (h : x.e = 9) : ∃ l, x = .t9 l := by
  cases x <;> first | exact ⟨_, rfl⟩ | (simp [LX.e] at h)
theorem lx23 (x : LX) (h : x.e = 23) : ∃ l, x = .t23 l := by
  cases x <;> first | exact ⟨_, rfl⟩ | (simp [LX.e] at h)
theorem lx27 (x : LX) (h : x.e = 27) : ∃ l, x = .t27 l := by
  cases x <;> first | exact ⟨_, rfl⟩ | (simp [LX.e] at h)
theorem lx32 (x : LX) (h : x.e = 32) : ∃ l, x = .t32 l := by
  cases x <;> first | exact ⟨_, rfl⟩ | (simp [LX.e] at h)
theorem lx38 (x : LX) (h : x.e = 38) : ∃ l, x = .t38 l := by
  cases x <;> first | exact ⟨_, rfl⟩ | (simp [LX.e] at h)
theorem lx41 (x : LX) (h : x.e = 41) : ∃ l, x = .t41 l := by
  cases x <;> first | exact ⟨_, rfl⟩ | (simp [LX.e] at h)
theorem lx68 (x : LX) (h : x.e = 68) : ∃ l, x = .t68 l := by
  cases x <;> first | exact ⟨_, rfl⟩ | (simp [LX.e] at h)
theorem lx72 (x : LX) (h : x.e = 72) : ∃ l, x = .t72 l := by
  cases x <;> first | exact ⟨_, rfl⟩ | (simp [LX.e] at h)
theorem lx74 (x : LX) (h : x.e = 74) : ∃ l, x = .t74 l := by
  cases x <;> first | exact ⟨_, rfl⟩ | (simp [LX.e] at h)
theorem lx82 (x : LX) (h : x.e = 82) : ∃ l, x = .t82 l := by
  cases x <;> first | exact ⟨_, rfl⟩ | (simp [LX.e] at h)
theorem lx149 (x : LX) (h : x.e = 149) : ∃ l, x = .t149 l := by
  cases x <;> first | exact ⟨_, rfl⟩ | (simp [LX.e] at h)
theorem lx156 (x : LX) (h : x.e = 156) : ∃ l, x = .t156 l := by
  cases x <;> first | exact ⟨_, rfl⟩ | (simp [LX.e] at h)
theorem lx160 (x : LX) (h : x.e = 160) : ∃ l, x = .t160 l := by
  cases x <;> first | exact ⟨_, rfl⟩ | (simp [LX.e] at h)
theorem lx166 (x : LX) (h : x.e = 166) : ∃ l, x = .t166 l := by
  cases x <;> first | exact ⟨_, rfl⟩ | (simp [LX.e] at h)
theorem lx184 (x : LX) (h : x.e = 184) : ∃ l, x = .t184 l := by
  cases x <;> first | exact ⟨_, rfl⟩ | (simp [LX.e] at h)
theorem lx228 (x : LX) (h : x.e = 228) : ∃ l, x = .t228 l := by
  cases x <;> first | exact ⟨_, rfl⟩ | (simp [LX.e] at h)
theorem lx234 (x : LX) (h : x.e = 234) : ∃ l, x = .t234 l := by
  cases x <;> first | exact ⟨_, rfl⟩ | (simp [LX.e] at h)
theorem mk32 (n : Nat) (l : List PV) (h : Shp Tryz.prog n 32 l) : ∃ y : api_SiteDecl, l = enapi_SiteDecl y := by
  obtain ⟨m, _, h⟩ := shp_st Tryz.underlying32 h
  change Shps (Shp Tryz.prog m) [9, 22, 24, 25, 26, 27, 27, 27, 27, 27, 28, 29, 30] l at h
  obtain ⟨a0, b0, rfl, h0, a1, b1, rfl, h1, a2, b2, rfl, h2, a3, b3, rfl, h3, a4, b4, rfl, h4, a5, b5, rfl, h5, a6, b6, rfl, h6, a7, b7, rfl, h7, a8, b8, rfl, h8, a9, b9, rfl, h9, a10, b10, rfl, h10, a11, b11, rfl, h11, a12, b12, rfl, h12, rfl⟩ := h
  obtain ⟨z0, rfl, _⟩ := shp_str Tryz.underlying9 h0
  obtain ⟨x1, rfl, e1, _, _, _, _⟩ := shp_sl Tryz.underlying22 h1
  obtain ⟨z1, rfl⟩ := lx72 x1 e1
  obtain ⟨x2, rfl, e2, _, _, _, _⟩ := shp_sl Tryz.underlying24 h2
  obtain ⟨z2, rfl⟩ := lx149 x2 e2
  obtain ⟨x3, rfl, e3, _, _, _, _⟩ := shp_sl Tryz.underlying25 h3
  obtain ⟨z3, rfl⟩ := lx156 x3 e3
  obtain ⟨x4, rfl, e4, _, _, _, _⟩ := shp_sl Tryz.underlying26 h4
  obtain ⟨z4, rfl⟩ := lx160 x4 e4
  obtain ⟨x5, rfl, e5, _, _, _, _⟩ := shp_sl Tryz.underlying27 h5
  obtain ⟨z5, rfl⟩ := lx9 x5 e5
  obtain ⟨x6, rfl, e6, _, _, _, _⟩ := shp_sl Tryz.underlying27 h6
  obtain ⟨z6, rfl⟩ := lx9 x6 e6
  obtain ⟨x7, rfl, e7, _, _, _, _⟩ := shp_sl Tryz.underlying27 h7
  obtain ⟨z7, rfl⟩ := lx9 x7 e7
  obtain ⟨x8, rfl, e8, _, _, _, _⟩ := shp_sl Tryz.underlying27 h8
  obtain ⟨z8, rfl⟩ := lx9 x8 e8
  obtain ⟨x9, rfl, e9, _, _, _, _⟩ := shp_sl Tryz.underlying27 h9
  obtain ⟨z9, rfl⟩ := lx9 x9 e9
  obtain ⟨x10, rfl, e10, _, _, _, _⟩ := shp_sl Tryz.underlying28 h10
  obtain ⟨z10, rfl⟩ := lx74 x10 e10
  obtain ⟨x11, rfl, e11, _, _, _, _⟩ := shp_sl Tryz.underlying29 h11
  obtain ⟨z11, rfl⟩ := lx166 x11 e11
  obtain ⟨x12, rfl, e12, _, _, _, _⟩ := shp_sl Tryz.underlying30 h12
  obtain ⟨z12, rfl⟩ := lx184 x12 e12
  exact ⟨.mk z0 z1 z2 z3 z4 z5 z6 z7 z8 z9 z10 z11 z12, rfl⟩
theorem w32 (n : Nat) : ∀ l, Shp Tryz.prog n 32 l → l.length = 13 := fun l h => by obtain ⟨y, rfl⟩ := mk32 n l h; rfl
theorem mk34 (n : Nat) (l : List PV) (h : Shp Tryz.prog n 34 l) : ∃ y : api_Env, l = enapi_Env y := by
  obtain ⟨m, _, h⟩ := shp_st Tryz.underlying34 h
  change Shps (Shp Tryz.prog m) [22, 23, 32] l at h
  obtain ⟨a0, b0, rfl, h0, a1, b1, rfl, h1, a2, b2, rfl, h2, rfl⟩ := h
  obtain ⟨x0, rfl, e0, _, _, _, _⟩ := shp_sl Tryz.underlying22 h0
  obtain ⟨z0, rfl⟩ := lx72 x0 e0
  obtain ⟨x1, rfl, e1, _, _, _, _⟩ := shp_sl Tryz.underlying23 h1
  obtain ⟨z1, rfl⟩ := lx68 x1 e1
  obtain ⟨z2, rfl⟩ := mk32 m _ h2
  exact ⟨.mk z0 z1 z2, rfl⟩
theorem w34 (n : Nat) : ∀ l, Shp Tryz.prog n 34 l → l.length = 15 := fun l h => by obtain ⟨y, rfl⟩ := mk34 n l h; rfl
theorem mk38 (n : Nat) (l : List PV) (h : Shp Tryz.prog n 38 l) : ∃ y : api_Expr, l = enapi_Expr y := by
  obtain ⟨m, _, h⟩ := shp_st Tryz.underlying38 h
  change Shps (Shp Tryz.prog m) [35, 9, 3, 36] l at h
  obtain ⟨a0, b0, rfl, h0, a1, b1, rfl, h1, a2, b2, rfl, h2, a3, b3, rfl, h3, rfl⟩ := h
  obtain ⟨z0, rfl, _⟩ := shp_int Tryz.underlying35 h0
  obtain ⟨z1, rfl, _⟩ := shp_str Tryz.underlying9 h1
  obtain ⟨z2, rfl, _⟩ := shp_int Tryz.underlying3 h2
  obtain ⟨x3, rfl, e3, _, _, _, _⟩ := shp_sl Tryz.underlying36 h3
  obtain ⟨z3, rfl⟩ := lx38 x3 e3
  exact ⟨.mk z0 z1 z2 z3, rfl⟩
theorem w38 (n : Nat) : ∀ l, Shp Tryz.prog n 38 l → l.length = 4 := fun l h => by obtain ⟨y, rfl⟩ := mk38 n l h; rfl
theorem mk63 (n : Nat) (l : List PV) (h : Shp Tryz.prog n 63 l) : ∃ y : L14_Swap, l = enL14_Swap y := by
  obtain ⟨m, _, h⟩ := shp_st Tryz.underlying63 h
  change Shps (Shp Tryz.prog m) [38, 38, 9] l at h
  obtain ⟨a0, b0, rfl, h0, a1, b1, rfl, h1, a2, b2, rfl, h2, rfl⟩ := h
  obtain ⟨z0, rfl⟩ := mk38 m _ h0
  obtain ⟨z1, rfl⟩ := mk38 m _ h1
  obtain ⟨z2, rfl, _⟩ := shp_str Tryz.underlying9 h2
  exact ⟨.mk z0 z1 z2, rfl⟩
theorem w63 (n : Nat) : ∀ l, Shp Tryz.prog n 63 l → l.length = 9 := fun l h => by obtain ⟨y, rfl⟩ := mk63 n l h; rfl
theorem mk68 (n : Nat) (l : List PV) (h : Shp Tryz.prog n 68 l) : ∃ y : api_Field, l = enapi_Field y := by
  obtain ⟨m, _, h⟩ := shp_st Tryz.underlying68 h
  change Shps (Shp Tryz.prog m) [9, 41] l at h
  obtain ⟨a0, b0, rfl, h0, a1, b1, rfl, h1, rfl⟩ := h
  obtain ⟨z0, rfl, _⟩ := shp_str Tryz.underlying9 h0
  obtain ⟨z1, rfl, _⟩ := shp_int Tryz.underlying41 h1
  exact ⟨.mk z0 z1, rfl⟩
theorem w68 (n : Nat) : ∀ l, Shp Tryz.prog n 68 l → l.length = 2 := fun l h => by obtain ⟨y, rfl⟩ := mk68 n l h; rfl
theorem mk72 (n : Nat) (l : List PV) (h : Shp Tryz.prog n 72 l) : ∃ y : api_Value, l = enapi_Value y := by
  obtain ⟨m, _, h⟩ := shp_st Tryz.underlying72 h
  change Shps (Shp Tryz.prog m) [9, 41, 3] l at h
  obtain ⟨a0, b0, rfl, h0, a1, b1, rfl, h1, a2, b2, rfl, h2, rfl⟩ := h
  obtain ⟨z0, rfl, _⟩ := shp_str Tryz.underlying9 h0
  obtain ⟨z1, rfl, _⟩ := shp_int Tryz.underlying41 h1
  obtain ⟨z2, rfl, _⟩ := shp_int Tryz.underlying3 h2
  exact ⟨.mk z0 z1 z2, rfl⟩
theorem w72 (n : Nat) : ∀ l, Shp Tryz.prog n 72 l → l.length = 3 := fun l h => by obtain ⟨y, rfl⟩ := mk72 n l h; rfl
theorem mk74 (n : Nat) (l : List PV) (h : Shp Tryz.prog n 74 l) : ∃ y : api_Routine, l = enapi_Routine y := by
  obtain ⟨m, _, h⟩ := shp_st Tryz.underlying74 h
  change Shps (Shp Tryz.prog m) [9, 23, 23, 52] l at h
  obtain ⟨a0, b0, rfl, h0, a1, b1, rfl, h1, a2, b2, rfl, h2, a3, b3, rfl, h3, rfl⟩ := h
  obtain ⟨z0, rfl, _⟩ := shp_str Tryz.underlying9 h0
  obtain ⟨x1, rfl, e1, _, _, _, _⟩ := shp_sl Tryz.underlying23 h1
  obtain ⟨z1, rfl⟩ := lx68 x1 e1
  obtain ⟨x2, rfl, e2, _, _, _, _⟩ := shp_sl Tryz.underlying23 h2
  obtain ⟨z2, rfl⟩ := lx68 x2 e2
  obtain ⟨x3, rfl, e3, _, _, _, _⟩ := shp_sl Tryz.underlying52 h3
  obtain ⟨z3, rfl⟩ := lx82 x3 e3
  exact ⟨.mk z0 z1 z2 z3, rfl⟩
theorem w74 (n : Nat) : ∀ l, Shp Tryz.prog n 74 l → l.length = 4 := fun l h => by obtain ⟨y, rfl⟩ := mk74 n l h; rfl
theorem mk80 (n : Nat) (l : List PV) (h : Shp Tryz.prog n 80 l) : ∃ y : api_Dist, l = enapi_Dist y := by
  obtain ⟨m, _, h⟩ := shp_st Tryz.underlying80 h
  change Shps (Shp Tryz.prog m) [77, 3, 3, 3, 78, 78] l at h
  obtain ⟨a0, b0, rfl, h0, a1, b1, rfl, h1, a2, b2, rfl, h2, a3, b3, rfl, h3, a4, b4, rfl, h4, a5, b5, rfl, h5, rfl⟩ := h
  obtain ⟨z0, rfl, _⟩ := shp_int Tryz.underlying77 h0
  obtain ⟨z1, rfl, _⟩ := shp_int Tryz.underlying3 h1
  obtain ⟨z2, rfl, _⟩ := shp_int Tryz.underlying3 h2
  obtain ⟨z3, rfl, _⟩ := shp_int Tryz.underlying3 h3
  obtain ⟨x4, rfl, e4, _, _, _, _⟩ := shp_sl Tryz.underlying78 h4
  obtain ⟨z4, rfl⟩ := lx3 x4 e4
  obtain ⟨x5, rfl, e5, _, _, _, _⟩ := shp_sl Tryz.underlying78 h5
  obtain ⟨z5, rfl⟩ := lx3 x5 e5
  exact ⟨.mk z0 z1 z2 z3 z4 z5, rfl⟩
theorem w80 (n : Nat) : ∀ l, Shp Tryz.prog n 80 l → l.length = 6 := fun l h => by obtain ⟨y, rfl⟩ := mk80 n l h; rfl
theorem mk82 (n : Nat) (l : List PV) (h : Shp Tryz.prog n 82 l) : ∃ y : api_Stmt, l = enapi_Stmt y := by
  obtain ⟨m, _, h⟩ := shp_st Tryz.underlying82 h
  change Shps (Shp Tryz.prog m) [76, 9, 9, 38, 38, 36, 80, 4, 52, 52] l at h
  obtain ⟨a0, b0, rfl, h0, a1, b1, rfl, h1, a2, b2, rfl, h2, a3, b3, rfl, h3, a4, b4, rfl, h4, a5, b5, rfl, h5, a6, b6, rfl, h6, a7, b7, rfl, h7, a8, b8, rfl, h8, a9, b9, rfl, h9, rfl⟩ := h
  obtain ⟨z0, rfl, _⟩ := shp_int Tryz.underlying76 h0
  obtain ⟨z1, rfl, _⟩ := shp_str Tryz.underlying9 h1
  obtain ⟨z2, rfl, _⟩ := shp_str Tryz.underlying9 h2
  obtain ⟨z3, rfl⟩ := mk38 m _ h3
  obtain ⟨z4, rfl⟩ := mk38 m _ h4
  obtain ⟨x5, rfl, e5, _, _, _, _⟩ := shp_sl Tryz.underlying36 h5
  obtain ⟨z5, rfl⟩ := lx38 x5 e5
  obtain ⟨z6, rfl⟩ := mk80 m _ h6
  obtain ⟨z7, rfl⟩ := shp_bool Tryz.underlying4 h7
  obtain ⟨x8, rfl, e8, _, _, _, _⟩ := shp_sl Tryz.underlying52 h8
  obtain ⟨z8, rfl⟩ := lx82 x8 e8
  obtain ⟨x9, rfl, e9, _, _, _, _⟩ := shp_sl Tryz.underlying52 h9
  obtain ⟨z9, rfl⟩ := lx82 x9 e9
  exact ⟨.mk z0 z1 z2 z3 z4 z5 z6 z7 z8 z9, rfl⟩
theorem w82 (n : Nat) : ∀ l, Shp Tryz.prog n 82 l → l.length = 21 := fun l h => by obtain ⟨y, rfl⟩ := mk82 n l h; rfl
theorem mk147 (n : Nat) (l : List PV) (h : Shp Tryz.prog n 147 l) : ∃ y : api_Fault, l = enapi_Fault y := by
  obtain ⟨m, _, h⟩ := shp_st Tryz.underlying147 h
  change Shps (Shp Tryz.prog m) [9, 80, 80] l at h
  obtain ⟨a0, b0, rfl, h0, a1, b1, rfl, h1, a2, b2, rfl, h2, rfl⟩ := h
  obtain ⟨z0, rfl, _⟩ := shp_str Tryz.underlying9 h0
  obtain ⟨z1, rfl⟩ := mk80 m _ h1
  obtain ⟨z2, rfl⟩ := mk80 m _ h2
  exact ⟨.mk z0 z1 z2, rfl⟩
theorem w147 (n : Nat) : ∀ l, Shp Tryz.prog n 147 l → l.length = 13 := fun l h => by obtain ⟨y, rfl⟩ := mk147 n l h; rfl
theorem mk149 (n : Nat) (l : List PV) (h : Shp Tryz.prog n 149 l) : ∃ y : api_ResourceDecl, l = enapi_ResourceDecl y := by
  obtain ⟨m, _, h⟩ := shp_st Tryz.underlying149 h
  change Shps (Shp Tryz.prog m) [9, 3, 145, 3, 147] l at h
  obtain ⟨a0, b0, rfl, h0, a1, b1, rfl, h1, a2, b2, rfl, h2, a3, b3, rfl, h3, a4, b4, rfl, h4, rfl⟩ := h
  obtain ⟨z0, rfl, _⟩ := shp_str Tryz.underlying9 h0
  obtain ⟨z1, rfl, _⟩ := shp_int Tryz.underlying3 h1
  obtain ⟨x2, rfl, e2, _, _, _, _⟩ := shp_sl Tryz.underlying145 h2
  obtain ⟨z2, rfl⟩ := lx228 x2 e2
  obtain ⟨z3, rfl, _⟩ := shp_int Tryz.underlying3 h3
  obtain ⟨z4, rfl⟩ := mk147 m _ h4
  exact ⟨.mk z0 z1 z2 z3 z4, rfl⟩
theorem w149 (n : Nat) : ∀ l, Shp Tryz.prog n 149 l → l.length = 17 := fun l h => by obtain ⟨y, rfl⟩ := mk149 n l h; rfl
theorem mk156 (n : Nat) (l : List PV) (h : Shp Tryz.prog n 156 l) : ∃ y : api_StoreDecl, l = enapi_StoreDecl y := by
  obtain ⟨m, _, h⟩ := shp_st Tryz.underlying156 h
  change Shps (Shp Tryz.prog m) [9, 3, 154] l at h
  obtain ⟨a0, b0, rfl, h0, a1, b1, rfl, h1, a2, b2, rfl, h2, rfl⟩ := h
  obtain ⟨z0, rfl, _⟩ := shp_str Tryz.underlying9 h0
  obtain ⟨z1, rfl, _⟩ := shp_int Tryz.underlying3 h1
  obtain ⟨z2, rfl, _⟩ := shp_int Tryz.underlying154 h2
  exact ⟨.mk z0 z1 z2, rfl⟩
theorem w156 (n : Nat) : ∀ l, Shp Tryz.prog n 156 l → l.length = 3 := fun l h => by obtain ⟨y, rfl⟩ := mk156 n l h; rfl
theorem mk160 (n : Nat) (l : List PV) (h : Shp Tryz.prog n 160 l) : ∃ y : api_BeltDecl, l = enapi_BeltDecl y := by
  obtain ⟨m, _, h⟩ := shp_st Tryz.underlying160 h
  change Shps (Shp Tryz.prog m) [9, 3, 3] l at h
  obtain ⟨a0, b0, rfl, h0, a1, b1, rfl, h1, a2, b2, rfl, h2, rfl⟩ := h
  obtain ⟨z0, rfl, _⟩ := shp_str Tryz.underlying9 h0
  obtain ⟨z1, rfl, _⟩ := shp_int Tryz.underlying3 h1
  obtain ⟨z2, rfl, _⟩ := shp_int Tryz.underlying3 h2
  exact ⟨.mk z0 z1 z2, rfl⟩
theorem w160 (n : Nat) : ∀ l, Shp Tryz.prog n 160 l → l.length = 3 := fun l h => by obtain ⟨y, rfl⟩ := mk160 n l h; rfl
theorem mk166 (n : Nat) (l : List PV) (h : Shp Tryz.prog n 166 l) : ∃ y : api_Start, l = enapi_Start y := by
  obtain ⟨m, _, h⟩ := shp_st Tryz.underlying166 h
  change Shps (Shp Tryz.prog m) [9, 78, 3, 3, 3] l at h
  obtain ⟨a0, b0, rfl, h0, a1, b1, rfl, h1, a2, b2, rfl, h2, a3, b3, rfl, h3, a4, b4, rfl, h4, rfl⟩ := h
  obtain ⟨z0, rfl, _⟩ := shp_str Tryz.underlying9 h0
  obtain ⟨x1, rfl, e1, _, _, _, _⟩ := shp_sl Tryz.underlying78 h1
  obtain ⟨z1, rfl⟩ := lx3 x1 e1
  obtain ⟨z2, rfl, _⟩ := shp_int Tryz.underlying3 h2
  obtain ⟨z3, rfl, _⟩ := shp_int Tryz.underlying3 h3
  obtain ⟨z4, rfl, _⟩ := shp_int Tryz.underlying3 h4
  exact ⟨.mk z0 z1 z2 z3 z4, rfl⟩
theorem w166 (n : Nat) : ∀ l, Shp Tryz.prog n 166 l → l.length = 5 := fun l h => by obtain ⟨y, rfl⟩ := mk166 n l h; rfl
theorem mk184 (n : Nat) (l : List PV) (h : Shp Tryz.prog n 184 l) : ∃ y : api_Law, l = enapi_Law y := by
  obtain ⟨m, _, h⟩ := shp_st Tryz.underlying184 h
  change Shps (Shp Tryz.prog m) [9, 182, 3] l at h
  obtain ⟨a0, b0, rfl, h0, a1, b1, rfl, h1, a2, b2, rfl, h2, rfl⟩ := h
  obtain ⟨z0, rfl, _⟩ := shp_str Tryz.underlying9 h0
  obtain ⟨x1, rfl, e1, _, _, _, _⟩ := shp_sl Tryz.underlying182 h1
  obtain ⟨z1, rfl⟩ := lx234 x1 e1
  obtain ⟨z2, rfl, _⟩ := shp_int Tryz.underlying3 h2
  exact ⟨.mk z0 z1 z2, rfl⟩
theorem w184 (n : Nat) : ∀ l, Shp Tryz.prog n 184 l → l.length = 3 := fun l h => by obtain ⟨y, rfl⟩ := mk184 n l h; rfl
theorem mk228 (n : Nat) (l : List PV) (h : Shp Tryz.prog n 228 l) : ∃ y : api_Change, l = enapi_Change y := by
  obtain ⟨m, _, h⟩ := shp_st Tryz.underlying228 h
  change Shps (Shp Tryz.prog m) [3, 3] l at h
  obtain ⟨a0, b0, rfl, h0, a1, b1, rfl, h1, rfl⟩ := h
  obtain ⟨z0, rfl, _⟩ := shp_int Tryz.underlying3 h0
  obtain ⟨z1, rfl, _⟩ := shp_int Tryz.underlying3 h1
  exact ⟨.mk z0 z1, rfl⟩
theorem w228 (n : Nat) : ∀ l, Shp Tryz.prog n 228 l → l.length = 2 := fun l h => by obtain ⟨y, rfl⟩ := mk228 n l h; rfl
theorem mk234 (n : Nat) (l : List PV) (h : Shp Tryz.prog n 234 l) : ∃ y : api_Term, l = enapi_Term y := by
  obtain ⟨m, _, h⟩ := shp_st Tryz.underlying234 h
  change Shps (Shp Tryz.prog m) [3, 9, 9] l at h
  obtain ⟨a0, b0, rfl, h0, a1, b1, rfl, h1, a2, b2, rfl, h2, rfl⟩ := h
  obtain ⟨z0, rfl, _⟩ := shp_int Tryz.underlying3 h0
  obtain ⟨z1, rfl, _⟩ := shp_str Tryz.underlying9 h1
  obtain ⟨z2, rfl, _⟩ := shp_str Tryz.underlying9 h2
  exact ⟨.mk z0 z1 z2, rfl⟩
theorem w234 (n : Nat) : ∀ l, Shp Tryz.prog n 234 l → l.length = 3 := fun l h => by obtain ⟨y, rfl⟩ := mk234 n l h; rfl
theorem ok72 (n : Nat) (y : api_Value) (h : Shp Tryz.prog n 72 (enapi_Value y)) : Ok_api_Value y := by
  obtain ⟨m, _, h⟩ := shp_st Tryz.underlying72 h
  change Shps (Shp Tryz.prog m) [9, 41, 3] (enapi_Value y) at h
  obtain ⟨g0, h⟩ := shps_cons (w_str Tryz.underlying9 m) h
  obtain ⟨g1, h⟩ := shps_cons (w_int Tryz.underlying41 m) h
  obtain ⟨g2, h⟩ := shps_cons (w_int Tryz.underlying3 m) h
  exact ⟨ok_str Tryz.underlying9 g0, ok_int Tryz.underlying41 g1, ok_int Tryz.underlying3 g2⟩
theorem okl22 (n : Nat) (x : (List api_Value)) (h : Shp Tryz.prog n 22 [.lst false (.t72 x)]) : (x.length ≤ maxLen ∧ ∀ y ∈ x, Ok_api_Value y) := by
  obtain ⟨h1, m, _, h2⟩ := ok_sl Tryz.underlying22 h
  exact ⟨h1, fun y hy => ok72 _ _ (all_rows (row := row72) h2 y hy)⟩
theorem ok68 (n : Nat) (y : api_Field) (h : Shp Tryz.prog n 68 (enapi_Field y)) : Ok_api_Field y := by
  obtain ⟨m, _, h⟩ := shp_st Tryz.underlying68 h
  change Shps (Shp Tryz.prog m) [9, 41] (enapi_Field y) at h
  obtain ⟨g0, h⟩ := shps_cons (w_str Tryz.underlying9 m) h
  obtain ⟨g1, h⟩ := shps_cons (w_int Tryz.underlying41 m) h
  exact ⟨ok_str Tryz.underlying9 g0, ok_int Tryz.underlying41 g1⟩
theorem okl23 (n : Nat) (x : (List api_Field)) (h : Shp Tryz.prog n 23 [.lst false (.t68 x)]) : (x.length ≤ maxLen ∧ ∀ y ∈ x, Ok_api_Field y) := by
  obtain ⟨h1, m, _, h2⟩ := ok_sl Tryz.underlying23 h
  exact ⟨h1, fun y hy => ok68 _ _ (all_rows (row := row68) h2 y hy)⟩
theorem ok228 (n : Nat) (y : api_Change) (h : Shp Tryz.prog n 228 (enapi_Change y)) : Ok_api_Change y := by
  obtain ⟨m, _, h⟩ := shp_st Tryz.underlying228 h
  change Shps (Shp Tryz.prog m) [3, 3] (enapi_Change y) at h
  obtain ⟨g0, h⟩ := shps_cons (w_int Tryz.underlying3 m) h
  obtain ⟨g1, h⟩ := shps_cons (w_int Tryz.underlying3 m) h
  exact ⟨ok_int Tryz.underlying3 g0, ok_int Tryz.underlying3 g1⟩
theorem okl145 (n : Nat) (x : (List api_Change)) (h : Shp Tryz.prog n 145 [.lst false (.t228 x)]) : (x.length ≤ maxLen ∧ ∀ y ∈ x, Ok_api_Change y) := by
  obtain ⟨h1, m, _, h2⟩ := ok_sl Tryz.underlying145 h
  exact ⟨h1, fun y hy => ok228 _ _ (all_rows (row := row228) h2 y hy)⟩
theorem okl78 (n : Nat) (x : (List Int)) (h : Shp Tryz.prog n 78 [.lst false (.t3 x)]) : (x.length ≤ maxLen ∧ ∀ y ∈ x, okI .i64 y) := by
  obtain ⟨h1, m, _, h2⟩ := ok_sl Tryz.underlying78 h
  exact ⟨h1, fun y hy => ok_int Tryz.underlying3 (all_rows (row := row3) h2 y hy)⟩
theorem ok80 (n : Nat) (y : api_Dist) (h : Shp Tryz.prog n 80 (enapi_Dist y)) : Ok_api_Dist y := by
  obtain ⟨m, _, h⟩ := shp_st Tryz.underlying80 h
  change Shps (Shp Tryz.prog m) [77, 3, 3, 3, 78, 78] (enapi_Dist y) at h
  obtain ⟨g0, h⟩ := shps_cons (w_int Tryz.underlying77 m) h
  obtain ⟨g1, h⟩ := shps_cons (w_int Tryz.underlying3 m) h
  obtain ⟨g2, h⟩ := shps_cons (w_int Tryz.underlying3 m) h
  obtain ⟨g3, h⟩ := shps_cons (w_int Tryz.underlying3 m) h
  obtain ⟨g4, h⟩ := shps_cons (w_sl Tryz.underlying78 m) h
  obtain ⟨g5, h⟩ := shps_cons (w_sl Tryz.underlying78 m) h
  exact ⟨ok_int Tryz.underlying77 g0, ok_int Tryz.underlying3 g1, ok_int Tryz.underlying3 g2, ok_int Tryz.underlying3 g3, okl78 m _ g4, okl78 m _ g5⟩
theorem ok147 (n : Nat) (y : api_Fault) (h : Shp Tryz.prog n 147 (enapi_Fault y)) : Ok_api_Fault y := by
  obtain ⟨m, _, h⟩ := shp_st Tryz.underlying147 h
  change Shps (Shp Tryz.prog m) [9, 80, 80] (enapi_Fault y) at h
  obtain ⟨g0, h⟩ := shps_cons (w_str Tryz.underlying9 m) h
  obtain ⟨g1, h⟩ := shps_cons (w80 m) h
  obtain ⟨g2, h⟩ := shps_cons (w80 m) h
  exact ⟨ok_str Tryz.underlying9 g0, ok80 m _ g1, ok80 m _ g2⟩
theorem ok149 (n : Nat) (y : api_ResourceDecl) (h : Shp Tryz.prog n 149 (enapi_ResourceDecl y)) : Ok_api_ResourceDecl y := by
  obtain ⟨m, _, h⟩ := shp_st Tryz.underlying149 h
  change Shps (Shp Tryz.prog m) [9, 3, 145, 3, 147] (enapi_ResourceDecl y) at h
  obtain ⟨g0, h⟩ := shps_cons (w_str Tryz.underlying9 m) h
  obtain ⟨g1, h⟩ := shps_cons (w_int Tryz.underlying3 m) h
  obtain ⟨g2, h⟩ := shps_cons (w_sl Tryz.underlying145 m) h
  obtain ⟨g3, h⟩ := shps_cons (w_int Tryz.underlying3 m) h
  obtain ⟨g4, h⟩ := shps_cons (w147 m) h
  exact ⟨ok_str Tryz.underlying9 g0, ok_int Tryz.underlying3 g1, okl145 m _ g2, ok_int Tryz.underlying3 g3, ok147 m _ g4⟩
theorem okl24 (n : Nat) (x : (List api_ResourceDecl)) (h : Shp Tryz.prog n 24 [.lst false (.t149 x)]) : (x.length ≤ maxLen ∧ ∀ y ∈ x, Ok_api_ResourceDecl y) := by
  obtain ⟨h1, m, _, h2⟩ := ok_sl Tryz.underlying24 h
  exact ⟨h1, fun y hy => ok149 _ _ (all_rows (row := row149) h2 y hy)⟩
theorem ok156 (n : Nat) (y : api_StoreDecl) (h : Shp Tryz.prog n 156 (enapi_StoreDecl y)) : Ok_api_StoreDecl y := by
  obtain ⟨m, _, h⟩ := shp_st Tryz.underlying156 h
  change Shps (Shp Tryz.prog m) [9, 3, 154] (enapi_StoreDecl y) at h
  obtain ⟨g0, h⟩ := shps_cons (w_str Tryz.underlying9 m) h
  obtain ⟨g1, h⟩ := shps_cons (w_int Tryz.underlying3 m) h
  obtain ⟨g2, h⟩ := shps_cons (w_int Tryz.underlying154 m) h
  exact ⟨ok_str Tryz.underlying9 g0, ok_int Tryz.underlying3 g1, ok_int Tryz.underlying154 g2⟩
theorem okl25 (n : Nat) (x : (List api_StoreDecl)) (h : Shp Tryz.prog n 25 [.lst false (.t156 x)]) : (x.length ≤ maxLen ∧ ∀ y ∈ x, Ok_api_StoreDecl y) := by
  obtain ⟨h1, m, _, h2⟩ := ok_sl Tryz.underlying25 h
  exact ⟨h1, fun y hy => ok156 _ _ (all_rows (row := row156) h2 y hy)⟩
theorem ok160 (n : Nat) (y : api_BeltDecl) (h : Shp Tryz.prog n 160 (enapi_BeltDecl y)) : Ok_api_BeltDecl y := by
  obtain ⟨m, _, h⟩ := shp_st Tryz.underlying160 h
  change Shps (Shp Tryz.prog m) [9, 3, 3] (enapi_BeltDecl y) at h
  obtain ⟨g0, h⟩ := shps_cons (w_str Tryz.underlying9 m) h
  obtain ⟨g1, h⟩ := shps_cons (w_int Tryz.underlying3 m) h
  obtain ⟨g2, h⟩ := shps_cons (w_int Tryz.underlying3 m) h
  exact ⟨ok_str Tryz.underlying9 g0, ok_int Tryz.underlying3 g1, ok_int Tryz.underlying3 g2⟩
theorem okl26 (n : Nat) (x : (List api_BeltDecl)) (h : Shp Tryz.prog n 26 [.lst false (.t160 x)]) : (x.length ≤ maxLen ∧ ∀ y ∈ x, Ok_api_BeltDecl y) := by
  obtain ⟨h1, m, _, h2⟩ := ok_sl Tryz.underlying26 h
  exact ⟨h1, fun y hy => ok160 _ _ (all_rows (row := row160) h2 y hy)⟩
theorem okl27 (n : Nat) (x : (List ByteArray)) (h : Shp Tryz.prog n 27 [.lst false (.t9 x)]) : (x.length ≤ maxLen ∧ ∀ y ∈ x, okS y) := by
  obtain ⟨h1, m, _, h2⟩ := ok_sl Tryz.underlying27 h
  exact ⟨h1, fun y hy => ok_str Tryz.underlying9 (all_rows (row := row9) h2 y hy)⟩
theorem okg38 : ∀ n, (∀ y : api_Expr, Shp Tryz.prog n 38 (enapi_Expr y) → Ok_api_Expr y) := by
  intro n
  induction n using Nat.strongRecOn with
  | _ n ih =>
  refine ?_
  · intro y h
    obtain ⟨m, hm, h⟩ := shp_st Tryz.underlying38 h
    change Shps (Shp Tryz.prog m) [35, 9, 3, 36] (enapi_Expr y) at h
    cases y with
    | mk a0 a1 a2 a3 =>
    obtain ⟨g0, h⟩ := shps_cons (w_int Tryz.underlying35 m) h
    obtain ⟨g1, h⟩ := shps_cons (w_str Tryz.underlying9 m) h
    obtain ⟨g2, h⟩ := shps_cons (w_int Tryz.underlying3 m) h
    obtain ⟨g3, h⟩ := shps_cons (w_sl Tryz.underlying36 m) h
    have q3 : (a3.length ≤ maxLen ∧ ∀ y ∈ a3, Ok_api_Expr y) := by
      obtain ⟨h1, m2, hm2, h2⟩ := ok_sl Tryz.underlying36 g3
      exact ⟨h1, fun y hy => (ih m2 (by omega)) y (all_rows (row := row38) h2 y hy)⟩
    exact .mk _ _ _ _ (ok_int Tryz.underlying35 g0) (ok_str Tryz.underlying9 g1) (ok_int Tryz.underlying3 g2) q3.1 q3.2
theorem ok38 (n : Nat) (y : api_Expr) (h : Shp Tryz.prog n 38 (enapi_Expr y)) : Ok_api_Expr y := (okg38 n) y h
theorem okl36 (n : Nat) (x : (List api_Expr)) (h : Shp Tryz.prog n 36 [.lst false (.t38 x)]) : (x.length ≤ maxLen ∧ ∀ y ∈ x, Ok_api_Expr y) := by
  obtain ⟨h1, m, _, h2⟩ := ok_sl Tryz.underlying36 h
  exact ⟨h1, fun y hy => ok38 _ _ (all_rows (row := row38) h2 y hy)⟩
theorem okg82 : ∀ n, (∀ y : api_Stmt, Shp Tryz.prog n 82 (enapi_Stmt y) → Ok_api_Stmt y) := by
  intro n
  induction n using Nat.strongRecOn with
  | _ n ih =>
  refine ?_
  · intro y h
    obtain ⟨m, hm, h⟩ := shp_st Tryz.underlying82 h
    change Shps (Shp Tryz.prog m) [76, 9, 9, 38, 38, 36, 80, 4, 52, 52] (enapi_Stmt y) at h
    cases y with
    | mk a0 a1 a2 a3 a4 a5 a6 a7 a8 a9 =>
    obtain ⟨g0, h⟩ := shps_cons (w_int Tryz.underlying76 m) h
    obtain ⟨g1, h⟩ := shps_cons (w_str Tryz.underlying9 m) h
    obtain ⟨g2, h⟩ := shps_cons (w_str Tryz.underlying9 m) h
    obtain ⟨g3, h⟩ := shps_cons (w38 m) h
    obtain ⟨g4, h⟩ := shps_cons (w38 m) h
    obtain ⟨g5, h⟩ := shps_cons (w_sl Tryz.underlying36 m) h
    obtain ⟨g6, h⟩ := shps_cons (w80 m) h
    obtain ⟨g7, h⟩ := shps_cons (w_bool Tryz.underlying4 m) h
    obtain ⟨g8, h⟩ := shps_cons (w_sl Tryz.underlying52 m) h
    obtain ⟨g9, h⟩ := shps_cons (w_sl Tryz.underlying52 m) h
    have q8 : (a8.length ≤ maxLen ∧ ∀ y ∈ a8, Ok_api_Stmt y) := by
      obtain ⟨h1, m2, hm2, h2⟩ := ok_sl Tryz.underlying52 g8
      exact ⟨h1, fun y hy => (ih m2 (by omega)) y (all_rows (row := row82) h2 y hy)⟩
    have q9 : (a9.length ≤ maxLen ∧ ∀ y ∈ a9, Ok_api_Stmt y) := by
      obtain ⟨h1, m2, hm2, h2⟩ := ok_sl Tryz.underlying52 g9
      exact ⟨h1, fun y hy => (ih m2 (by omega)) y (all_rows (row := row82) h2 y hy)⟩
    exact .mk _ _ _ _ _ _ _ _ _ _ (ok_int Tryz.underlying76 g0) (ok_str Tryz.underlying9 g1) (ok_str Tryz.underlying9 g2) (ok38 m _ g3) (ok38 m _ g4) (okl36 m _ g5).1 (okl36 m _ g5).2 (ok80 m _ g6) (trivial) q8.1 q8.2 q9.1 q9.2
theorem ok82 (n : Nat) (y : api_Stmt) (h : Shp Tryz.prog n 82 (enapi_Stmt y)) : Ok_api_Stmt y := (okg82 n) y h
theorem okl52 (n : Nat) (x : (List api_Stmt)) (h : Shp Tryz.prog n 52 [.lst false (.t82 x)]) : (x.length ≤ maxLen ∧ ∀ y ∈ x, Ok_api_Stmt y) := by
  obtain ⟨h1, m, _, h2⟩ := ok_sl Tryz.underlying52 h
  exact ⟨h1, fun y hy => ok82 _ _ (all_rows (row := row82) h2 y hy)⟩
theorem ok74 (n : Nat) (y : api_Routine) (h : Shp Tryz.prog n 74 (enapi_Routine y)) : Ok_api_Routine y := by
  obtain ⟨m, _, h⟩ := shp_st Tryz.underlying74 h
  change Shps (Shp Tryz.prog m) [9, 23, 23, 52] (enapi_Routine y) at h
  obtain ⟨g0, h⟩ := shps_cons (w_str Tryz.underlying9 m) h
  obtain ⟨g1, h⟩ := shps_cons (w_sl Tryz.underlying23 m) h
  obtain ⟨g2, h⟩ := shps_cons (w_sl Tryz.underlying23 m) h
  obtain ⟨g3, h⟩ := shps_cons (w_sl Tryz.underlying52 m) h
  exact ⟨ok_str Tryz.underlying9 g0, okl23 m _ g1, okl23 m _ g2, okl52 m _ g3⟩
theorem okl28 (n : Nat) (x : (List api_Routine)) (h : Shp Tryz.prog n 28 [.lst false (.t74 x)]) : (x.length ≤ maxLen ∧ ∀ y ∈ x, Ok_api_Routine y) := by
  obtain ⟨h1, m, _, h2⟩ := ok_sl Tryz.underlying28 h
  exact ⟨h1, fun y hy => ok74 _ _ (all_rows (row := row74) h2 y hy)⟩
theorem ok166 (n : Nat) (y : api_Start) (h : Shp Tryz.prog n 166 (enapi_Start y)) : Ok_api_Start y := by
  obtain ⟨m, _, h⟩ := shp_st Tryz.underlying166 h
  change Shps (Shp Tryz.prog m) [9, 78, 3, 3, 3] (enapi_Start y) at h
  obtain ⟨g0, h⟩ := shps_cons (w_str Tryz.underlying9 m) h
  obtain ⟨g1, h⟩ := shps_cons (w_sl Tryz.underlying78 m) h
  obtain ⟨g2, h⟩ := shps_cons (w_int Tryz.underlying3 m) h
  obtain ⟨g3, h⟩ := shps_cons (w_int Tryz.underlying3 m) h
  obtain ⟨g4, h⟩ := shps_cons (w_int Tryz.underlying3 m) h
  exact ⟨ok_str Tryz.underlying9 g0, okl78 m _ g1, ok_int Tryz.underlying3 g2, ok_int Tryz.underlying3 g3, ok_int Tryz.underlying3 g4⟩
theorem okl29 (n : Nat) (x : (List api_Start)) (h : Shp Tryz.prog n 29 [.lst false (.t166 x)]) : (x.length ≤ maxLen ∧ ∀ y ∈ x, Ok_api_Start y) := by
  obtain ⟨h1, m, _, h2⟩ := ok_sl Tryz.underlying29 h
  exact ⟨h1, fun y hy => ok166 _ _ (all_rows (row := row166) h2 y hy)⟩
theorem ok234 (n : Nat) (y : api_Term) (h : Shp Tryz.prog n 234 (enapi_Term y)) : Ok_api_Term y := by
  obtain ⟨m, _, h⟩ := shp_st Tryz.underlying234 h
  change Shps (Shp Tryz.prog m) [3, 9, 9] (enapi_Term y) at h
  obtain ⟨g0, h⟩ := shps_cons (w_int Tryz.underlying3 m) h
  obtain ⟨g1, h⟩ := shps_cons (w_str Tryz.underlying9 m) h
  obtain ⟨g2, h⟩ := shps_cons (w_str Tryz.underlying9 m) h
  exact ⟨ok_int Tryz.underlying3 g0, ok_str Tryz.underlying9 g1, ok_str Tryz.underlying9 g2⟩
theorem okl182 (n : Nat) (x : (List api_Term)) (h : Shp Tryz.prog n 182 [.lst false (.t234 x)]) : (x.length ≤ maxLen ∧ ∀ y ∈ x, Ok_api_Term y) := by
  obtain ⟨h1, m, _, h2⟩ := ok_sl Tryz.underlying182 h
  exact ⟨h1, fun y hy => ok234 _ _ (all_rows (row := row234) h2 y hy)⟩
theorem ok184 (n : Nat) (y : api_Law) (h : Shp Tryz.prog n 184 (enapi_Law y)) : Ok_api_Law y := by
  obtain ⟨m, _, h⟩ := shp_st Tryz.underlying184 h
  change Shps (Shp Tryz.prog m) [9, 182, 3] (enapi_Law y) at h
  obtain ⟨g0, h⟩ := shps_cons (w_str Tryz.underlying9 m) h
  obtain ⟨g1, h⟩ := shps_cons (w_sl Tryz.underlying182 m) h
  obtain ⟨g2, h⟩ := shps_cons (w_int Tryz.underlying3 m) h
  exact ⟨ok_str Tryz.underlying9 g0, okl182 m _ g1, ok_int Tryz.underlying3 g2⟩
theorem okl30 (n : Nat) (x : (List api_Law)) (h : Shp Tryz.prog n 30 [.lst false (.t184 x)]) : (x.length ≤ maxLen ∧ ∀ y ∈ x, Ok_api_Law y) := by
  obtain ⟨h1, m, _, h2⟩ := ok_sl Tryz.underlying30 h
  exact ⟨h1, fun y hy => ok184 _ _ (all_rows (row := row184) h2 y hy)⟩
theorem ok32 (n : Nat) (y : api_SiteDecl) (h : Shp Tryz.prog n 32 (enapi_SiteDecl y)) : Ok_api_SiteDecl y := by
  obtain ⟨m, _, h⟩ := shp_st Tryz.underlying32 h
  change Shps (Shp Tryz.prog m) [9, 22, 24, 25, 26, 27, 27, 27, 27, 27, 28, 29, 30] (enapi_SiteDecl y) at h
  obtain ⟨g0, h⟩ := shps_cons (w_str Tryz.underlying9 m) h
  obtain ⟨g1, h⟩ := shps_cons (w_sl Tryz.underlying22 m) h
  obtain ⟨g2, h⟩ := shps_cons (w_sl Tryz.underlying24 m) h
  obtain ⟨g3, h⟩ := shps_cons (w_sl Tryz.underlying25 m) h
  obtain ⟨g4, h⟩ := shps_cons (w_sl Tryz.underlying26 m) h
  obtain ⟨g5, h⟩ := shps_cons (w_sl Tryz.underlying27 m) h
  obtain ⟨g6, h⟩ := shps_cons (w_sl Tryz.underlying27 m) h
  obtain ⟨g7, h⟩ := shps_cons (w_sl Tryz.underlying27 m) h
  obtain ⟨g8, h⟩ := shps_cons (w_sl Tryz.underlying27 m) h
  obtain ⟨g9, h⟩ := shps_cons (w_sl Tryz.underlying27 m) h
  obtain ⟨g10, h⟩ := shps_cons (w_sl Tryz.underlying28 m) h
  obtain ⟨g11, h⟩ := shps_cons (w_sl Tryz.underlying29 m) h
  obtain ⟨g12, h⟩ := shps_cons (w_sl Tryz.underlying30 m) h
  exact ⟨ok_str Tryz.underlying9 g0, okl22 m _ g1, okl24 m _ g2, okl25 m _ g3, okl26 m _ g4, okl27 m _ g5, okl27 m _ g6, okl27 m _ g7, okl27 m _ g8, okl27 m _ g9, okl28 m _ g10, okl29 m _ g11, okl30 m _ g12⟩
theorem ok34 (n : Nat) (y : api_Env) (h : Shp Tryz.prog n 34 (enapi_Env y)) : Ok_api_Env y := by
  obtain ⟨m, _, h⟩ := shp_st Tryz.underlying34 h
  change Shps (Shp Tryz.prog m) [22, 23, 32] (enapi_Env y) at h
  obtain ⟨g0, h⟩ := shps_cons (w_sl Tryz.underlying22 m) h
  obtain ⟨g1, h⟩ := shps_cons (w_sl Tryz.underlying23 m) h
  obtain ⟨g2, h⟩ := shps_cons (w32 m) h
  exact ⟨okl22 m _ g0, okl23 m _ g1, ok32 m _ g2⟩
theorem ok63 (n : Nat) (y : L14_Swap) (h : Shp Tryz.prog n 63 (enL14_Swap y)) : Ok_L14_Swap y := by
  obtain ⟨m, _, h⟩ := shp_st Tryz.underlying63 h
  change Shps (Shp Tryz.prog m) [38, 38, 9] (enL14_Swap y) at h
  obtain ⟨g0, h⟩ := shps_cons (w38 m) h
  obtain ⟨g1, h⟩ := shps_cons (w38 m) h
  obtain ⟨g2, h⟩ := shps_cons (w_str Tryz.underlying9 m) h
  exact ⟨ok38 m _ g0, ok38 m _ g1, ok_str Tryz.underlying9 g2⟩
theorem rows3 (n m : Nat) (f : Nat → List PV) (hf : ∀ i, i < m → Shp Tryz.prog n 3 (f i)) : ∃ x : LX, x.e = 3 ∧ x.len = m ∧ x.sz = Tryz.prog.cellsOf 3 ∧ ∀ i, i < m → x.row i = f i := by
  obtain ⟨l, h1, h2⟩ := list_of row3 m f (fun i hi => let ⟨z, h, _⟩ := shp_int Tryz.underlying3 (hf i hi); ⟨z, h⟩)
  exact ⟨.t3 l, rfl, h1, by kernel_rfl, h2⟩
theorem rows4 (n m : Nat) (f : Nat → List PV) (hf : ∀ i, i < m → Shp Tryz.prog n 4 (f i)) : ∃ x : LX, x.e = 4 ∧ x.len = m ∧ x.sz = Tryz.prog.cellsOf 4 ∧ ∀ i, i < m → x.row i = f i := by
  obtain ⟨l, h1, h2⟩ := list_of row4 m f (fun i hi => let ⟨z, h⟩ := shp_bool Tryz.underlying4 (hf i hi); ⟨z, h⟩)
  exact ⟨.t4 l, rfl, h1, by kernel_rfl, h2⟩
theorem rows9 (n m : Nat) (f : Nat → List PV) (hf : ∀ i, i < m → Shp Tryz.prog n 9 (f i)) : ∃ x : LX, x.e = 9 ∧ x.len = m ∧ x.sz = Tryz.prog.cellsOf 9 ∧ ∀ i, i < m → x.row i = f i := by
  obtain ⟨l, h1, h2⟩ := list_of row9 m f (fun i hi => let ⟨z, h, _⟩ := shp_str Tryz.underlying9 (hf i hi); ⟨z, h⟩)
  exact ⟨.t9 l, rfl, h1, by kernel_rfl, h2⟩
theorem rows23 (n m : Nat) (f : Nat → List PV) (hf : ∀ i, i < m → Shp Tryz.prog n 23 (f i)) : ∃ x : LX, x.e = 23 ∧ x.len = m ∧ x.sz = Tryz.prog.cellsOf 23 ∧ ∀ i, i < m → x.row i = f i := by
  obtain ⟨l, h1, h2⟩ := list_of row23 m f (fun i hi => by
    obtain ⟨x, h, he, _⟩ := shp_sl Tryz.underlying23 (hf i hi)
    obtain ⟨z, rfl⟩ := lx68 x he
    exact ⟨z, h⟩)
  exact ⟨.t23 l, rfl, h1, by kernel_rfl, h2⟩
theorem rows27 (n m : Nat) (f : Nat → List PV) (hf : ∀ i, i < m → Shp Tryz.prog n 27 (f i)) : ∃ x : LX, x.e = 27 ∧ x.len = m ∧ x.sz = Tryz.prog.cellsOf 27 ∧ ∀ i, i < m → x.row i = f i := by
  obtain ⟨l, h1, h2⟩ := list_of row27 m f (fun i hi => by
    obtain ⟨x, h, he, _⟩ := shp_sl Tryz.underlying27 (hf i hi)
    obtain ⟨z, rfl⟩ := lx9 x he
    exact ⟨z, h⟩)
  exact ⟨.t27 l, rfl, h1, by kernel_rfl, h2⟩
theorem rows32 (n m : Nat) (f : Nat → List PV) (hf : ∀ i, i < m → Shp Tryz.prog n 32 (f i)) : ∃ x : LX, x.e = 32 ∧ x.len = m ∧ x.sz = Tryz.prog.cellsOf 32 ∧ ∀ i, i < m → x.row i = f i := by
  obtain ⟨l, h1, h2⟩ := list_of row32 m f (fun i hi => mk32 n _ (hf i hi))
  exact ⟨.t32 l, rfl, h1, by kernel_rfl, h2⟩
theorem rows38 (n m : Nat) (f : Nat → List PV) (hf : ∀ i, i < m → Shp Tryz.prog n 38 (f i)) : ∃ x : LX, x.e = 38 ∧ x.len = m ∧ x.sz = Tryz.prog.cellsOf 38 ∧ ∀ i, i < m → x.row i = f i := by
  obtain ⟨l, h1, h2⟩ := list_of row38 m f (fun i hi => mk38 n _ (hf i hi))
  exact ⟨.t38 l, rfl, h1, by kernel_rfl, h2⟩
theorem rows41 (n m : Nat) (f : Nat → List PV) (hf : ∀ i, i < m → Shp Tryz.prog n 41 (f i)) : ∃ x : LX, x.e = 41 ∧ x.len = m ∧ x.sz = Tryz.prog.cellsOf 41 ∧ ∀ i, i < m → x.row i = f i := by
  obtain ⟨l, h1, h2⟩ := list_of row41 m f (fun i hi => let ⟨z, h, _⟩ := shp_int Tryz.underlying41 (hf i hi); ⟨z, h⟩)
  exact ⟨.t41 l, rfl, h1, by kernel_rfl, h2⟩
theorem rows68 (n m : Nat) (f : Nat → List PV) (hf : ∀ i, i < m → Shp Tryz.prog n 68 (f i)) : ∃ x : LX, x.e = 68 ∧ x.len = m ∧ x.sz = Tryz.prog.cellsOf 68 ∧ ∀ i, i < m → x.row i = f i := by
  obtain ⟨l, h1, h2⟩ := list_of row68 m f (fun i hi => mk68 n _ (hf i hi))
  exact ⟨.t68 l, rfl, h1, by kernel_rfl, h2⟩
theorem rows72 (n m : Nat) (f : Nat → List PV) (hf : ∀ i, i < m → Shp Tryz.prog n 72 (f i)) : ∃ x : LX, x.e = 72 ∧ x.len = m ∧ x.sz = Tryz.prog.cellsOf 72 ∧ ∀ i, i < m → x.row i = f i := by
  obtain ⟨l, h1, h2⟩ := list_of row72 m f (fun i hi => mk72 n _ (hf i hi))
  exact ⟨.t72 l, rfl, h1, by kernel_rfl, h2⟩
theorem rows74 (n m : Nat) (f : Nat → List PV) (hf : ∀ i, i < m → Shp Tryz.prog n 74 (f i)) : ∃ x : LX, x.e = 74 ∧ x.len = m ∧ x.sz = Tryz.prog.cellsOf 74 ∧ ∀ i, i < m → x.row i = f i := by
  obtain ⟨l, h1, h2⟩ := list_of row74 m f (fun i hi => mk74 n _ (hf i hi))
  exact ⟨.t74 l, rfl, h1, by kernel_rfl, h2⟩
theorem rows82 (n m : Nat) (f : Nat → List PV) (hf : ∀ i, i < m → Shp Tryz.prog n 82 (f i)) : ∃ x : LX, x.e = 82 ∧ x.len = m ∧ x.sz = Tryz.prog.cellsOf 82 ∧ ∀ i, i < m → x.row i = f i := by
  obtain ⟨l, h1, h2⟩ := list_of row82 m f (fun i hi => mk82 n _ (hf i hi))
  exact ⟨.t82 l, rfl, h1, by kernel_rfl, h2⟩
theorem rows149 (n m : Nat) (f : Nat → List PV) (hf : ∀ i, i < m → Shp Tryz.prog n 149 (f i)) : ∃ x : LX, x.e = 149 ∧ x.len = m ∧ x.sz = Tryz.prog.cellsOf 149 ∧ ∀ i, i < m → x.row i = f i := by
  obtain ⟨l, h1, h2⟩ := list_of row149 m f (fun i hi => mk149 n _ (hf i hi))
  exact ⟨.t149 l, rfl, h1, by kernel_rfl, h2⟩
theorem rows156 (n m : Nat) (f : Nat → List PV) (hf : ∀ i, i < m → Shp Tryz.prog n 156 (f i)) : ∃ x : LX, x.e = 156 ∧ x.len = m ∧ x.sz = Tryz.prog.cellsOf 156 ∧ ∀ i, i < m → x.row i = f i := by
  obtain ⟨l, h1, h2⟩ := list_of row156 m f (fun i hi => mk156 n _ (hf i hi))
  exact ⟨.t156 l, rfl, h1, by kernel_rfl, h2⟩
theorem rows160 (n m : Nat) (f : Nat → List PV) (hf : ∀ i, i < m → Shp Tryz.prog n 160 (f i)) : ∃ x : LX, x.e = 160 ∧ x.len = m ∧ x.sz = Tryz.prog.cellsOf 160 ∧ ∀ i, i < m → x.row i = f i := by
  obtain ⟨l, h1, h2⟩ := list_of row160 m f (fun i hi => mk160 n _ (hf i hi))
  exact ⟨.t160 l, rfl, h1, by kernel_rfl, h2⟩
theorem rows166 (n m : Nat) (f : Nat → List PV) (hf : ∀ i, i < m → Shp Tryz.prog n 166 (f i)) : ∃ x : LX, x.e = 166 ∧ x.len = m ∧ x.sz = Tryz.prog.cellsOf 166 ∧ ∀ i, i < m → x.row i = f i := by
  obtain ⟨l, h1, h2⟩ := list_of row166 m f (fun i hi => mk166 n _ (hf i hi))
  exact ⟨.t166 l, rfl, h1, by kernel_rfl, h2⟩
theorem rows184 (n m : Nat) (f : Nat → List PV) (hf : ∀ i, i < m → Shp Tryz.prog n 184 (f i)) : ∃ x : LX, x.e = 184 ∧ x.len = m ∧ x.sz = Tryz.prog.cellsOf 184 ∧ ∀ i, i < m → x.row i = f i := by
  obtain ⟨l, h1, h2⟩ := list_of row184 m f (fun i hi => mk184 n _ (hf i hi))
  exact ⟨.t184 l, rfl, h1, by kernel_rfl, h2⟩
theorem rows228 (n m : Nat) (f : Nat → List PV) (hf : ∀ i, i < m → Shp Tryz.prog n 228 (f i)) : ∃ x : LX, x.e = 228 ∧ x.len = m ∧ x.sz = Tryz.prog.cellsOf 228 ∧ ∀ i, i < m → x.row i = f i := by
  obtain ⟨l, h1, h2⟩ := list_of row228 m f (fun i hi => mk228 n _ (hf i hi))
  exact ⟨.t228 l, rfl, h1, by kernel_rfl, h2⟩
theorem rows234 (n m : Nat) (f : Nat → List PV) (hf : ∀ i, i < m → Shp Tryz.prog n 234 (f i)) : ∃ x : LX, x.e = 234 ∧ x.len = m ∧ x.sz = Tryz.prog.cellsOf 234 ∧ ∀ i, i < m → x.row i = f i := by
  obtain ⟨l, h1, h2⟩ := list_of row234 m f (fun i hi => mk234 n _ (hf i hi))
  exact ⟨.t234 l, rfl, h1, by kernel_rfl, h2⟩
def rdL : List Nat := [3, 4, 9, 22, 23, 24, 25, 26, 27, 28, 29, 30, 32, 34, 35, 36, 38, 41, 52, 63, 68, 72, 74, 76, 77, 78, 80, 82, 145, 147, 149, 154, 156, 160, 166, 182, 184, 228, 234]
theorem rdMk : MkRows Tryz.prog rdL := by
  intro e n m f he hs hf
  simp only [rdL, List.mem_cons, List.not_mem_nil, or_false] at he
  rcases he with rfl | rfl | rfl | rfl | rfl | rfl | rfl | rfl | rfl | rfl | rfl | rfl | rfl | rfl | rfl | rfl | rfl | rfl | rfl | rfl | rfl | rfl | rfl | rfl | rfl | rfl | rfl | rfl | rfl | rfl | rfl | rfl | rfl | rfl | rfl | rfl | rfl | rfl | rfl
  · exact rows3 n m f hf
  · exact rows4 n m f hf
  · exact rows9 n m f hf
  · exact nomatch hs
  · exact rows23 n m f hf
  · exact nomatch hs
  · exact nomatch hs
  · exact nomatch hs
  · exact rows27 n m f hf
  · exact nomatch hs
  · exact nomatch hs
  · exact nomatch hs
  · exact rows32 n m f hf
  · exact nomatch hs
  · exact nomatch hs
  · exact nomatch hs
  · exact rows38 n m f hf
  · exact rows41 n m f hf
  · exact nomatch hs
  · exact nomatch hs
  · exact rows68 n m f hf
  · exact rows72 n m f hf
  · exact rows74 n m f hf
  · exact nomatch hs
  · exact nomatch hs
  · exact nomatch hs
  · exact nomatch hs
  · exact rows82 n m f hf
  · exact nomatch hs
  · exact nomatch hs
  · exact rows149 n m f hf
  · exact nomatch hs
  · exact rows156 n m f hf
  · exact rows160 n m f hf
  · exact rows166 n m f hf
  · exact nomatch hs
  · exact rows184 n m f hf
  · exact rows228 n m f hf
  · exact rows234 n m f hf
theorem rdOk : okAll Tryz.prog rdL = true := by kernel_rfl
end Go.Proofs.YtcbandfdmbkokaaGreat.Ev
