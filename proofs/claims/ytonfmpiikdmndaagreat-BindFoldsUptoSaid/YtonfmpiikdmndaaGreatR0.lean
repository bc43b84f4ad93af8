/-  What is read. -/
import Derived.Test.YtonfmpiikdmndaaGreatG0
import Derived.Test.YtonfmpiikdmndaaGreatFy
namespace Go.Proofs.YtonfmpiikdmndaaGreat.Ev
open Go
set_option maxRecDepth 100000
set_option linter.unusedVariables false
set_option linter.unusedSimpArgs false
set_option linter.unnecessarySimpa false
inductive Ok_api_Expr : api_Expr → Prop
  | mk (a0 : Int) (a1 : ByteArray) (a2 : Int) (a3 : (List api_Expr)) (h0_0 : okI .i64 a0) (h1_0 : okS a1) (h2_0 : okI .i64 a2) (h3_0 : a3.length ≤ maxLen) (h3_1 : ∀ y ∈ a3, Ok_api_Expr y) : Ok_api_Expr (.mk a0 a1 a2 a3)
def Ok_api_BeltDecl (x : api_BeltDecl) : Prop := okS x.Name ∧ okI .i64 x.Length ∧ okI .i64 x.Step
def Ok_api_Change (x : api_Change) : Prop := okI .i64 x.At ∧ okI .i64 x.Units
def Ok_api_Dist (x : api_Dist) : Prop := okI .i64 x.Op ∧ okI .i64 x.A ∧ okI .i64 x.B ∧ okI .i64 x.N ∧ (x.Values.length ≤ maxLen ∧ ∀ y ∈ x.Values, okI .i64 y) ∧ (x.Weights.length ≤ maxLen ∧ ∀ y ∈ x.Weights, okI .i64 y)
def Ok_api_Field (x : api_Field) : Prop := okS x.Name ∧ okI .i64 x.Type_
def Ok_api_Term (x : api_Term) : Prop := okI .i64 x.Coef ∧ okS x.What ∧ okS x.Name
def Ok_api_Law (x : api_Law) : Prop := okS x.Name ∧ (x.Terms.length ≤ maxLen ∧ ∀ y ∈ x.Terms, Ok_api_Term y) ∧ okI .i64 x.Total
def Ok_api_Fault (x : api_Fault) : Prop := okS x.Stream ∧ Ok_api_Dist x.Up ∧ Ok_api_Dist x.Down
def Ok_api_ResourceDecl (x : api_ResourceDecl) : Prop := okS x.Name ∧ okI .i64 x.Units ∧ (x.Shift.length ≤ maxLen ∧ ∀ y ∈ x.Shift, Ok_api_Change y) ∧ okI .i64 x.Cycle ∧ Ok_api_Fault x.Fault
inductive Ok_api_Stmt : api_Stmt → Prop
  | mk (a0 : Int) (a1 : ByteArray) (a2 : ByteArray) (a3 : api_Expr) (a4 : api_Expr) (a5 : (List api_Expr)) (a6 : api_Dist) (a7 : Bool) (a8 : (List api_Stmt)) (a9 : (List api_Stmt)) (h0_0 : okI .i64 a0) (h1_0 : okS a1) (h2_0 : okS a2) (h3_0 : Ok_api_Expr a3) (h4_0 : Ok_api_Expr a4) (h5_0 : a5.length ≤ maxLen) (h5_1 : ∀ y ∈ a5, Ok_api_Expr y) (h6_0 : Ok_api_Dist a6) (h7_0 : True) (h8_0 : a8.length ≤ maxLen) (h8_1 : ∀ y ∈ a8, Ok_api_Stmt y) (h9_0 : a9.length ≤ maxLen) (h9_1 : ∀ y ∈ a9, Ok_api_Stmt y) : Ok_api_Stmt (.mk a0 a1 a2 a3 a4 a5 a6 a7 a8 a9)
def Ok_api_Routine (x : api_Routine) : Prop := okS x.Name ∧ (x.Params.length ≤ maxLen ∧ ∀ y ∈ x.Params, Ok_api_Field y) ∧ (x.Locals.length ≤ maxLen ∧ ∀ y ∈ x.Locals, Ok_api_Field y) ∧ (x.Body.length ≤ maxLen ∧ ∀ y ∈ x.Body, Ok_api_Stmt y)
def Ok_api_Start (x : api_Start) : Prop := okS x.Routine ∧ (x.Args.length ≤ maxLen ∧ ∀ y ∈ x.Args, okI .i64 y) ∧ okI .i64 x.At ∧ okI .i64 x.Every ∧ okI .i64 x.Until
def Ok_api_StoreDecl (x : api_StoreDecl) : Prop := okS x.Name ∧ okI .i64 x.Room ∧ okI .i64 x.Policy
def Ok_api_Value (x : api_Value) : Prop := okS x.Name ∧ okI .i64 x.Type_ ∧ okI .i64 x.N
def Ok_api_SiteDecl (x : api_SiteDecl) : Prop := okS x.Name ∧ (x.Vars.length ≤ maxLen ∧ ∀ y ∈ x.Vars, Ok_api_Value y) ∧ (x.Resources.length ≤ maxLen ∧ ∀ y ∈ x.Resources, Ok_api_ResourceDecl y) ∧ (x.Stores.length ≤ maxLen ∧ ∀ y ∈ x.Stores, Ok_api_StoreDecl y) ∧ (x.Belts.length ≤ maxLen ∧ ∀ y ∈ x.Belts, Ok_api_BeltDecl y) ∧ (x.Queues.length ≤ maxLen ∧ ∀ y ∈ x.Queues, okS y) ∧ (x.Streams.length ≤ maxLen ∧ ∀ y ∈ x.Streams, okS y) ∧ (x.Tallies.length ≤ maxLen ∧ ∀ y ∈ x.Tallies, okS y) ∧ (x.Levels.length ≤ maxLen ∧ ∀ y ∈ x.Levels, okS y) ∧ (x.Counts.length ≤ maxLen ∧ ∀ y ∈ x.Counts, okS y) ∧ (x.Routines.length ≤ maxLen ∧ ∀ y ∈ x.Routines, Ok_api_Routine y) ∧ (x.Starts.length ≤ maxLen ∧ ∀ y ∈ x.Starts, Ok_api_Start y) ∧ (x.Laws.length ≤ maxLen ∧ ∀ y ∈ x.Laws, Ok_api_Law y)
def Ok_api_Env (x : api_Env) : Prop := (x.Params.length ≤ maxLen ∧ ∀ y ∈ x.Params, Ok_api_Value y) ∧ (x.Locals.length ≤ maxLen ∧ ∀ y ∈ x.Locals, Ok_api_Field y) ∧ Ok_api_SiteDecl x.Site
theorem lx3 (x : LX) (h : x.e = 3) : ∃ l, x = .t3 l := by
  cases x <;> first | exact ⟨_, rfl⟩ | (simp [LX.e] at h)
theorem lx9 (x : LX) (h : x.e = 9) : ∃ l, x = .t9 l := by
  cases x <;> first | exact ⟨_, rfl⟩ | (simp [LX.e] at h)
theorem lx25 (x : LX) (h : x.e = 25) : ∃ l, x = .t25 l := by
  cases x <;> first | exact ⟨_, rfl⟩ | (simp [LX.e] at h)
theorem lx77 (x : LX) (h : x.e = 77) : ∃ l, x = .t77 l := by
  cases x <;> first | exact ⟨_, rfl⟩ | (simp [LX.e] at h)
theorem lx83 (x : LX) (h : x.e = 83) : ∃ l, x = .t83 l := by
  cases x <;> first | exact ⟨_, rfl⟩ | (simp [LX.e] at h)
theorem lx85 (x : LX) (h : x.e = 85) : ∃ l, x = .t85 l := by
  cases x <;> first | exact ⟨_, rfl⟩ | (simp [LX.e] at h)
theorem lx134 (x : LX) (h : x.e = 134) : ∃ l, x = .t134 l := by
  cases x <;> first | exact ⟨_, rfl⟩ | (simp [LX.e] at h)
theorem lx159 (x : LX) (h : x.e = 159) : ∃ l, x = .t159 l := by
  cases x <;> first | exact ⟨_, rfl⟩ | (simp [LX.e] at h)
theorem lx164 (x : LX) (h : x.e = 164) : ∃ l, x = .t164 l := by
  cases x <;> first | exact ⟨_, rfl⟩ | (simp [LX.e] at h)
theorem lx168 (x : LX) (h : x.e = 168) : ∃ l, x = .t168 l := by
  cases x <;> first | exact ⟨_, rfl⟩ | (simp [LX.e] at h)
theorem lx195 (x : LX) (h : x.e = 195) : ∃ l, x = .t195 l := by
  cases x <;> first | exact ⟨_, rfl⟩ | (simp [LX.e] at h)
theorem lx216 (x : LX) (h : x.e = 216) : ∃ l, x = .t216 l := by
  cases x <;> first | exact ⟨_, rfl⟩ | (simp [LX.e] at h)
theorem lx223 (x : LX) (h : x.e = 223) : ∃ l, x = .t223 l := by
  cases x <;> first | exact ⟨_, rfl⟩ | (simp [LX.e] at h)
theorem lx226 (x : LX) (h : x.e = 226) : ∃ l, x = .t226 l := by
  cases x <;> first | exact ⟨_, rfl⟩ | (simp [LX.e] at h)
theorem mk25 (n : Nat) (l : List PV) (h : Shp Tryz.prog n 25 l) : ∃ y : api_Expr, l = enapi_Expr y := by
  obtain ⟨m, _, h⟩ := shp_st Tryz.underlying25 h
  change Shps (Shp Tryz.prog m) [22, 9, 3, 23] l at h
  obtain ⟨a0, b0, rfl, h0, a1, b1, rfl, h1, a2, b2, rfl, h2, a3, b3, rfl, h3, rfl⟩ := h
  obtain ⟨z0, rfl, _⟩ := shp_int Tryz.underlying22 h0
  obtain ⟨z1, rfl, _⟩ := shp_str Tryz.underlying9 h1
  obtain ⟨z2, rfl, _⟩ := shp_int Tryz.underlying3 h2
  obtain ⟨x3, rfl, e3, _, _, _, _⟩ := shp_sl Tryz.underlying23 h3
  obtain ⟨z3, rfl⟩ := lx25 x3 e3
  exact ⟨.mk z0 z1 z2 z3, rfl⟩
theorem mk43 (n : Nat) (l : List PV) (h : Shp Tryz.prog n 43 l) : ∃ y : api_SiteDecl, l = enapi_SiteDecl y := by
  obtain ⟨m, _, h⟩ := shp_st Tryz.underlying43 h
  change Shps (Shp Tryz.prog m) [9, 33, 35, 36, 37, 38, 38, 38, 38, 38, 39, 40, 41] l at h
  obtain ⟨a0, b0, rfl, h0, a1, b1, rfl, h1, a2, b2, rfl, h2, a3, b3, rfl, h3, a4, b4, rfl, h4, a5, b5, rfl, h5, a6, b6, rfl, h6, a7, b7, rfl, h7, a8, b8, rfl, h8, a9, b9, rfl, h9, a10, b10, rfl, h10, a11, b11, rfl, h11, a12, b12, rfl, h12, rfl⟩ := h
  obtain ⟨z0, rfl, _⟩ := shp_str Tryz.underlying9 h0
  obtain ⟨x1, rfl, e1, _, _, _, _⟩ := shp_sl Tryz.underlying33 h1
  obtain ⟨z1, rfl⟩ := lx85 x1 e1
  obtain ⟨x2, rfl, e2, _, _, _, _⟩ := shp_sl Tryz.underlying35 h2
  obtain ⟨z2, rfl⟩ := lx159 x2 e2
  obtain ⟨x3, rfl, e3, _, _, _, _⟩ := shp_sl Tryz.underlying36 h3
  obtain ⟨z3, rfl⟩ := lx164 x3 e3
  obtain ⟨x4, rfl, e4, _, _, _, _⟩ := shp_sl Tryz.underlying37 h4
  obtain ⟨z4, rfl⟩ := lx168 x4 e4
  obtain ⟨x5, rfl, e5, _, _, _, _⟩ := shp_sl Tryz.underlying38 h5
  obtain ⟨z5, rfl⟩ := lx9 x5 e5
  obtain ⟨x6, rfl, e6, _, _, _, _⟩ := shp_sl Tryz.underlying38 h6
  obtain ⟨z6, rfl⟩ := lx9 x6 e6
  obtain ⟨x7, rfl, e7, _, _, _, _⟩ := shp_sl Tryz.underlying38 h7
  obtain ⟨z7, rfl⟩ := lx9 x7 e7
  obtain ⟨x8, rfl, e8, _, _, _, _⟩ := shp_sl Tryz.underlying38 h8
  obtain ⟨z8, rfl⟩ := lx9 x8 e8
  obtain ⟨x9, rfl, e9, _, _, _, _⟩ := shp_sl Tryz.underlying38 h9
  obtain ⟨z9, rfl⟩ := lx9 x9 e9
  obtain ⟨x10, rfl, e10, _, _, _, _⟩ := shp_sl Tryz.underlying39 h10
  obtain ⟨z10, rfl⟩ := lx77 x10 e10
  obtain ⟨x11, rfl, e11, _, _, _, _⟩ := shp_sl Tryz.underlying40 h11
  obtain ⟨z11, rfl⟩ := lx195 x11 e11
  obtain ⟨x12, rfl, e12, _, _, _, _⟩ := shp_sl Tryz.underlying41 h12
  obtain ⟨z12, rfl⟩ := lx223 x12 e12
  exact ⟨.mk z0 z1 z2 z3 z4 z5 z6 z7 z8 z9 z10 z11 z12, rfl⟩
theorem mk77 (n : Nat) (l : List PV) (h : Shp Tryz.prog n 77 l) : ∃ y : api_Routine, l = enapi_Routine y := by
  obtain ⟨m, _, h⟩ := shp_st Tryz.underlying77 h
  change Shps (Shp Tryz.prog m) [9, 34, 34, 75] l at h
  obtain ⟨a0, b0, rfl, h0, a1, b1, rfl, h1, a2, b2, rfl, h2, a3, b3, rfl, h3, rfl⟩ := h
  obtain ⟨z0, rfl, _⟩ := shp_str Tryz.underlying9 h0
  obtain ⟨x1, rfl, e1, _, _, _, _⟩ := shp_sl Tryz.underlying34 h1
  obtain ⟨z1, rfl⟩ := lx134 x1 e1
  obtain ⟨x2, rfl, e2, _, _, _, _⟩ := shp_sl Tryz.underlying34 h2
  obtain ⟨z2, rfl⟩ := lx134 x2 e2
  obtain ⟨x3, rfl, e3, _, _, _, _⟩ := shp_sl Tryz.underlying75 h3
  obtain ⟨z3, rfl⟩ := lx83 x3 e3
  exact ⟨.mk z0 z1 z2 z3, rfl⟩
theorem mk81 (n : Nat) (l : List PV) (h : Shp Tryz.prog n 81 l) : ∃ y : api_Dist, l = enapi_Dist y := by
  obtain ⟨m, _, h⟩ := shp_st Tryz.underlying81 h
  change Shps (Shp Tryz.prog m) [79, 3, 3, 3, 51, 51] l at h
  obtain ⟨a0, b0, rfl, h0, a1, b1, rfl, h1, a2, b2, rfl, h2, a3, b3, rfl, h3, a4, b4, rfl, h4, a5, b5, rfl, h5, rfl⟩ := h
  obtain ⟨z0, rfl, _⟩ := shp_int Tryz.underlying79 h0
  obtain ⟨z1, rfl, _⟩ := shp_int Tryz.underlying3 h1
  obtain ⟨z2, rfl, _⟩ := shp_int Tryz.underlying3 h2
  obtain ⟨z3, rfl, _⟩ := shp_int Tryz.underlying3 h3
  obtain ⟨x4, rfl, e4, _, _, _, _⟩ := shp_sl Tryz.underlying51 h4
  obtain ⟨z4, rfl⟩ := lx3 x4 e4
  obtain ⟨x5, rfl, e5, _, _, _, _⟩ := shp_sl Tryz.underlying51 h5
  obtain ⟨z5, rfl⟩ := lx3 x5 e5
  exact ⟨.mk z0 z1 z2 z3 z4 z5, rfl⟩
theorem mk83 (n : Nat) (l : List PV) (h : Shp Tryz.prog n 83 l) : ∃ y : api_Stmt, l = enapi_Stmt y := by
  obtain ⟨m, _, h⟩ := shp_st Tryz.underlying83 h
  change Shps (Shp Tryz.prog m) [78, 9, 9, 25, 25, 23, 81, 4, 75, 75] l at h
  obtain ⟨a0, b0, rfl, h0, a1, b1, rfl, h1, a2, b2, rfl, h2, a3, b3, rfl, h3, a4, b4, rfl, h4, a5, b5, rfl, h5, a6, b6, rfl, h6, a7, b7, rfl, h7, a8, b8, rfl, h8, a9, b9, rfl, h9, rfl⟩ := h
  obtain ⟨z0, rfl, _⟩ := shp_int Tryz.underlying78 h0
  obtain ⟨z1, rfl, _⟩ := shp_str Tryz.underlying9 h1
  obtain ⟨z2, rfl, _⟩ := shp_str Tryz.underlying9 h2
  obtain ⟨z3, rfl⟩ := mk25 m _ h3
  obtain ⟨z4, rfl⟩ := mk25 m _ h4
  obtain ⟨x5, rfl, e5, _, _, _, _⟩ := shp_sl Tryz.underlying23 h5
  obtain ⟨z5, rfl⟩ := lx25 x5 e5
  obtain ⟨z6, rfl⟩ := mk81 m _ h6
  obtain ⟨z7, rfl⟩ := shp_bool Tryz.underlying4 h7
  obtain ⟨x8, rfl, e8, _, _, _, _⟩ := shp_sl Tryz.underlying75 h8
  obtain ⟨z8, rfl⟩ := lx83 x8 e8
  obtain ⟨x9, rfl, e9, _, _, _, _⟩ := shp_sl Tryz.underlying75 h9
  obtain ⟨z9, rfl⟩ := lx83 x9 e9
  exact ⟨.mk z0 z1 z2 z3 z4 z5 z6 z7 z8 z9, rfl⟩
theorem mk85 (n : Nat) (l : List PV) (h : Shp Tryz.prog n 85 l) : ∃ y : api_Value, l = enapi_Value y := by
  obtain ⟨m, _, h⟩ := shp_st Tryz.underlying85 h
  change Shps (Shp Tryz.prog m) [9, 47, 3] l at h
  obtain ⟨a0, b0, rfl, h0, a1, b1, rfl, h1, a2, b2, rfl, h2, rfl⟩ := h
  obtain ⟨z0, rfl, _⟩ := shp_str Tryz.underlying9 h0
  obtain ⟨z1, rfl, _⟩ := shp_int Tryz.underlying47 h1
  obtain ⟨z2, rfl, _⟩ := shp_int Tryz.underlying3 h2
  exact ⟨.mk z0 z1 z2, rfl⟩
theorem mk134 (n : Nat) (l : List PV) (h : Shp Tryz.prog n 134 l) : ∃ y : api_Field, l = enapi_Field y := by
  obtain ⟨m, _, h⟩ := shp_st Tryz.underlying134 h
  change Shps (Shp Tryz.prog m) [9, 47] l at h
  obtain ⟨a0, b0, rfl, h0, a1, b1, rfl, h1, rfl⟩ := h
  obtain ⟨z0, rfl, _⟩ := shp_str Tryz.underlying9 h0
  obtain ⟨z1, rfl, _⟩ := shp_int Tryz.underlying47 h1
  exact ⟨.mk z0 z1, rfl⟩
theorem mk157 (n : Nat) (l : List PV) (h : Shp Tryz.prog n 157 l) : ∃ y : api_Fault, l = enapi_Fault y := by
  obtain ⟨m, _, h⟩ := shp_st Tryz.underlying157 h
  change Shps (Shp Tryz.prog m) [9, 81, 81] l at h
  obtain ⟨a0, b0, rfl, h0, a1, b1, rfl, h1, a2, b2, rfl, h2, rfl⟩ := h
  obtain ⟨z0, rfl, _⟩ := shp_str Tryz.underlying9 h0
  obtain ⟨z1, rfl⟩ := mk81 m _ h1
  obtain ⟨z2, rfl⟩ := mk81 m _ h2
  exact ⟨.mk z0 z1 z2, rfl⟩
theorem mk159 (n : Nat) (l : List PV) (h : Shp Tryz.prog n 159 l) : ∃ y : api_ResourceDecl, l = enapi_ResourceDecl y := by
  obtain ⟨m, _, h⟩ := shp_st Tryz.underlying159 h
  change Shps (Shp Tryz.prog m) [9, 3, 155, 3, 157] l at h
  obtain ⟨a0, b0, rfl, h0, a1, b1, rfl, h1, a2, b2, rfl, h2, a3, b3, rfl, h3, a4, b4, rfl, h4, rfl⟩ := h
  obtain ⟨z0, rfl, _⟩ := shp_str Tryz.underlying9 h0
  obtain ⟨z1, rfl, _⟩ := shp_int Tryz.underlying3 h1
  obtain ⟨x2, rfl, e2, _, _, _, _⟩ := shp_sl Tryz.underlying155 h2
  obtain ⟨z2, rfl⟩ := lx216 x2 e2
  obtain ⟨z3, rfl, _⟩ := shp_int Tryz.underlying3 h3
  obtain ⟨z4, rfl⟩ := mk157 m _ h4
  exact ⟨.mk z0 z1 z2 z3 z4, rfl⟩
theorem mk164 (n : Nat) (l : List PV) (h : Shp Tryz.prog n 164 l) : ∃ y : api_StoreDecl, l = enapi_StoreDecl y := by
  obtain ⟨m, _, h⟩ := shp_st Tryz.underlying164 h
  change Shps (Shp Tryz.prog m) [9, 3, 162] l at h
  obtain ⟨a0, b0, rfl, h0, a1, b1, rfl, h1, a2, b2, rfl, h2, rfl⟩ := h
  obtain ⟨z0, rfl, _⟩ := shp_str Tryz.underlying9 h0
  obtain ⟨z1, rfl, _⟩ := shp_int Tryz.underlying3 h1
  obtain ⟨z2, rfl, _⟩ := shp_int Tryz.underlying162 h2
  exact ⟨.mk z0 z1 z2, rfl⟩
theorem mk168 (n : Nat) (l : List PV) (h : Shp Tryz.prog n 168 l) : ∃ y : api_BeltDecl, l = enapi_BeltDecl y := by
  obtain ⟨m, _, h⟩ := shp_st Tryz.underlying168 h
  change Shps (Shp Tryz.prog m) [9, 3, 3] l at h
  obtain ⟨a0, b0, rfl, h0, a1, b1, rfl, h1, a2, b2, rfl, h2, rfl⟩ := h
  obtain ⟨z0, rfl, _⟩ := shp_str Tryz.underlying9 h0
  obtain ⟨z1, rfl, _⟩ := shp_int Tryz.underlying3 h1
  obtain ⟨z2, rfl, _⟩ := shp_int Tryz.underlying3 h2
  exact ⟨.mk z0 z1 z2, rfl⟩
theorem mk195 (n : Nat) (l : List PV) (h : Shp Tryz.prog n 195 l) : ∃ y : api_Start, l = enapi_Start y := by
  obtain ⟨m, _, h⟩ := shp_st Tryz.underlying195 h
  change Shps (Shp Tryz.prog m) [9, 51, 3, 3, 3] l at h
  obtain ⟨a0, b0, rfl, h0, a1, b1, rfl, h1, a2, b2, rfl, h2, a3, b3, rfl, h3, a4, b4, rfl, h4, rfl⟩ := h
  obtain ⟨z0, rfl, _⟩ := shp_str Tryz.underlying9 h0
  obtain ⟨x1, rfl, e1, _, _, _, _⟩ := shp_sl Tryz.underlying51 h1
  obtain ⟨z1, rfl⟩ := lx3 x1 e1
  obtain ⟨z2, rfl, _⟩ := shp_int Tryz.underlying3 h2
  obtain ⟨z3, rfl, _⟩ := shp_int Tryz.underlying3 h3
  obtain ⟨z4, rfl, _⟩ := shp_int Tryz.underlying3 h4
  exact ⟨.mk z0 z1 z2 z3 z4, rfl⟩
theorem mk216 (n : Nat) (l : List PV) (h : Shp Tryz.prog n 216 l) : ∃ y : api_Change, l = enapi_Change y := by
  obtain ⟨m, _, h⟩ := shp_st Tryz.underlying216 h
  change Shps (Shp Tryz.prog m) [3, 3] l at h
  obtain ⟨a0, b0, rfl, h0, a1, b1, rfl, h1, rfl⟩ := h
  obtain ⟨z0, rfl, _⟩ := shp_int Tryz.underlying3 h0
  obtain ⟨z1, rfl, _⟩ := shp_int Tryz.underlying3 h1
  exact ⟨.mk z0 z1, rfl⟩
theorem mk223 (n : Nat) (l : List PV) (h : Shp Tryz.prog n 223 l) : ∃ y : api_Law, l = enapi_Law y := by
  obtain ⟨m, _, h⟩ := shp_st Tryz.underlying223 h
  change Shps (Shp Tryz.prog m) [9, 221, 3] l at h
  obtain ⟨a0, b0, rfl, h0, a1, b1, rfl, h1, a2, b2, rfl, h2, rfl⟩ := h
  obtain ⟨z0, rfl, _⟩ := shp_str Tryz.underlying9 h0
  obtain ⟨x1, rfl, e1, _, _, _, _⟩ := shp_sl Tryz.underlying221 h1
  obtain ⟨z1, rfl⟩ := lx226 x1 e1
  obtain ⟨z2, rfl, _⟩ := shp_int Tryz.underlying3 h2
  exact ⟨.mk z0 z1 z2, rfl⟩
theorem mk226 (n : Nat) (l : List PV) (h : Shp Tryz.prog n 226 l) : ∃ y : api_Term, l = enapi_Term y := by
  obtain ⟨m, _, h⟩ := shp_st Tryz.underlying226 h
  change Shps (Shp Tryz.prog m) [3, 9, 9] l at h
  obtain ⟨a0, b0, rfl, h0, a1, b1, rfl, h1, a2, b2, rfl, h2, rfl⟩ := h
  obtain ⟨z0, rfl, _⟩ := shp_int Tryz.underlying3 h0
  obtain ⟨z1, rfl, _⟩ := shp_str Tryz.underlying9 h1
  obtain ⟨z2, rfl, _⟩ := shp_str Tryz.underlying9 h2
  exact ⟨.mk z0 z1 z2, rfl⟩
theorem okg25 : ∀ n, (∀ y : api_Expr, Shp Tryz.prog n 25 (enapi_Expr y) → Ok_api_Expr y) := by
  intro n
  induction n using Nat.strongRecOn with
  | _ n ih =>
  refine ?_
  · intro y h
    obtain ⟨m, hm, h⟩ := shp_st Tryz.underlying25 h
    change Shps (Shp Tryz.prog m) [22, 9, 3, 23] (enapi_Expr y) at h
    cases y with
    | mk a0 a1 a2 a3 =>
    obtain ⟨g0, h⟩ := shps_cons (w_int Tryz.underlying22 m) h
    obtain ⟨g1, h⟩ := shps_cons (w_str Tryz.underlying9 m) h
    obtain ⟨g2, h⟩ := shps_cons (w_int Tryz.underlying3 m) h
    obtain ⟨g3, h⟩ := shps_cons (w_sl Tryz.underlying23 m) h
    have q3 : (a3.length ≤ maxLen ∧ ∀ y ∈ a3, Ok_api_Expr y) := by
      obtain ⟨h1, m2, hm2, h2⟩ := ok_sl Tryz.underlying23 g3
      exact ⟨h1, fun y hy => (ih m2 (by omega)) y (all_rows (row := row25) h2 y hy)⟩
    exact .mk _ _ _ _ (ok_int Tryz.underlying22 g0) (ok_str Tryz.underlying9 g1) (ok_int Tryz.underlying3 g2) q3.1 q3.2
theorem ok25 (n : Nat) (y : api_Expr) (h : Shp Tryz.prog n 25 (enapi_Expr y)) : Ok_api_Expr y := (okg25 n) y h
theorem rows3 (n m : Nat) (f : Nat → List PV) (hf : ∀ i, i < m → Shp Tryz.prog n 3 (f i)) : ∃ x : LX, x.e = 3 ∧ x.len = m ∧ x.sz = Tryz.prog.cellsOf 3 ∧ ∀ i, i < m → x.row i = f i := by
  obtain ⟨l, h1, h2⟩ := list_of row3 m f (fun i hi => let ⟨z, h, _⟩ := shp_int Tryz.underlying3 (hf i hi); ⟨z, h⟩)
  exact ⟨.t3 l, rfl, h1, by kernel_rfl, h2⟩
theorem rows4 (n m : Nat) (f : Nat → List PV) (hf : ∀ i, i < m → Shp Tryz.prog n 4 (f i)) : ∃ x : LX, x.e = 4 ∧ x.len = m ∧ x.sz = Tryz.prog.cellsOf 4 ∧ ∀ i, i < m → x.row i = f i := by
  obtain ⟨l, h1, h2⟩ := list_of row4 m f (fun i hi => let ⟨z, h⟩ := shp_bool Tryz.underlying4 (hf i hi); ⟨z, h⟩)
  exact ⟨.t4 l, rfl, h1, by kernel_rfl, h2⟩
theorem rows9 (n m : Nat) (f : Nat → List PV) (hf : ∀ i, i < m → Shp Tryz.prog n 9 (f i)) : ∃ x : LX, x.e = 9 ∧ x.len = m ∧ x.sz = Tryz.prog.cellsOf 9 ∧ ∀ i, i < m → x.row i = f i := by
  obtain ⟨l, h1, h2⟩ := list_of row9 m f (fun i hi => let ⟨z, h, _⟩ := shp_str Tryz.underlying9 (hf i hi); ⟨z, h⟩)
  exact ⟨.t9 l, rfl, h1, by kernel_rfl, h2⟩
theorem rows25 (n m : Nat) (f : Nat → List PV) (hf : ∀ i, i < m → Shp Tryz.prog n 25 (f i)) : ∃ x : LX, x.e = 25 ∧ x.len = m ∧ x.sz = Tryz.prog.cellsOf 25 ∧ ∀ i, i < m → x.row i = f i := by
  obtain ⟨l, h1, h2⟩ := list_of row25 m f (fun i hi => mk25 n _ (hf i hi))
  exact ⟨.t25 l, rfl, h1, by kernel_rfl, h2⟩
theorem rows34 (n m : Nat) (f : Nat → List PV) (hf : ∀ i, i < m → Shp Tryz.prog n 34 (f i)) : ∃ x : LX, x.e = 34 ∧ x.len = m ∧ x.sz = Tryz.prog.cellsOf 34 ∧ ∀ i, i < m → x.row i = f i := by
  obtain ⟨l, h1, h2⟩ := list_of row34 m f (fun i hi => by
    obtain ⟨x, h, he, _⟩ := shp_sl Tryz.underlying34 (hf i hi)
    obtain ⟨z, rfl⟩ := lx134 x he
    exact ⟨z, h⟩)
  exact ⟨.t34 l, rfl, h1, by kernel_rfl, h2⟩
theorem rows43 (n m : Nat) (f : Nat → List PV) (hf : ∀ i, i < m → Shp Tryz.prog n 43 (f i)) : ∃ x : LX, x.e = 43 ∧ x.len = m ∧ x.sz = Tryz.prog.cellsOf 43 ∧ ∀ i, i < m → x.row i = f i := by
  obtain ⟨l, h1, h2⟩ := list_of row43 m f (fun i hi => mk43 n _ (hf i hi))
  exact ⟨.t43 l, rfl, h1, by kernel_rfl, h2⟩
theorem rows47 (n m : Nat) (f : Nat → List PV) (hf : ∀ i, i < m → Shp Tryz.prog n 47 (f i)) : ∃ x : LX, x.e = 47 ∧ x.len = m ∧ x.sz = Tryz.prog.cellsOf 47 ∧ ∀ i, i < m → x.row i = f i := by
  obtain ⟨l, h1, h2⟩ := list_of row47 m f (fun i hi => let ⟨z, h, _⟩ := shp_int Tryz.underlying47 (hf i hi); ⟨z, h⟩)
  exact ⟨.t47 l, rfl, h1, by kernel_rfl, h2⟩
theorem rows77 (n m : Nat) (f : Nat → List PV) (hf : ∀ i, i < m → Shp Tryz.prog n 77 (f i)) : ∃ x : LX, x.e = 77 ∧ x.len = m ∧ x.sz = Tryz.prog.cellsOf 77 ∧ ∀ i, i < m → x.row i = f i := by
  obtain ⟨l, h1, h2⟩ := list_of row77 m f (fun i hi => mk77 n _ (hf i hi))
  exact ⟨.t77 l, rfl, h1, by kernel_rfl, h2⟩
theorem rows83 (n m : Nat) (f : Nat → List PV) (hf : ∀ i, i < m → Shp Tryz.prog n 83 (f i)) : ∃ x : LX, x.e = 83 ∧ x.len = m ∧ x.sz = Tryz.prog.cellsOf 83 ∧ ∀ i, i < m → x.row i = f i := by
  obtain ⟨l, h1, h2⟩ := list_of row83 m f (fun i hi => mk83 n _ (hf i hi))
  exact ⟨.t83 l, rfl, h1, by kernel_rfl, h2⟩
theorem rows85 (n m : Nat) (f : Nat → List PV) (hf : ∀ i, i < m → Shp Tryz.prog n 85 (f i)) : ∃ x : LX, x.e = 85 ∧ x.len = m ∧ x.sz = Tryz.prog.cellsOf 85 ∧ ∀ i, i < m → x.row i = f i := by
  obtain ⟨l, h1, h2⟩ := list_of row85 m f (fun i hi => mk85 n _ (hf i hi))
  exact ⟨.t85 l, rfl, h1, by kernel_rfl, h2⟩
theorem rows134 (n m : Nat) (f : Nat → List PV) (hf : ∀ i, i < m → Shp Tryz.prog n 134 (f i)) : ∃ x : LX, x.e = 134 ∧ x.len = m ∧ x.sz = Tryz.prog.cellsOf 134 ∧ ∀ i, i < m → x.row i = f i := by
  obtain ⟨l, h1, h2⟩ := list_of row134 m f (fun i hi => mk134 n _ (hf i hi))
  exact ⟨.t134 l, rfl, h1, by kernel_rfl, h2⟩
theorem rows159 (n m : Nat) (f : Nat → List PV) (hf : ∀ i, i < m → Shp Tryz.prog n 159 (f i)) : ∃ x : LX, x.e = 159 ∧ x.len = m ∧ x.sz = Tryz.prog.cellsOf 159 ∧ ∀ i, i < m → x.row i = f i := by
  obtain ⟨l, h1, h2⟩ := list_of row159 m f (fun i hi => mk159 n _ (hf i hi))
  exact ⟨.t159 l, rfl, h1, by kernel_rfl, h2⟩
theorem rows164 (n m : Nat) (f : Nat → List PV) (hf : ∀ i, i < m → Shp Tryz.prog n 164 (f i)) : ∃ x : LX, x.e = 164 ∧ x.len = m ∧ x.sz = Tryz.prog.cellsOf 164 ∧ ∀ i, i < m → x.row i = f i := by
  obtain ⟨l, h1, h2⟩ := list_of row164 m f (fun i hi => mk164 n _ (hf i hi))
  exact ⟨.t164 l, rfl, h1, by kernel_rfl, h2⟩
theorem rows168 (n m : Nat) (f : Nat → List PV) (hf : ∀ i, i < m → Shp Tryz.prog n 168 (f i)) : ∃ x : LX, x.e = 168 ∧ x.len = m ∧ x.sz = Tryz.prog.cellsOf 168 ∧ ∀ i, i < m → x.row i = f i := by
  obtain ⟨l, h1, h2⟩ := list_of row168 m f (fun i hi => mk168 n _ (hf i hi))
  exact ⟨.t168 l, rfl, h1, by kernel_rfl, h2⟩
theorem rows195 (n m : Nat) (f : Nat → List PV) (hf : ∀ i, i < m → Shp Tryz.prog n 195 (f i)) : ∃ x : LX, x.e = 195 ∧ x.len = m ∧ x.sz = Tryz.prog.cellsOf 195 ∧ ∀ i, i < m → x.row i = f i := by
  obtain ⟨l, h1, h2⟩ := list_of row195 m f (fun i hi => mk195 n _ (hf i hi))
  exact ⟨.t195 l, rfl, h1, by kernel_rfl, h2⟩
theorem rows216 (n m : Nat) (f : Nat → List PV) (hf : ∀ i, i < m → Shp Tryz.prog n 216 (f i)) : ∃ x : LX, x.e = 216 ∧ x.len = m ∧ x.sz = Tryz.prog.cellsOf 216 ∧ ∀ i, i < m → x.row i = f i := by
  obtain ⟨l, h1, h2⟩ := list_of row216 m f (fun i hi => mk216 n _ (hf i hi))
  exact ⟨.t216 l, rfl, h1, by kernel_rfl, h2⟩
theorem rows223 (n m : Nat) (f : Nat → List PV) (hf : ∀ i, i < m → Shp Tryz.prog n 223 (f i)) : ∃ x : LX, x.e = 223 ∧ x.len = m ∧ x.sz = Tryz.prog.cellsOf 223 ∧ ∀ i, i < m → x.row i = f i := by
  obtain ⟨l, h1, h2⟩ := list_of row223 m f (fun i hi => mk223 n _ (hf i hi))
  exact ⟨.t223 l, rfl, h1, by kernel_rfl, h2⟩
theorem rows226 (n m : Nat) (f : Nat → List PV) (hf : ∀ i, i < m → Shp Tryz.prog n 226 (f i)) : ∃ x : LX, x.e = 226 ∧ x.len = m ∧ x.sz = Tryz.prog.cellsOf 226 ∧ ∀ i, i < m → x.row i = f i := by
  obtain ⟨l, h1, h2⟩ := list_of row226 m f (fun i hi => mk226 n _ (hf i hi))
  exact ⟨.t226 l, rfl, h1, by kernel_rfl, h2⟩
def rdL : List Nat := [3, 4, 9, 22, 23, 25, 33, 34, 35, 36, 37, 38, 39, 40, 41, 43, 45, 47, 51, 75, 77, 78, 79, 81, 83, 85, 134, 155, 157, 159, 162, 164, 168, 195, 216, 221, 223, 226]
theorem rdMk : MkRows Tryz.prog rdL := by
  intro e n m f he hs hf
  simp only [rdL, List.mem_cons, List.not_mem_nil, or_false] at he
  rcases he with rfl | rfl | rfl | rfl | rfl | rfl | rfl | rfl | rfl | rfl | rfl | rfl | rfl | rfl | rfl | rfl | rfl | rfl | rfl | rfl | rfl | rfl | rfl | rfl | rfl | rfl | rfl | rfl | rfl | rfl | rfl | rfl | rfl | rfl | rfl | rfl | rfl | rfl
  · exact rows3 n m f hf
  · exact rows4 n m f hf
  · exact rows9 n m f hf
  · exact nomatch hs
  · exact nomatch hs
  · exact rows25 n m f hf
  · exact nomatch hs
  · exact rows34 n m f hf
  · exact nomatch hs
  · exact nomatch hs
  · exact nomatch hs
  · exact nomatch hs
  · exact nomatch hs
  · exact nomatch hs
  · exact nomatch hs
  · exact rows43 n m f hf
  · exact nomatch hs
  · exact rows47 n m f hf
  · exact nomatch hs
  · exact nomatch hs
  · exact rows77 n m f hf
  · exact nomatch hs
  · exact nomatch hs
  · exact nomatch hs
  · exact rows83 n m f hf
  · exact rows85 n m f hf
  · exact rows134 n m f hf
  · exact nomatch hs
  · exact nomatch hs
  · exact rows159 n m f hf
  · exact nomatch hs
  · exact rows164 n m f hf
  · exact rows168 n m f hf
  · exact rows195 n m f hf
  · exact rows216 n m f hf
  · exact nomatch hs
  · exact rows223 n m f hf
  · exact rows226 n m f hf
theorem rdOk : okAll Tryz.prog rdL = true := by kernel_rfl
end Go.Proofs.YtonfmpiikdmndaaGreat.Ev
