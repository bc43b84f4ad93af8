/-  What is read: its bulk. -/
import Derived.Test.YtonfmpiikdmndaaGreatR0
import Derived.Test.YtonfmpiikdmndaaGreatFz
namespace Go.Proofs.YtonfmpiikdmndaaGreat.Ev
open Go
set_option maxRecDepth 100000
set_option linter.unusedVariables false
set_option linter.unusedSimpArgs false
set_option linter.unnecessarySimpa false
mutual
def bk_api_Expr : api_Expr → Nat
  | .mk a0 a1 a2 a3 => 1 + (a1.size + 1) + 1 + (bkL_api_Expr a3 + 1) + 1
def bkL_api_Expr : List api_Expr → Nat
  | [] => 0
  | x :: k => bk_api_Expr x + bkL_api_Expr k
end
theorem bkL_api_Expr_eq (l : List api_Expr) : bkL_api_Expr l = sumL bk_api_Expr l := by
  induction l with
  | nil => rw [bkL_api_Expr]; rfl
  | cons x k ih => rw [bkL_api_Expr, ih]; rfl
theorem bk_api_Expr_eq (x : api_Expr) : bk_api_Expr x = 1 + (x.Name.size + 1) + 1 + (sumL bk_api_Expr x.Kids + 1) + 1 := by
  cases x with | mk a0 a1 a2 a3 => simp only [bk_api_Expr, bkL_api_Expr_eq, api_Expr.Op, api_Expr.Name, api_Expr.N, api_Expr.Kids]
def bk_api_BeltDecl (x : api_BeltDecl) : Nat := (x.Name.size + 1) + 1 + 1 + 1
def bk_api_Change (x : api_Change) : Nat := 1 + 1 + 1
def bk_api_Dist (x : api_Dist) : Nat := 1 + 1 + 1 + 1 + (sumL (fun (z : Int) => 1) x.Values + 1) + (sumL (fun (z : Int) => 1) x.Weights + 1) + 1
def bk_api_Field (x : api_Field) : Nat := (x.Name.size + 1) + 1 + 1
def bk_api_Term (x : api_Term) : Nat := 1 + (x.What.size + 1) + (x.Name.size + 1) + 1
def bk_api_Law (x : api_Law) : Nat := (x.Name.size + 1) + (sumL bk_api_Term x.Terms + 1) + 1 + 1
def bk_api_Fault (x : api_Fault) : Nat := (x.Stream.size + 1) + bk_api_Dist x.Up + bk_api_Dist x.Down + 1
def bk_api_ResourceDecl (x : api_ResourceDecl) : Nat := (x.Name.size + 1) + 1 + (sumL bk_api_Change x.Shift + 1) + 1 + bk_api_Fault x.Fault + 1
mutual
def bk_api_Stmt : api_Stmt → Nat
  | .mk a0 a1 a2 a3 a4 a5 a6 a7 a8 a9 => 1 + (a1.size + 1) + (a2.size + 1) + bk_api_Expr a3 + bk_api_Expr a4 + (sumL bk_api_Expr a5 + 1) + bk_api_Dist a6 + 1 + (bkL_api_Stmt a8 + 1) + (bkL_api_Stmt a9 + 1) + 1
def bkL_api_Stmt : List api_Stmt → Nat
  | [] => 0
  | x :: k => bk_api_Stmt x + bkL_api_Stmt k
end
theorem bkL_api_Stmt_eq (l : List api_Stmt) : bkL_api_Stmt l = sumL bk_api_Stmt l := by
  induction l with
  | nil => rw [bkL_api_Stmt]; rfl
  | cons x k ih => rw [bkL_api_Stmt, ih]; rfl
theorem bk_api_Stmt_eq (x : api_Stmt) : bk_api_Stmt x = 1 + (x.Name.size + 1) + (x.Of.size + 1) + bk_api_Expr x.E + bk_api_Expr x.F + (sumL bk_api_Expr x.Args + 1) + bk_api_Dist x.Dist + 1 + (sumL bk_api_Stmt x.Body + 1) + (sumL bk_api_Stmt x.Else + 1) + 1 := by
  cases x with | mk a0 a1 a2 a3 a4 a5 a6 a7 a8 a9 => simp only [bk_api_Stmt, bkL_api_Stmt_eq, api_Stmt.Op, api_Stmt.Name, api_Stmt.Of, api_Stmt.E, api_Stmt.F, api_Stmt.Args, api_Stmt.Dist, api_Stmt.Flag, api_Stmt.Body, api_Stmt.Else]
def bk_api_Routine (x : api_Routine) : Nat := (x.Name.size + 1) + (sumL bk_api_Field x.Params + 1) + (sumL bk_api_Field x.Locals + 1) + (sumL bk_api_Stmt x.Body + 1) + 1
def bk_api_Start (x : api_Start) : Nat := (x.Routine.size + 1) + (sumL (fun (z : Int) => 1) x.Args + 1) + 1 + 1 + 1 + 1
def bk_api_StoreDecl (x : api_StoreDecl) : Nat := (x.Name.size + 1) + 1 + 1 + 1
def bk_api_Value (x : api_Value) : Nat := (x.Name.size + 1) + 1 + 1 + 1
def bk_api_SiteDecl (x : api_SiteDecl) : Nat := (x.Name.size + 1) + (sumL bk_api_Value x.Vars + 1) + (sumL bk_api_ResourceDecl x.Resources + 1) + (sumL bk_api_StoreDecl x.Stores + 1) + (sumL bk_api_BeltDecl x.Belts + 1) + (sumL (fun (z : ByteArray) => (z.size + 1)) x.Queues + 1) + (sumL (fun (z : ByteArray) => (z.size + 1)) x.Streams + 1) + (sumL (fun (z : ByteArray) => (z.size + 1)) x.Tallies + 1) + (sumL (fun (z : ByteArray) => (z.size + 1)) x.Levels + 1) + (sumL (fun (z : ByteArray) => (z.size + 1)) x.Counts + 1) + (sumL bk_api_Routine x.Routines + 1) + (sumL bk_api_Start x.Starts + 1) + (sumL bk_api_Law x.Laws + 1) + 1
def bk_api_Env (x : api_Env) : Nat := (sumL bk_api_Value x.Params + 1) + (sumL bk_api_Field x.Locals + 1) + bk_api_SiteDecl x.Site + 1
theorem bkg25 : ∀ n, (∀ (y : api_Expr) (b : Nat), ShpB Tryz.prog n 25 (enapi_Expr y) b → bk_api_Expr y ≤ b) := by
  intro n
  induction n using Nat.strongRecOn with
  | _ n ih =>
  refine ?_
  · intro y b h
    obtain ⟨m, b0, hm, hb, h⟩ := shpB_st Tryz.underlying25 h
    change ShpsB (ShpB Tryz.prog m) [22, 9, 3, 23] (enapi_Expr y) b0 at h
    rw [bk_api_Expr_eq]
    cases y with
    | mk a0 a1 a2 a3 =>
    obtain ⟨c0, d0, e0, g0, h⟩ := shpsB_cons (w_int Tryz.underlying22 m) h
    obtain ⟨c1, d1, e1, g1, h⟩ := shpsB_cons (w_str Tryz.underlying9 m) h
    obtain ⟨c2, d2, e2, g2, h⟩ := shpsB_cons (w_int Tryz.underlying3 m) h
    obtain ⟨c3, d3, e3, g3, h⟩ := shpsB_cons (w_sl Tryz.underlying23 m) h
    have q0 : 1 ≤ c0 := shpB_one g0
    have q1 : (a1.size + 1) ≤ c1 := shpB_str Tryz.underlying9 g1
    have q2 : 1 ≤ c2 := shpB_one g2
    have q3 : sumL bk_api_Expr a3 + 1 ≤ c3 := by
      obtain ⟨m2, f, hm2, h1, h2⟩ := shpB_sl Tryz.underlying23 g3
      have := bulk_rows (row := row25) (Q := ShpB Tryz.prog m2 25) (g := bk_api_Expr) (fun y b h => (ih m2 (by omega)) y b h) (l := a3) (f := f) h2
      change sumTo f a3.length + 1 ≤ c3 at h1
      omega
    simp only [api_Expr.Op, api_Expr.Name, api_Expr.N, api_Expr.Kids]
    omega
theorem bkp25 (n : Nat) (y : api_Expr) (b : Nat) (h : ShpB Tryz.prog n 25 (enapi_Expr y) b) : bk_api_Expr y ≤ b := (bkg25 n) y b h
theorem bkp23 (n : Nat) (x : (List api_Expr)) (b : Nat) (h : ShpB Tryz.prog n 23 [.lst false (.t25 x)] b) : (sumL bk_api_Expr x + 1) ≤ b := by
  obtain ⟨m, f, _, h1, h2⟩ := shpB_sl Tryz.underlying23 h
  have := bulk_rows (row := row25) (Q := ShpB Tryz.prog m 25) (g := bk_api_Expr) (fun y b h => bkp25 _ y b h) (l := x) (f := f) h2
  change sumTo f x.length + 1 ≤ b at h1
  omega
theorem bkp85 (n : Nat) (y : api_Value) (b : Nat) (h : ShpB Tryz.prog n 85 (enapi_Value y) b) : bk_api_Value y ≤ b := by
  obtain ⟨m, b0, _, hb, h⟩ := shpB_st Tryz.underlying85 h
  change ShpsB (ShpB Tryz.prog m) [9, 47, 3] (enapi_Value y) b0 at h
  obtain ⟨c0, d0, e0, g0, h⟩ := shpsB_cons (w_str Tryz.underlying9 m) h
  obtain ⟨c1, d1, e1, g1, h⟩ := shpsB_cons (w_int Tryz.underlying47 m) h
  obtain ⟨c2, d2, e2, g2, h⟩ := shpsB_cons (w_int Tryz.underlying3 m) h
  have q0 : (y.Name.size + 1) ≤ c0 := shpB_str Tryz.underlying9 g0
  have q1 : 1 ≤ c1 := shpB_one g1
  have q2 : 1 ≤ c2 := shpB_one g2
  unfold bk_api_Value
  omega
theorem bkp33 (n : Nat) (x : (List api_Value)) (b : Nat) (h : ShpB Tryz.prog n 33 [.lst false (.t85 x)] b) : (sumL bk_api_Value x + 1) ≤ b := by
  obtain ⟨m, f, _, h1, h2⟩ := shpB_sl Tryz.underlying33 h
  have := bulk_rows (row := row85) (Q := ShpB Tryz.prog m 85) (g := bk_api_Value) (fun y b h => bkp85 _ y b h) (l := x) (f := f) h2
  change sumTo f x.length + 1 ≤ b at h1
  omega
theorem bkp134 (n : Nat) (y : api_Field) (b : Nat) (h : ShpB Tryz.prog n 134 (enapi_Field y) b) : bk_api_Field y ≤ b := by
  obtain ⟨m, b0, _, hb, h⟩ := shpB_st Tryz.underlying134 h
  change ShpsB (ShpB Tryz.prog m) [9, 47] (enapi_Field y) b0 at h
  obtain ⟨c0, d0, e0, g0, h⟩ := shpsB_cons (w_str Tryz.underlying9 m) h
  obtain ⟨c1, d1, e1, g1, h⟩ := shpsB_cons (w_int Tryz.underlying47 m) h
  have q0 : (y.Name.size + 1) ≤ c0 := shpB_str Tryz.underlying9 g0
  have q1 : 1 ≤ c1 := shpB_one g1
  unfold bk_api_Field
  omega
theorem bkp34 (n : Nat) (x : (List api_Field)) (b : Nat) (h : ShpB Tryz.prog n 34 [.lst false (.t134 x)] b) : (sumL bk_api_Field x + 1) ≤ b := by
  obtain ⟨m, f, _, h1, h2⟩ := shpB_sl Tryz.underlying34 h
  have := bulk_rows (row := row134) (Q := ShpB Tryz.prog m 134) (g := bk_api_Field) (fun y b h => bkp134 _ y b h) (l := x) (f := f) h2
  change sumTo f x.length + 1 ≤ b at h1
  omega
theorem bkp216 (n : Nat) (y : api_Change) (b : Nat) (h : ShpB Tryz.prog n 216 (enapi_Change y) b) : bk_api_Change y ≤ b := by
  obtain ⟨m, b0, _, hb, h⟩ := shpB_st Tryz.underlying216 h
  change ShpsB (ShpB Tryz.prog m) [3, 3] (enapi_Change y) b0 at h
  obtain ⟨c0, d0, e0, g0, h⟩ := shpsB_cons (w_int Tryz.underlying3 m) h
  obtain ⟨c1, d1, e1, g1, h⟩ := shpsB_cons (w_int Tryz.underlying3 m) h
  have q0 : 1 ≤ c0 := shpB_one g0
  have q1 : 1 ≤ c1 := shpB_one g1
  unfold bk_api_Change
  omega
theorem bkp155 (n : Nat) (x : (List api_Change)) (b : Nat) (h : ShpB Tryz.prog n 155 [.lst false (.t216 x)] b) : (sumL bk_api_Change x + 1) ≤ b := by
  obtain ⟨m, f, _, h1, h2⟩ := shpB_sl Tryz.underlying155 h
  have := bulk_rows (row := row216) (Q := ShpB Tryz.prog m 216) (g := bk_api_Change) (fun y b h => bkp216 _ y b h) (l := x) (f := f) h2
  change sumTo f x.length + 1 ≤ b at h1
  omega
theorem bkp51 (n : Nat) (x : (List Int)) (b : Nat) (h : ShpB Tryz.prog n 51 [.lst false (.t3 x)] b) : (sumL (fun (z : Int) => 1) x + 1) ≤ b := by
  obtain ⟨m, f, _, h1, h2⟩ := shpB_sl Tryz.underlying51 h
  have := bulk_rows (row := row3) (Q := ShpB Tryz.prog m 3) (g := (fun (z : Int) => 1)) (fun y b h => shpB_one h) (l := x) (f := f) h2
  change sumTo f x.length + 1 ≤ b at h1
  omega
theorem bkp81 (n : Nat) (y : api_Dist) (b : Nat) (h : ShpB Tryz.prog n 81 (enapi_Dist y) b) : bk_api_Dist y ≤ b := by
  obtain ⟨m, b0, _, hb, h⟩ := shpB_st Tryz.underlying81 h
  change ShpsB (ShpB Tryz.prog m) [79, 3, 3, 3, 51, 51] (enapi_Dist y) b0 at h
  obtain ⟨c0, d0, e0, g0, h⟩ := shpsB_cons (w_int Tryz.underlying79 m) h
  obtain ⟨c1, d1, e1, g1, h⟩ := shpsB_cons (w_int Tryz.underlying3 m) h
  obtain ⟨c2, d2, e2, g2, h⟩ := shpsB_cons (w_int Tryz.underlying3 m) h
  obtain ⟨c3, d3, e3, g3, h⟩ := shpsB_cons (w_int Tryz.underlying3 m) h
  obtain ⟨c4, d4, e4, g4, h⟩ := shpsB_cons (w_sl Tryz.underlying51 m) h
  obtain ⟨c5, d5, e5, g5, h⟩ := shpsB_cons (w_sl Tryz.underlying51 m) h
  have q0 : 1 ≤ c0 := shpB_one g0
  have q1 : 1 ≤ c1 := shpB_one g1
  have q2 : 1 ≤ c2 := shpB_one g2
  have q3 : 1 ≤ c3 := shpB_one g3
  have q4 : (sumL (fun (z : Int) => 1) y.Values + 1) ≤ c4 := bkp51 m _ _ g4
  have q5 : (sumL (fun (z : Int) => 1) y.Weights + 1) ≤ c5 := bkp51 m _ _ g5
  unfold bk_api_Dist
  omega
theorem bkp157 (n : Nat) (y : api_Fault) (b : Nat) (h : ShpB Tryz.prog n 157 (enapi_Fault y) b) : bk_api_Fault y ≤ b := by
  obtain ⟨m, b0, _, hb, h⟩ := shpB_st Tryz.underlying157 h
  change ShpsB (ShpB Tryz.prog m) [9, 81, 81] (enapi_Fault y) b0 at h
  obtain ⟨c0, d0, e0, g0, h⟩ := shpsB_cons (w_str Tryz.underlying9 m) h
  obtain ⟨c1, d1, e1, g1, h⟩ := shpsB_cons (w81 m) h
  obtain ⟨c2, d2, e2, g2, h⟩ := shpsB_cons (w81 m) h
  have q0 : (y.Stream.size + 1) ≤ c0 := shpB_str Tryz.underlying9 g0
  have q1 : bk_api_Dist y.Up ≤ c1 := bkp81 m _ _ g1
  have q2 : bk_api_Dist y.Down ≤ c2 := bkp81 m _ _ g2
  unfold bk_api_Fault
  omega
theorem bkp159 (n : Nat) (y : api_ResourceDecl) (b : Nat) (h : ShpB Tryz.prog n 159 (enapi_ResourceDecl y) b) : bk_api_ResourceDecl y ≤ b := by
  obtain ⟨m, b0, _, hb, h⟩ := shpB_st Tryz.underlying159 h
  change ShpsB (ShpB Tryz.prog m) [9, 3, 155, 3, 157] (enapi_ResourceDecl y) b0 at h
  obtain ⟨c0, d0, e0, g0, h⟩ := shpsB_cons (w_str Tryz.underlying9 m) h
  obtain ⟨c1, d1, e1, g1, h⟩ := shpsB_cons (w_int Tryz.underlying3 m) h
  obtain ⟨c2, d2, e2, g2, h⟩ := shpsB_cons (w_sl Tryz.underlying155 m) h
  obtain ⟨c3, d3, e3, g3, h⟩ := shpsB_cons (w_int Tryz.underlying3 m) h
  obtain ⟨c4, d4, e4, g4, h⟩ := shpsB_cons (w157 m) h
  have q0 : (y.Name.size + 1) ≤ c0 := shpB_str Tryz.underlying9 g0
  have q1 : 1 ≤ c1 := shpB_one g1
  have q2 : (sumL bk_api_Change y.Shift + 1) ≤ c2 := bkp155 m _ _ g2
  have q3 : 1 ≤ c3 := shpB_one g3
  have q4 : bk_api_Fault y.Fault ≤ c4 := bkp157 m _ _ g4
  unfold bk_api_ResourceDecl
  omega
theorem bkp35 (n : Nat) (x : (List api_ResourceDecl)) (b : Nat) (h : ShpB Tryz.prog n 35 [.lst false (.t159 x)] b) : (sumL bk_api_ResourceDecl x + 1) ≤ b := by
  obtain ⟨m, f, _, h1, h2⟩ := shpB_sl Tryz.underlying35 h
  have := bulk_rows (row := row159) (Q := ShpB Tryz.prog m 159) (g := bk_api_ResourceDecl) (fun y b h => bkp159 _ y b h) (l := x) (f := f) h2
  change sumTo f x.length + 1 ≤ b at h1
  omega
theorem bkp164 (n : Nat) (y : api_StoreDecl) (b : Nat) (h : ShpB Tryz.prog n 164 (enapi_StoreDecl y) b) : bk_api_StoreDecl y ≤ b := by
  obtain ⟨m, b0, _, hb, h⟩ := shpB_st Tryz.underlying164 h
  change ShpsB (ShpB Tryz.prog m) [9, 3, 162] (enapi_StoreDecl y) b0 at h
  obtain ⟨c0, d0, e0, g0, h⟩ := shpsB_cons (w_str Tryz.underlying9 m) h
  obtain ⟨c1, d1, e1, g1, h⟩ := shpsB_cons (w_int Tryz.underlying3 m) h
  obtain ⟨c2, d2, e2, g2, h⟩ := shpsB_cons (w_int Tryz.underlying162 m) h
  have q0 : (y.Name.size + 1) ≤ c0 := shpB_str Tryz.underlying9 g0
  have q1 : 1 ≤ c1 := shpB_one g1
  have q2 : 1 ≤ c2 := shpB_one g2
  unfold bk_api_StoreDecl
  omega
theorem bkp36 (n : Nat) (x : (List api_StoreDecl)) (b : Nat) (h : ShpB Tryz.prog n 36 [.lst false (.t164 x)] b) : (sumL bk_api_StoreDecl x + 1) ≤ b := by
  obtain ⟨m, f, _, h1, h2⟩ := shpB_sl Tryz.underlying36 h
  have := bulk_rows (row := row164) (Q := ShpB Tryz.prog m 164) (g := bk_api_StoreDecl) (fun y b h => bkp164 _ y b h) (l := x) (f := f) h2
  change sumTo f x.length + 1 ≤ b at h1
  omega
theorem bkp168 (n : Nat) (y : api_BeltDecl) (b : Nat) (h : ShpB Tryz.prog n 168 (enapi_BeltDecl y) b) : bk_api_BeltDecl y ≤ b := by
  obtain ⟨m, b0, _, hb, h⟩ := shpB_st Tryz.underlying168 h
  change ShpsB (ShpB Tryz.prog m) [9, 3, 3] (enapi_BeltDecl y) b0 at h
  obtain ⟨c0, d0, e0, g0, h⟩ := shpsB_cons (w_str Tryz.underlying9 m) h
  obtain ⟨c1, d1, e1, g1, h⟩ := shpsB_cons (w_int Tryz.underlying3 m) h
  obtain ⟨c2, d2, e2, g2, h⟩ := shpsB_cons (w_int Tryz.underlying3 m) h
  have q0 : (y.Name.size + 1) ≤ c0 := shpB_str Tryz.underlying9 g0
  have q1 : 1 ≤ c1 := shpB_one g1
  have q2 : 1 ≤ c2 := shpB_one g2
  unfold bk_api_BeltDecl
  omega
theorem bkp37 (n : Nat) (x : (List api_BeltDecl)) (b : Nat) (h : ShpB Tryz.prog n 37 [.lst false (.t168 x)] b) : (sumL bk_api_BeltDecl x + 1) ≤ b := by
  obtain ⟨m, f, _, h1, h2⟩ := shpB_sl Tryz.underlying37 h
  have := bulk_rows (row := row168) (Q := ShpB Tryz.prog m 168) (g := bk_api_BeltDecl) (fun y b h => bkp168 _ y b h) (l := x) (f := f) h2
  change sumTo f x.length + 1 ≤ b at h1
  omega
theorem bkp38 (n : Nat) (x : (List ByteArray)) (b : Nat) (h : ShpB Tryz.prog n 38 [.lst false (.t9 x)] b) : (sumL (fun (z : ByteArray) => (z.size + 1)) x + 1) ≤ b := by
  obtain ⟨m, f, _, h1, h2⟩ := shpB_sl Tryz.underlying38 h
  have := bulk_rows (row := row9) (Q := ShpB Tryz.prog m 9) (g := (fun (z : ByteArray) => (z.size + 1))) (fun y b h => shpB_str Tryz.underlying9 h) (l := x) (f := f) h2
  change sumTo f x.length + 1 ≤ b at h1
  omega
theorem bkg83 : ∀ n, (∀ (y : api_Stmt) (b : Nat), ShpB Tryz.prog n 83 (enapi_Stmt y) b → bk_api_Stmt y ≤ b) := by
  intro n
  induction n using Nat.strongRecOn with
  | _ n ih =>
  refine ?_
  · intro y b h
    obtain ⟨m, b0, hm, hb, h⟩ := shpB_st Tryz.underlying83 h
    change ShpsB (ShpB Tryz.prog m) [78, 9, 9, 25, 25, 23, 81, 4, 75, 75] (enapi_Stmt y) b0 at h
    rw [bk_api_Stmt_eq]
    cases y with
    | mk a0 a1 a2 a3 a4 a5 a6 a7 a8 a9 =>
    obtain ⟨c0, d0, e0, g0, h⟩ := shpsB_cons (w_int Tryz.underlying78 m) h
    obtain ⟨c1, d1, e1, g1, h⟩ := shpsB_cons (w_str Tryz.underlying9 m) h
    obtain ⟨c2, d2, e2, g2, h⟩ := shpsB_cons (w_str Tryz.underlying9 m) h
    obtain ⟨c3, d3, e3, g3, h⟩ := shpsB_cons (w25 m) h
    obtain ⟨c4, d4, e4, g4, h⟩ := shpsB_cons (w25 m) h
    obtain ⟨c5, d5, e5, g5, h⟩ := shpsB_cons (w_sl Tryz.underlying23 m) h
    obtain ⟨c6, d6, e6, g6, h⟩ := shpsB_cons (w81 m) h
    obtain ⟨c7, d7, e7, g7, h⟩ := shpsB_cons (w_bool Tryz.underlying4 m) h
    obtain ⟨c8, d8, e8, g8, h⟩ := shpsB_cons (w_sl Tryz.underlying75 m) h
    obtain ⟨c9, d9, e9, g9, h⟩ := shpsB_cons (w_sl Tryz.underlying75 m) h
    have q0 : 1 ≤ c0 := shpB_one g0
    have q1 : (a1.size + 1) ≤ c1 := shpB_str Tryz.underlying9 g1
    have q2 : (a2.size + 1) ≤ c2 := shpB_str Tryz.underlying9 g2
    have q3 : bk_api_Expr a3 ≤ c3 := bkp25 m _ _ g3
    have q4 : bk_api_Expr a4 ≤ c4 := bkp25 m _ _ g4
    have q5 : (sumL bk_api_Expr a5 + 1) ≤ c5 := bkp23 m _ _ g5
    have q6 : bk_api_Dist a6 ≤ c6 := bkp81 m _ _ g6
    have q7 : 1 ≤ c7 := shpB_one g7
    have q8 : sumL bk_api_Stmt a8 + 1 ≤ c8 := by
      obtain ⟨m2, f, hm2, h1, h2⟩ := shpB_sl Tryz.underlying75 g8
      have := bulk_rows (row := row83) (Q := ShpB Tryz.prog m2 83) (g := bk_api_Stmt) (fun y b h => (ih m2 (by omega)) y b h) (l := a8) (f := f) h2
      change sumTo f a8.length + 1 ≤ c8 at h1
      omega
    have q9 : sumL bk_api_Stmt a9 + 1 ≤ c9 := by
      obtain ⟨m2, f, hm2, h1, h2⟩ := shpB_sl Tryz.underlying75 g9
      have := bulk_rows (row := row83) (Q := ShpB Tryz.prog m2 83) (g := bk_api_Stmt) (fun y b h => (ih m2 (by omega)) y b h) (l := a9) (f := f) h2
      change sumTo f a9.length + 1 ≤ c9 at h1
      omega
    simp only [api_Stmt.Op, api_Stmt.Name, api_Stmt.Of, api_Stmt.E, api_Stmt.F, api_Stmt.Args, api_Stmt.Dist, api_Stmt.Flag, api_Stmt.Body, api_Stmt.Else]
    omega
theorem bkp83 (n : Nat) (y : api_Stmt) (b : Nat) (h : ShpB Tryz.prog n 83 (enapi_Stmt y) b) : bk_api_Stmt y ≤ b := (bkg83 n) y b h
theorem bkp75 (n : Nat) (x : (List api_Stmt)) (b : Nat) (h : ShpB Tryz.prog n 75 [.lst false (.t83 x)] b) : (sumL bk_api_Stmt x + 1) ≤ b := by
  obtain ⟨m, f, _, h1, h2⟩ := shpB_sl Tryz.underlying75 h
  have := bulk_rows (row := row83) (Q := ShpB Tryz.prog m 83) (g := bk_api_Stmt) (fun y b h => bkp83 _ y b h) (l := x) (f := f) h2
  change sumTo f x.length + 1 ≤ b at h1
  omega
theorem bkp77 (n : Nat) (y : api_Routine) (b : Nat) (h : ShpB Tryz.prog n 77 (enapi_Routine y) b) : bk_api_Routine y ≤ b := by
  obtain ⟨m, b0, _, hb, h⟩ := shpB_st Tryz.underlying77 h
  change ShpsB (ShpB Tryz.prog m) [9, 34, 34, 75] (enapi_Routine y) b0 at h
  obtain ⟨c0, d0, e0, g0, h⟩ := shpsB_cons (w_str Tryz.underlying9 m) h
  obtain ⟨c1, d1, e1, g1, h⟩ := shpsB_cons (w_sl Tryz.underlying34 m) h
  obtain ⟨c2, d2, e2, g2, h⟩ := shpsB_cons (w_sl Tryz.underlying34 m) h
  obtain ⟨c3, d3, e3, g3, h⟩ := shpsB_cons (w_sl Tryz.underlying75 m) h
  have q0 : (y.Name.size + 1) ≤ c0 := shpB_str Tryz.underlying9 g0
  have q1 : (sumL bk_api_Field y.Params + 1) ≤ c1 := bkp34 m _ _ g1
  have q2 : (sumL bk_api_Field y.Locals + 1) ≤ c2 := bkp34 m _ _ g2
  have q3 : (sumL bk_api_Stmt y.Body + 1) ≤ c3 := bkp75 m _ _ g3
  unfold bk_api_Routine
  omega
theorem bkp39 (n : Nat) (x : (List api_Routine)) (b : Nat) (h : ShpB Tryz.prog n 39 [.lst false (.t77 x)] b) : (sumL bk_api_Routine x + 1) ≤ b := by
  obtain ⟨m, f, _, h1, h2⟩ := shpB_sl Tryz.underlying39 h
  have := bulk_rows (row := row77) (Q := ShpB Tryz.prog m 77) (g := bk_api_Routine) (fun y b h => bkp77 _ y b h) (l := x) (f := f) h2
  change sumTo f x.length + 1 ≤ b at h1
  omega
theorem bkp195 (n : Nat) (y : api_Start) (b : Nat) (h : ShpB Tryz.prog n 195 (enapi_Start y) b) : bk_api_Start y ≤ b := by
  obtain ⟨m, b0, _, hb, h⟩ := shpB_st Tryz.underlying195 h
  change ShpsB (ShpB Tryz.prog m) [9, 51, 3, 3, 3] (enapi_Start y) b0 at h
  obtain ⟨c0, d0, e0, g0, h⟩ := shpsB_cons (w_str Tryz.underlying9 m) h
  obtain ⟨c1, d1, e1, g1, h⟩ := shpsB_cons (w_sl Tryz.underlying51 m) h
  obtain ⟨c2, d2, e2, g2, h⟩ := shpsB_cons (w_int Tryz.underlying3 m) h
  obtain ⟨c3, d3, e3, g3, h⟩ := shpsB_cons (w_int Tryz.underlying3 m) h
  obtain ⟨c4, d4, e4, g4, h⟩ := shpsB_cons (w_int Tryz.underlying3 m) h
  have q0 : (y.Routine.size + 1) ≤ c0 := shpB_str Tryz.underlying9 g0
  have q1 : (sumL (fun (z : Int) => 1) y.Args + 1) ≤ c1 := bkp51 m _ _ g1
  have q2 : 1 ≤ c2 := shpB_one g2
  have q3 : 1 ≤ c3 := shpB_one g3
  have q4 : 1 ≤ c4 := shpB_one g4
  unfold bk_api_Start
  omega
theorem bkp40 (n : Nat) (x : (List api_Start)) (b : Nat) (h : ShpB Tryz.prog n 40 [.lst false (.t195 x)] b) : (sumL bk_api_Start x + 1) ≤ b := by
  obtain ⟨m, f, _, h1, h2⟩ := shpB_sl Tryz.underlying40 h
  have := bulk_rows (row := row195) (Q := ShpB Tryz.prog m 195) (g := bk_api_Start) (fun y b h => bkp195 _ y b h) (l := x) (f := f) h2
  change sumTo f x.length + 1 ≤ b at h1
  omega
theorem bkp226 (n : Nat) (y : api_Term) (b : Nat) (h : ShpB Tryz.prog n 226 (enapi_Term y) b) : bk_api_Term y ≤ b := by
  obtain ⟨m, b0, _, hb, h⟩ := shpB_st Tryz.underlying226 h
  change ShpsB (ShpB Tryz.prog m) [3, 9, 9] (enapi_Term y) b0 at h
  obtain ⟨c0, d0, e0, g0, h⟩ := shpsB_cons (w_int Tryz.underlying3 m) h
  obtain ⟨c1, d1, e1, g1, h⟩ := shpsB_cons (w_str Tryz.underlying9 m) h
  obtain ⟨c2, d2, e2, g2, h⟩ := shpsB_cons (w_str Tryz.underlying9 m) h
  have q0 : 1 ≤ c0 := shpB_one g0
  have q1 : (y.What.size + 1) ≤ c1 := shpB_str Tryz.underlying9 g1
  have q2 : (y.Name.size + 1) ≤ c2 := shpB_str Tryz.underlying9 g2
  unfold bk_api_Term
  omega
theorem bkp221 (n : Nat) (x : (List api_Term)) (b : Nat) (h : ShpB Tryz.prog n 221 [.lst false (.t226 x)] b) : (sumL bk_api_Term x + 1) ≤ b := by
  obtain ⟨m, f, _, h1, h2⟩ := shpB_sl Tryz.underlying221 h
  have := bulk_rows (row := row226) (Q := ShpB Tryz.prog m 226) (g := bk_api_Term) (fun y b h => bkp226 _ y b h) (l := x) (f := f) h2
  change sumTo f x.length + 1 ≤ b at h1
  omega
theorem bkp223 (n : Nat) (y : api_Law) (b : Nat) (h : ShpB Tryz.prog n 223 (enapi_Law y) b) : bk_api_Law y ≤ b := by
  obtain ⟨m, b0, _, hb, h⟩ := shpB_st Tryz.underlying223 h
  change ShpsB (ShpB Tryz.prog m) [9, 221, 3] (enapi_Law y) b0 at h
  obtain ⟨c0, d0, e0, g0, h⟩ := shpsB_cons (w_str Tryz.underlying9 m) h
  obtain ⟨c1, d1, e1, g1, h⟩ := shpsB_cons (w_sl Tryz.underlying221 m) h
  obtain ⟨c2, d2, e2, g2, h⟩ := shpsB_cons (w_int Tryz.underlying3 m) h
  have q0 : (y.Name.size + 1) ≤ c0 := shpB_str Tryz.underlying9 g0
  have q1 : (sumL bk_api_Term y.Terms + 1) ≤ c1 := bkp221 m _ _ g1
  have q2 : 1 ≤ c2 := shpB_one g2
  unfold bk_api_Law
  omega
theorem bkp41 (n : Nat) (x : (List api_Law)) (b : Nat) (h : ShpB Tryz.prog n 41 [.lst false (.t223 x)] b) : (sumL bk_api_Law x + 1) ≤ b := by
  obtain ⟨m, f, _, h1, h2⟩ := shpB_sl Tryz.underlying41 h
  have := bulk_rows (row := row223) (Q := ShpB Tryz.prog m 223) (g := bk_api_Law) (fun y b h => bkp223 _ y b h) (l := x) (f := f) h2
  change sumTo f x.length + 1 ≤ b at h1
  omega
theorem bkp43 (n : Nat) (y : api_SiteDecl) (b : Nat) (h : ShpB Tryz.prog n 43 (enapi_SiteDecl y) b) : bk_api_SiteDecl y ≤ b := by
  obtain ⟨m, b0, _, hb, h⟩ := shpB_st Tryz.underlying43 h
  change ShpsB (ShpB Tryz.prog m) [9, 33, 35, 36, 37, 38, 38, 38, 38, 38, 39, 40, 41] (enapi_SiteDecl y) b0 at h
  obtain ⟨c0, d0, e0, g0, h⟩ := shpsB_cons (w_str Tryz.underlying9 m) h
  obtain ⟨c1, d1, e1, g1, h⟩ := shpsB_cons (w_sl Tryz.underlying33 m) h
  obtain ⟨c2, d2, e2, g2, h⟩ := shpsB_cons (w_sl Tryz.underlying35 m) h
  obtain ⟨c3, d3, e3, g3, h⟩ := shpsB_cons (w_sl Tryz.underlying36 m) h
  obtain ⟨c4, d4, e4, g4, h⟩ := shpsB_cons (w_sl Tryz.underlying37 m) h
  obtain ⟨c5, d5, e5, g5, h⟩ := shpsB_cons (w_sl Tryz.underlying38 m) h
  obtain ⟨c6, d6, e6, g6, h⟩ := shpsB_cons (w_sl Tryz.underlying38 m) h
  obtain ⟨c7, d7, e7, g7, h⟩ := shpsB_cons (w_sl Tryz.underlying38 m) h
  obtain ⟨c8, d8, e8, g8, h⟩ := shpsB_cons (w_sl Tryz.underlying38 m) h
  obtain ⟨c9, d9, e9, g9, h⟩ := shpsB_cons (w_sl Tryz.underlying38 m) h
  obtain ⟨c10, d10, e10, g10, h⟩ := shpsB_cons (w_sl Tryz.underlying39 m) h
  obtain ⟨c11, d11, e11, g11, h⟩ := shpsB_cons (w_sl Tryz.underlying40 m) h
  obtain ⟨c12, d12, e12, g12, h⟩ := shpsB_cons (w_sl Tryz.underlying41 m) h
  have q0 : (y.Name.size + 1) ≤ c0 := shpB_str Tryz.underlying9 g0
  have q1 : (sumL bk_api_Value y.Vars + 1) ≤ c1 := bkp33 m _ _ g1
  have q2 : (sumL bk_api_ResourceDecl y.Resources + 1) ≤ c2 := bkp35 m _ _ g2
  have q3 : (sumL bk_api_StoreDecl y.Stores + 1) ≤ c3 := bkp36 m _ _ g3
  have q4 : (sumL bk_api_BeltDecl y.Belts + 1) ≤ c4 := bkp37 m _ _ g4
  have q5 : (sumL (fun (z : ByteArray) => (z.size + 1)) y.Queues + 1) ≤ c5 := bkp38 m _ _ g5
  have q6 : (sumL (fun (z : ByteArray) => (z.size + 1)) y.Streams + 1) ≤ c6 := bkp38 m _ _ g6
  have q7 : (sumL (fun (z : ByteArray) => (z.size + 1)) y.Tallies + 1) ≤ c7 := bkp38 m _ _ g7
  have q8 : (sumL (fun (z : ByteArray) => (z.size + 1)) y.Levels + 1) ≤ c8 := bkp38 m _ _ g8
  have q9 : (sumL (fun (z : ByteArray) => (z.size + 1)) y.Counts + 1) ≤ c9 := bkp38 m _ _ g9
  have q10 : (sumL bk_api_Routine y.Routines + 1) ≤ c10 := bkp39 m _ _ g10
  have q11 : (sumL bk_api_Start y.Starts + 1) ≤ c11 := bkp40 m _ _ g11
  have q12 : (sumL bk_api_Law y.Laws + 1) ≤ c12 := bkp41 m _ _ g12
  unfold bk_api_SiteDecl
  omega
theorem bkp45 (n : Nat) (y : api_Env) (b : Nat) (h : ShpB Tryz.prog n 45 (enapi_Env y) b) : bk_api_Env y ≤ b := by
  obtain ⟨m, b0, _, hb, h⟩ := shpB_st Tryz.underlying45 h
  change ShpsB (ShpB Tryz.prog m) [33, 34, 43] (enapi_Env y) b0 at h
  obtain ⟨c0, d0, e0, g0, h⟩ := shpsB_cons (w_sl Tryz.underlying33 m) h
  obtain ⟨c1, d1, e1, g1, h⟩ := shpsB_cons (w_sl Tryz.underlying34 m) h
  obtain ⟨c2, d2, e2, g2, h⟩ := shpsB_cons (w43 m) h
  have q0 : (sumL bk_api_Value y.Params + 1) ≤ c0 := bkp33 m _ _ g0
  have q1 : (sumL bk_api_Field y.Locals + 1) ≤ c1 := bkp34 m _ _ g1
  have q2 : bk_api_SiteDecl y.Site ≤ c2 := bkp43 m _ _ g2
  unfold bk_api_Env
  omega
end Go.Proofs.YtonfmpiikdmndaaGreat.Ev
