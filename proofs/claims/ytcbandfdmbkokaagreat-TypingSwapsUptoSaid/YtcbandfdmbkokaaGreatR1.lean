/-  What is read: its bulk. -/
import Derived.Test.YtcbandfdmbkokaaGreatR0
import Derived.Test.YtcbandfdmbkokaaGreatFz
namespace Go.Proofs.YtcbandfdmbkokaaGreat.Ev
open Go
set_option maxRecDepth 100000
set_option linter.unusedVariables false
set_option linter.unusedSimpArgs false
set_option linter.unnecessarySimpa false

def bk_api_Field (x : api_Field) : Nat := (x.Name.size + 1) + 1 + 1
def bk_api_BeltDecl (x : api_BeltDecl) : Nat := (x.Name.size + 1) + 1 + 1 + 1
def bk_api_Term (x : api_Term) : Nat := 1 + (x.What.size + 1) + (x.Name.size + 1) + 1
def bk_api_Law (x : api_Law) : Nat := (x.Name.size + 1) + (sumL bk_api_Term x.Terms + 1) + 1 + 1
def bk_api_Change (x : api_Change) : Nat := 1 + 1 + 1
def bk_api_Dist (x : api_Dist) : Nat := 1 + 1 + 1 + 1 + (sumL (fun (z : Int) => 1) x.Values + 1) + (sumL (fun (z : Int) => 1) x.Weights + 1) + 1
def bk_api_Fault (x : api_Fault) : Nat := (x.Stream.size + 1) + bk_api_Dist x.Up + bk_api_Dist x.Down + 1
def bk_api_ResourceDecl (x : api_ResourceDecl) : Nat := (x.Name.size + 1) + 1 + (sumL bk_api_Change x.Shift + 1) + 1 + bk_api_Fault x.Fault + 1
mutual
def bk_api_Expr : api_Expr → Nat
  | .mk a0 a1 a2 a3 => 1 + (a1.size + 1) + 1 + (bkL_api_Expr a3 + 1) + 1
def bkL_api_Expr : List api_Expr → Nat
  | [] => 0
  | x :: k => bk_api_Expr x + bkL_api_Expr k
end
theorem bkL_api_Expr_eq (l : List api_Expr) : bkL_api_Expr l = sumL bk_api_Expr l := by
  induction l with
  | nil => rw [bkL_api_Expr]; rfl
  | cons x k ih => rw [bkL_api_Expr, ih]; rfl
theorem bk_api_Expr_eq (x : api_Expr) : bk_api_Expr x = 1 + (x.Name.size + 1) + 1 + (sumL bk_api_Expr x.Kids + 1) + 1 := by
  cases x with | mk a0 a1 a2 a3 => simp only [bk_api_Expr, bkL_api_Expr_eq, api_Expr.Op, api_Expr.Name, api_Expr.N, api_Expr.Kids]
mutual
def bk_api_Stmt : api_Stmt → Nat
  | .mk a0 a1 a2 a3 a4 a5 a6 a7 a8 a9 => 1 + (a1.size + 1) + (a2.size + 1) + bk_api_Expr a3 + bk_api_Expr a4 + (sumL bk_api_Expr a5 + 1) + bk_api_Dist a6 + 1 + (bkL_api_Stmt a8 + 1) + (bkL_api_Stmt a9 + 1) + 1
def bkL_api_Stmt : List api_Stmt → Nat
  | [] => 0
  | x :: k => bk_api_Stmt x + bkL_api_Stmt k
end
theorem bkL_api_Stmt_eq (l : List api_Stmt) : bkL_api_Stmt l = sumL bk_api_Stmt l := by
  induction l with
  | nil => rw [bkL_api_Stmt]; rfl
  | cons x k ih => rw [bkL_api_Stmt, ih]; rfl
theorem bk_api_Stmt_eq (x : api_Stmt) : bk_api_Stmt x = 1 + (x.Name.size + 1) + (x.Of.size + 1) + bk_api_Expr x.E + bk_api_Expr x.F + (sumL bk_api_Expr x.Args + 1) + bk_api_Dist x.Dist + 1 + (sumL bk_api_Stmt x.Body + 1) + (sumL bk_api_Stmt x.Else + 1) + 1 := by
  cases x with | mk a0 a1 a2 a3 a4 a5 a6 a7 a8 a9 => simp only [bk_api_Stmt, bkL_api_Stmt_eq, api_Stmt.Op, api_Stmt.Name, api_Stmt.Of, api_Stmt.E, api_Stmt.F, api_Stmt.Args, api_Stmt.Dist, api_Stmt.Flag, api_Stmt.Body, api_Stmt.Else]
def bk_api_Routine (x : api_Routine) : Nat := (x.Name.size + 1) + (sumL bk_api_Field x.Params + 1) + (sumL bk_api_Field x.Locals + 1) + (sumL bk_api_Stmt x.Body + 1) + 1
def bk_api_Start (x : api_Start) : Nat := (x.Routine.size + 1) + (sumL (fun (z : Int) => 1) x.Args + 1) + 1 + 1 + 1 + 1
def bk_api_StoreDecl (x : api_StoreDecl) : Nat := (x.Name.size + 1) + 1 + 1 + 1
def bk_api_Value (x : api_Value) : Nat := (x.Name.size + 1) + 1 + 1 + 1
def bk_api_SiteDecl (x : api_SiteDecl) : Nat := (x.Name.size + 1) + (sumL bk_api_Value x.Vars + 1) + (sumL bk_api_ResourceDecl x.Resources + 1) + (sumL bk_api_StoreDecl x.Stores + 1) + (sumL bk_api_BeltDecl x.Belts + 1) + (sumL (fun (z : ByteArray) => (z.size + 1)) x.Queues + 1) + (sumL (fun (z : ByteArray) => (z.size + 1)) x.Streams + 1) + (sumL (fun (z : ByteArray) => (z.size + 1)) x.Tallies + 1) + (sumL (fun (z : ByteArray) => (z.size + 1)) x.Levels + 1) + (sumL (fun (z : ByteArray) => (z.size + 1)) x.Counts + 1) + (sumL bk_api_Routine x.Routines + 1) + (sumL bk_api_Start x.Starts + 1) + (sumL bk_api_Law x.Laws + 1) + 1
def bk_L14_Swap (x : L14_Swap) : Nat := bk_api_Expr x.E + bk_api_Expr x.By + (x.Name.size + 1) + 1
def bk_api_Env (x : api_Env) : Nat := (sumL bk_api_Value x.Params + 1) + (sumL bk_api_Field x.Locals + 1) + bk_api_SiteDecl x.Site + 1
theorem bkp72 (n : Nat) (y : api_Value) (b : Nat) (h : ShpB Tryz.prog n 72 (enapi_Value y) b) : bk_api_Value y ≤ b := by
  obtain ⟨m, b0, _, hb, h⟩ := shpB_st Tryz.underlying72 h
  change ShpsB (ShpB Tryz.prog m) [9, 41, 3] (enapi_Value y) b0 at h
  obtain ⟨c0, d0, e0, g0, h⟩ := shpsB_cons (w_str Tryz.underlying9 m) h
  obtain ⟨c1, d1, e1, g1, h⟩ := shpsB_cons (w_int Tryz.underlying41 m) h
  obtain ⟨c2, d2, e2, g2, h⟩ := shpsB_cons (w_int Tryz.underlying3 m) h
  have q0 : (y.Name.size + 1) ≤ c0 := shpB_str Tryz.underlying9 g0
  have q1 : 1 ≤ c1 := shpB_one g1
  have q2 : 1 ≤ c2 := shpB_one g2
  unfold bk_api_Value
  omega
theorem bkp22 (n : Nat) (x : (List api_Value)) (b : Nat) (h : ShpB Tryz.prog n 22 [.lst false (.t72 x)] b) : (sumL bk_api_Value x + 1) ≤ b := by
  obtain ⟨m, f, _, h1, h2⟩ := shpB_sl Tryz.underlying22 h
  have := bulk_rows (row := row72) (Q := ShpB Tryz.prog m 72) (g := bk_api_Value) (fun y b h => bkp72 _ y b h) (l := x) (f := f) h2
  change sumTo f x.length + 1 ≤ b at h1
  omega
theorem bkp68 (n : Nat) (y : api_Field) (b : Nat) (h : ShpB Tryz.prog n 68 (enapi_Field y) b) : bk_api_Field y ≤ b := by
  obtain ⟨m, b0, _, hb, h⟩ := shpB_st Tryz.underlying68 h
  change ShpsB (ShpB Tryz.prog m) [9, 41] (enapi_Field y) b0 at h
  obtain ⟨c0, d0, e0, g0, h⟩ := shpsB_cons (w_str Tryz.underlying9 m) h
  obtain ⟨c1, d1, e1, g1, h⟩ := shpsB_cons (w_int Tryz.underlying41 m) h
  have q0 : (y.Name.size + 1) ≤ c0 := shpB_str Tryz.underlying9 g0
  have q1 : 1 ≤ c1 := shpB_one g1
  unfold bk_api_Field
  omega
theorem bkp23 (n : Nat) (x : (List api_Field)) (b : Nat) (h : ShpB Tryz.prog n 23 [.lst false (.t68 x)] b) : (sumL bk_api_Field x + 1) ≤ b := by
  obtain ⟨m, f, _, h1, h2⟩ := shpB_sl Tryz.underlying23 h
  have := bulk_rows (row := row68) (Q := ShpB Tryz.prog m 68) (g := bk_api_Field) (fun y b h => bkp68 _ y b h) (l := x) (f := f) h2
  change sumTo f x.length + 1 ≤ b at h1
  omega
theorem bkp228 (n : Nat) (y : api_Change) (b : Nat) (h : ShpB Tryz.prog n 228 (enapi_Change y) b) : bk_api_Change y ≤ b := by
  obtain ⟨m, b0, _, hb, h⟩ := shpB_st Tryz.underlying228 h
  change ShpsB (ShpB Tryz.prog m) [3, 3] (enapi_Change y) b0 at h
  obtain ⟨c0, d0, e0, g0, h⟩ := shpsB_cons (w_int Tryz.underlying3 m) h
  obtain ⟨c1, d1, e1, g1, h⟩ := shpsB_cons (w_int Tryz.underlying3 m) h
  have q0 : 1 ≤ c0 := shpB_one g0
  have q1 : 1 ≤ c1 := shpB_one g1
  unfold bk_api_Change
  omega
theorem bkp145 (n : Nat) (x : (List api_Change)) (b : Nat) (h : ShpB Tryz.prog n 145 [.lst false (.t228 x)] b) : (sumL bk_api_Change x + 1) ≤ b := by
  obtain ⟨m, f, _, h1, h2⟩ := shpB_sl Tryz.underlying145 h
  have := bulk_rows (row := row228) (Q := ShpB Tryz.prog m 228) (g := bk_api_Change) (fun y b h => bkp228 _ y b h) (l := x) (f := f) h2
  change sumTo f x.length + 1 ≤ b at h1
  omega
theorem bkp78 (n : Nat) (x : (List Int)) (b : Nat) (h : ShpB Tryz.prog n 78 [.lst false (.t3 x)] b) : (sumL (fun (z : Int) => 1) x + 1) ≤ b := by
  obtain ⟨m, f, _, h1, h2⟩ := shpB_sl Tryz.underlying78 h
  have := bulk_rows (row := row3) (Q := ShpB Tryz.prog m 3) (g := (fun (z : Int) => 1)) (fun y b h => shpB_one h) (l := x) (f := f) h2
  change sumTo f x.length + 1 ≤ b at h1
  omega
theorem bkp80 (n : Nat) (y : api_Dist) (b : Nat) (h : ShpB Tryz.prog n 80 (enapi_Dist y) b) : bk_api_Dist y ≤ b := by
  obtain ⟨m, b0, _, hb, h⟩ := shpB_st Tryz.underlying80 h
  change ShpsB (ShpB Tryz.prog m) [77, 3, 3, 3, 78, 78] (enapi_Dist y) b0 at h
  obtain ⟨c0, d0, e0, g0, h⟩ := shpsB_cons (w_int Tryz.underlying77 m) h
  obtain ⟨c1, d1, e1, g1, h⟩ := shpsB_cons (w_int Tryz.underlying3 m) h
  obtain ⟨c2, d2, e2, g2, h⟩ := shpsB_cons (w_int Tryz.underlying3 m) h
  obtain ⟨c3, d3, e3, g3, h⟩ := shpsB_cons (w_int Tryz.underlying3 m) h
  obtain ⟨c4, d4, e4, g4, h⟩ := shpsB_cons (w_sl Tryz.underlying78 m) h
  obtain ⟨c5, d5, e5, g5, h⟩ := shpsB_cons (w_sl Tryz.underlying78 m) h
  have q0 : 1 ≤ c0 := shpB_one g0
  have q1 : 1 ≤ c1 := shpB_one g1
  have q2 : 1 ≤ c2 := shpB_one g2
  have q3 : 1 ≤ c3 := shpB_one g3
  have q4 : (sumL (fun (z : Int) => 1) y.Values + 1) ≤ c4 := bkp78 m _ _ g4
  have q5 : (sumL (fun (z : Int) => 1) y.Weights + 1) ≤ c5 := bkp78 m _ _ g5
  unfold bk_api_Dist
  omega
theorem bkp147 (n : Nat) (y : api_Fault) (b : Nat) (h : ShpB Tryz.prog n 147 (enapi_Fault y) b) : bk_api_Fault y ≤ b := by
  obtain ⟨m, b0, _, hb, h⟩ := shpB_st Tryz.underlying147 h
  change ShpsB (ShpB Tryz.prog m) [9, 80, 80] (enapi_Fault y) b0 at h
  obtain ⟨c0, d0, e0, g0, h⟩ := shpsB_cons (w_str Tryz.underlying9 m) h
  obtain ⟨c1, d1, e1, g1, h⟩ := shpsB_cons (w80 m) h
  obtain ⟨c2, d2, e2, g2, h⟩ := shpsB_cons (w80 m) h
  have q0 : (y.Stream.size + 1) ≤ c0 := shpB_str Tryz.underlying9 g0
  have q1 : bk_api_Dist y.Up ≤ c1 := bkp80 m _ _ g1
  have q2 : bk_api_Dist y.Down ≤ c2 := bkp80 m _ _ g2
  unfold bk_api_Fault
  omega
theorem bkp149 (n : Nat) (y : api_ResourceDecl) (b : Nat) (h : ShpB Tryz.prog n 149 (enapi_ResourceDecl y) b) : bk_api_ResourceDecl y ≤ b := by
  obtain ⟨m, b0, _, hb, h⟩ := shpB_st Tryz.underlying149 h
  change ShpsB (ShpB Tryz.prog m) [9, 3, 145, 3, 147] (enapi_ResourceDecl y) b0 at h
  obtain ⟨c0, d0, e0, g0, h⟩ := shpsB_cons (w_str Tryz.underlying9 m) h
  obtain ⟨c1, d1, e1, g1, h⟩ := shpsB_cons (w_int Tryz.underlying3 m) h
  obtain ⟨c2, d2, e2, g2, h⟩ := shpsB_cons (w_sl Tryz.underlying145 m) h
  obtain ⟨c3, d3, e3, g3, h⟩ := shpsB_cons (w_int Tryz.underlying3 m) h
  obtain ⟨c4, d4, e4, g4, h⟩ := shpsB_cons (w147 m) h
  have q0 : (y.Name.size + 1) ≤ c0 := shpB_str Tryz.underlying9 g0
  have q1 : 1 ≤ c1 := shpB_one g1
  have q2 : (sumL bk_api_Change y.Shift + 1) ≤ c2 := bkp145 m _ _ g2
  have q3 : 1 ≤ c3 := shpB_one g3
  have q4 : bk_api_Fault y.Fault ≤ c4 := bkp147 m _ _ g4
  unfold bk_api_ResourceDecl
  omega
theorem bkp24 (n : Nat) (x : (List api_ResourceDecl)) (b : Nat) (h : ShpB Tryz.prog n 24 [.lst false (.t149 x)] b) : (sumL bk_api_ResourceDecl x + 1) ≤ b := by
  obtain ⟨m, f, _, h1, h2⟩ := shpB_sl Tryz.underlying24 h
  have := bulk_rows (row := row149) (Q := ShpB Tryz.prog m 149) (g := bk_api_ResourceDecl) (fun y b h => bkp149 _ y b h) (l := x) (f := f) h2
  change sumTo f x.length + 1 ≤ b at h1
  omega
theorem bkp156 (n : Nat) (y : api_StoreDecl) (b : Nat) (h : ShpB Tryz.prog n 156 (enapi_StoreDecl y) b) : bk_api_StoreDecl y ≤ b := by
  obtain ⟨m, b0, _, hb, h⟩ := shpB_st Tryz.underlying156 h
  change ShpsB (ShpB Tryz.prog m) [9, 3, 154] (enapi_StoreDecl y) b0 at h
  obtain ⟨c0, d0, e0, g0, h⟩ := shpsB_cons (w_str Tryz.underlying9 m) h
  obtain ⟨c1, d1, e1, g1, h⟩ := shpsB_cons (w_int Tryz.underlying3 m) h
  obtain ⟨c2, d2, e2, g2, h⟩ := shpsB_cons (w_int Tryz.underlying154 m) h
  have q0 : (y.Name.size + 1) ≤ c0 := shpB_str Tryz.underlying9 g0
  have q1 : 1 ≤ c1 := shpB_one g1
  have q2 : 1 ≤ c2 := shpB_one g2
  unfold bk_api_StoreDecl
  omega
theorem bkp25 (n : Nat) (x : (List api_StoreDecl)) (b : Nat) (h : ShpB Tryz.prog n 25 [.lst false (.t156 x)] b) : (sumL bk_api_StoreDecl x + 1) ≤ b := by
  obtain ⟨m, f, _, h1, h2⟩ := shpB_sl Tryz.underlying25 h
  have := bulk_rows (row := row156) (Q := ShpB Tryz.prog m 156) (g := bk_api_StoreDecl) (fun y b h => bkp156 _ y b h) (l := x) (f := f) h2
  change sumTo f x.length + 1 ≤ b at h1
  omega
theorem bkp160 (n : Nat) (y : api_BeltDecl) (b : Nat) (h : ShpB Tryz.prog n 160 (enapi_BeltDecl y) b) : bk_api_BeltDecl y ≤ b := by
  obtain ⟨m, b0, _, hb, h⟩ := shpB_st Tryz.underlying160 h
  change ShpsB (ShpB Tryz.prog m) [9, 3, 3] (enapi_BeltDecl y) b0 at h
  obtain ⟨c0, d0, e0, g0, h⟩ := shpsB_cons (w_str Tryz.underlying9 m) h
  obtain ⟨c1, d1, e1, g1, h⟩ := shpsB_cons (w_int Tryz.underlying3 m) h
  obtain ⟨c2, d2, e2, g2, h⟩ := shpsB_cons (w_int Tryz.underlying3 m) h
  have q0 : (y.Name.size + 1) ≤ c0 := shpB_str Tryz.underlying9 g0
  have q1 : 1 ≤ c1 := shpB_one g1
  have q2 : 1 ≤ c2 := shpB_one g2
  unfold bk_api_BeltDecl
  omega
theorem bkp26 (n : Nat) (x : (List api_BeltDecl)) (b : Nat) (h : ShpB Tryz.prog n 26 [.lst false (.t160 x)] b) : (sumL bk_api_BeltDecl x + 1) ≤ b := by
  obtain ⟨m, f, _, h1, h2⟩ := shpB_sl Tryz.underlying26 h
  have := bulk_rows (row := row160) (Q := ShpB Tryz.prog m 160) (g := bk_api_BeltDecl) (fun y b h => bkp160 _ y b h) (l := x) (f := f) h2
  change sumTo f x.length + 1 ≤ b at h1
  omega
theorem bkp27 (n : Nat) (x : (List ByteArray)) (b : Nat) (h : ShpB Tryz.prog n 27 [.lst false (.t9 x)] b) : (sumL (fun (z : ByteArray) => (z.size + 1)) x + 1) ≤ b := by
  obtain ⟨m, f, _, h1, h2⟩ := shpB_sl Tryz.underlying27 h
  have := bulk_rows (row := row9) (Q := ShpB Tryz.prog m 9) (g := (fun (z : ByteArray) => (z.size + 1))) (fun y b h => shpB_str Tryz.underlying9 h) (l := x) (f := f) h2
  change sumTo f x.length + 1 ≤ b at h1
  omega
theorem bkg38 : ∀ n, (∀ (y : api_Expr) (b : Nat), ShpB Tryz.prog n 38 (enapi_Expr y) b → bk_api_Expr y ≤ b) := by
  intro n
  induction n using Nat.strongRecOn with
  | _ n ih =>
  refine ?_
  · intro y b h
    obtain ⟨m, b0, hm, hb, h⟩ := shpB_st Tryz.underlying38 h
    change ShpsB (ShpB Tryz.prog m) [35, 9, 3, 36] (enapi_Expr y) b0 at h
    rw [bk_api_Expr_eq]
    cases y with
    | mk a0 a1 a2 a3 =>
    obtain ⟨c0, d0, e0, g0, h⟩ := shpsB_cons (w_int Tryz.underlying35 m) h
    obtain ⟨c1, d1, e1, g1, h⟩ := shpsB_cons (w_str Tryz.underlying9 m) h
    obtain ⟨c2, d2, e2, g2, h⟩ := shpsB_cons (w_int Tryz.underlying3 m) h
    obtain ⟨c3, d3, e3, g3, h⟩ := shpsB_cons (w_sl Tryz.underlying36 m) h
    have q0 : 1 ≤ c0 := shpB_one g0
    have q1 : (a1.size + 1) ≤ c1 := shpB_str Tryz.underlying9 g1
    have q2 : 1 ≤ c2 := shpB_one g2
    have q3 : sumL bk_api_Expr a3 + 1 ≤ c3 := by
      obtain ⟨m2, f, hm2, h1, h2⟩ := shpB_sl Tryz.underlying36 g3
      have := bulk_rows (row := row38) (Q := ShpB Tryz.prog m2 38) (g := bk_api_Expr) (fun y b h => (ih m2 (by omega)) y b h) (l := a3) (f := f) h2
      change sumTo f a3.length + 1 ≤ c3 at h1
      omega
    simp only [api_Expr.Op, api_Expr.Name, api_Expr.N, api_Expr.Kids]
    omega
theorem bkp38 (n : Nat) (y : api_Expr) (b : Nat) (h : ShpB Tryz.prog n 38 (enapi_Expr y) b) : bk_api_Expr y ≤ b := (bkg38 n) y b h
theorem bkp36 (n : Nat) (x : (List api_Expr)) (b : Nat) (h : ShpB Tryz.prog n 36 [.lst false (.t38 x)] b) : (sumL bk_api_Expr x + 1) ≤ b := by
  obtain ⟨m, f, _, h1, h2⟩ := shpB_sl Tryz.underlying36 h
  have := bulk_rows (row := row38) (Q := ShpB Tryz.prog m 38) (g := bk_api_Expr) (fun y b h => bkp38 _ y b h) (l := x) (f := f) h2
  change sumTo f x.length + 1 ≤ b at h1
  omega
theorem bkg82 : ∀ n, (∀ (y : api_Stmt) (b : Nat), ShpB Tryz.prog n 82 (enapi_Stmt y) b → bk_api_Stmt y ≤ b) := by
  intro n
  induction n using Nat.strongRecOn with
  | _ n ih =>
  refine ?_
  · intro y b h
    obtain ⟨m, b0, hm, hb, h⟩ := shpB_st Tryz.underlying82 h
    change ShpsB (ShpB Tryz.prog m) [76, 9, 9, 38, 38, 36, 80, 4, 52, 52] (enapi_Stmt y) b0 at h
    rw [bk_api_Stmt_eq]
    cases y with
    | mk a0 a1 a2 a3 a4 a5 a6 a7 a8 a9 =>
    obtain ⟨c0, d0, e0, g0, h⟩ := shpsB_cons (w_int Tryz.underlying76 m) h
    obtain ⟨c1, d1, e1, g1, h⟩ := shpsB_cons (w_str Tryz.underlying9 m) h
    obtain ⟨c2, d2, e2, g2, h⟩ := shpsB_cons (w_str Tryz.underlying9 m) h
    obtain ⟨c3, d3, e3, g3, h⟩ := shpsB_cons (w38 m) h
    obtain ⟨c4, d4, e4, g4, h⟩ := shpsB_cons (w38 m) h
    obtain ⟨c5, d5, e5, g5, h⟩ := shpsB_cons (w_sl Tryz.underlying36 m) h
    obtain ⟨c6, d6, e6, g6, h⟩ := shpsB_cons (w80 m) h
    obtain ⟨c7, d7, e7, g7, h⟩ := shpsB_cons (w_bool Tryz.underlying4 m) h
    obtain ⟨c8, d8, e8, g8, h⟩ := shpsB_cons (w_sl Tryz.underlying52 m) h
    obtain ⟨c9, d9, e9, g9, h⟩ := shpsB_cons (w_sl Tryz.underlying52 m) h
    have q0 : 1 ≤ c0 := shpB_one g0
    have q1 : (a1.size + 1) ≤ c1 := shpB_str Tryz.underlying9 g1
    have q2 : (a2.size + 1) ≤ c2 := shpB_str Tryz.underlying9 g2
    have q3 : bk_api_Expr a3 ≤ c3 := bkp38 m _ _ g3
    have q4 : bk_api_Expr a4 ≤ c4 := bkp38 m _ _ g4
    have q5 : (sumL bk_api_Expr a5 + 1) ≤ c5 := bkp36 m _ _ g5
    have q6 : bk_api_Dist a6 ≤ c6 := bkp80 m _ _ g6
    have q7 : 1 ≤ c7 := shpB_one g7
    have q8 : sumL bk_api_Stmt a8 + 1 ≤ c8 := by
      obtain ⟨m2, f, hm2, h1, h2⟩ := shpB_sl Tryz.underlying52 g8
      have := bulk_rows (row := row82) (Q := ShpB Tryz.prog m2 82) (g := bk_api_Stmt) (fun y b h => (ih m2 (by omega)) y b h) (l := a8) (f := f) h2
      change sumTo f a8.length + 1 ≤ c8 at h1
      omega
    have q9 : sumL bk_api_Stmt a9 + 1 ≤ c9 := by
      obtain ⟨m2, f, hm2, h1, h2⟩ := shpB_sl Tryz.underlying52 g9
      have := bulk_rows (row := row82) (Q := ShpB Tryz.prog m2 82) (g := bk_api_Stmt) (fun y b h => (ih m2 (by omega)) y b h) (l := a9) (f := f) h2
      change sumTo f a9.length + 1 ≤ c9 at h1
      omega
    simp only [api_Stmt.Op, api_Stmt.Name, api_Stmt.Of, api_Stmt.E, api_Stmt.F, api_Stmt.Args, api_Stmt.Dist, api_Stmt.Flag, api_Stmt.Body, api_Stmt.Else]
    omega
theorem bkp82 (n : Nat) (y : api_Stmt) (b : Nat) (h : ShpB Tryz.prog n 82 (enapi_Stmt y) b) : bk_api_Stmt y ≤ b := (bkg82 n) y b h
theorem bkp52 (n : Nat) (x : (List api_Stmt)) (b : Nat) (h : ShpB Tryz.prog n 52 [.lst false (.t82 x)] b) : (sumL bk_api_Stmt x + 1) ≤ b := by
  obtain ⟨m, f, _, h1, h2⟩ := shpB_sl Tryz.underlying52 h
  have := bulk_rows (row := row82) (Q := ShpB Tryz.prog m 82) (g := bk_api_Stmt) (fun y b h => bkp82 _ y b h) (l := x) (f := f) h2
  change sumTo f x.length + 1 ≤ b at h1
  omega
theorem bkp74 (n : Nat) (y : api_Routine) (b : Nat) (h : ShpB Tryz.prog n 74 (enapi_Routine y) b) : bk_api_Routine y ≤ b := by
  obtain ⟨m, b0, _, hb, h⟩ := shpB_st Tryz.underlying74 h
  change ShpsB (ShpB Tryz.prog m) [9, 23, 23, 52] (enapi_Routine y) b0 at h
  obtain ⟨c0, d0, e0, g0, h⟩ := shpsB_cons (w_str Tryz.underlying9 m) h
  obtain ⟨c1, d1, e1, g1, h⟩ := shpsB_cons (w_sl Tryz.underlying23 m) h
  obtain ⟨c2, d2, e2, g2, h⟩ := shpsB_cons (w_sl Tryz.underlying23 m) h
  obtain ⟨c3, d3, e3, g3, h⟩ := shpsB_cons (w_sl Tryz.underlying52 m) h
  have q0 : (y.Name.size + 1) ≤ c0 := shpB_str Tryz.underlying9 g0
  have q1 : (sumL bk_api_Field y.Params + 1) ≤ c1 := bkp23 m _ _ g1
  have q2 : (sumL bk_api_Field y.Locals + 1) ≤ c2 := bkp23 m _ _ g2
  have q3 : (sumL bk_api_Stmt y.Body + 1) ≤ c3 := bkp52 m _ _ g3
  unfold bk_api_Routine
  omega
theorem bkp28 (n : Nat) (x : (List api_Routine)) (b : Nat) (h : ShpB Tryz.prog n 28 [.lst false (.t74 x)] b) : (sumL bk_api_Routine x + 1) ≤ b := by
  obtain ⟨m, f, _, h1, h2⟩ := shpB_sl Tryz.underlying28 h
  have := bulk_rows (row := row74) (Q := ShpB Tryz.prog m 74) (g := bk_api_Routine) (fun y b h => bkp74 _ y b h) (l := x) (f := f) h2
  change sumTo f x.length + 1 ≤ b at h1
  omega
theorem bkp166 (n : Nat) (y : api_Start) (b : Nat) (h : ShpB Tryz.prog n 166 (enapi_Start y) b) : bk_api_Start y ≤ b := by
  obtain ⟨m, b0, _, hb, h⟩ := shpB_st Tryz.underlying166 h
  change ShpsB (ShpB Tryz.prog m) [9, 78, 3, 3, 3] (enapi_Start y) b0 at h
  obtain ⟨c0, d0, e0, g0, h⟩ := shpsB_cons (w_str Tryz.underlying9 m) h
  obtain ⟨c1, d1, e1, g1, h⟩ := shpsB_cons (w_sl Tryz.underlying78 m) h
  obtain ⟨c2, d2, e2, g2, h⟩ := shpsB_cons (w_int Tryz.underlying3 m) h
  obtain ⟨c3, d3, e3, g3, h⟩ := shpsB_cons (w_int Tryz.underlying3 m) h
  obtain ⟨c4, d4, e4, g4, h⟩ := shpsB_cons (w_int Tryz.underlying3 m) h
  have q0 : (y.Routine.size + 1) ≤ c0 := shpB_str Tryz.underlying9 g0
  have q1 : (sumL (fun (z : Int) => 1) y.Args + 1) ≤ c1 := bkp78 m _ _ g1
  have q2 : 1 ≤ c2 := shpB_one g2
  have q3 : 1 ≤ c3 := shpB_one g3
  have q4 : 1 ≤ c4 := shpB_one g4
  unfold bk_api_Start
  omega
theorem bkp29 (n : Nat) (x : (List api_Start)) (b : Nat) (h : ShpB Tryz.prog n 29 [.lst false (.t166 x)] b) : (sumL bk_api_Start x + 1) ≤ b := by
  obtain ⟨m, f, _, h1, h2⟩ := shpB_sl Tryz.underlying29 h
  have := bulk_rows (row := row166) (Q := ShpB Tryz.prog m 166) (g := bk_api_Start) (fun y b h => bkp166 _ y b h) (l := x) (f := f) h2
  change sumTo f x.length + 1 ≤ b at h1
  omega
theorem bkp234 (n : Nat) (y : api_Term) (b : Nat) (h : ShpB Tryz.prog n 234 (enapi_Term y) b) : bk_api_Term y ≤ b := by
  obtain ⟨m, b0, _, hb, h⟩ := shpB_st Tryz.underlying234 h
  change ShpsB (ShpB Tryz.prog m) [3, 9, 9] (enapi_Term y) b0 at h
  obtain ⟨c0, d0, e0, g0, h⟩ := shpsB_cons (w_int Tryz.underlying3 m) h
  obtain ⟨c1, d1, e1, g1, h⟩ := shpsB_cons (w_str Tryz.underlying9 m) h
  obtain ⟨c2, d2, e2, g2, h⟩ := shpsB_cons (w_str Tryz.underlying9 m) h
  have q0 : 1 ≤ c0 := shpB_one g0
  have q1 : (y.What.size + 1) ≤ c1 := shpB_str Tryz.underlying9 g1
  have q2 : (y.Name.size + 1) ≤ c2 := shpB_str Tryz.underlying9 g2
  unfold bk_api_Term
  omega
theorem bkp182 (n : Nat) (x : (List api_Term)) (b : Nat) (h : ShpB Tryz.prog n 182 [.lst false (.t234 x)] b) : (sumL bk_api_Term x + 1) ≤ b := by
  obtain ⟨m, f, _, h1, h2⟩ := shpB_sl Tryz.underlying182 h
  have := bulk_rows (row := row234) (Q := ShpB Tryz.prog m 234) (g := bk_api_Term) (fun y b h => bkp234 _ y b h) (l := x) (f := f) h2
  change sumTo f x.length + 1 ≤ b at h1
  omega
theorem bkp184 (n : Nat) (y : api_Law) (b : Nat) (h : ShpB Tryz.prog n 184 (enapi_Law y) b) : bk_api_Law y ≤ b := by
  obtain ⟨m, b0, _, hb, h⟩ := shpB_st Tryz.underlying184 h
  change ShpsB (ShpB Tryz.prog m) [9, 182, 3] (enapi_Law y) b0 at h
  obtain ⟨c0, d0, e0, g0, h⟩ := shpsB_cons (w_str Tryz.underlying9 m) h
  obtain ⟨c1, d1, e1, g1, h⟩ := shpsB_cons (w_sl Tryz.underlying182 m) h
  obtain ⟨c2, d2, e2, g2, h⟩ := shpsB_cons (w_int Tryz.underlying3 m) h
  have q0 : (y.Name.size + 1) ≤ c0 := shpB_str Tryz.underlying9 g0
  have q1 : (sumL bk_api_Term y.Terms + 1) ≤ c1 := bkp182 m _ _ g1
  have q2 : 1 ≤ c2 := shpB_one g2
  unfold bk_api_Law
  omega
theorem bkp30 (n : Nat) (x : (List api_Law)) (b : Nat) (h : ShpB Tryz.prog n 30 [.lst false (.t184 x)] b) : (sumL bk_api_Law x + 1) ≤ b := by
  obtain ⟨m, f, _, h1, h2⟩ := shpB_sl Tryz.underlying30 h
  have := bulk_rows (row := row184) (Q := ShpB Tryz.prog m 184) (g := bk_api_Law) (fun y b h => bkp184 _ y b h) (l := x) (f := f) h2
  change sumTo f x.length + 1 ≤ b at h1
  omega
theorem bkp32 (n : Nat) (y : api_SiteDecl) (b : Nat) (h : ShpB Tryz.prog n 32 (enapi_SiteDecl y) b) : bk_api_SiteDecl y ≤ b := by
  obtain ⟨m, b0, _, hb, h⟩ := shpB_st Tryz.underlying32 h
  change ShpsB (ShpB Tryz.prog m) [9, 22, 24, 25, 26, 27, 27, 27, 27, 27, 28, 29, 30] (enapi_SiteDecl y) b0 at h
  obtain ⟨c0, d0, e0, g0, h⟩ := shpsB_cons (w_str Tryz.underlying9 m) h
  obtain ⟨c1, d1, e1, g1, h⟩ := shpsB_cons (w_sl Tryz.underlying22 m) h
  obtain ⟨c2, d2, e2, g2, h⟩ := shpsB_cons (w_sl Tryz.underlying24 m) h
  obtain ⟨c3, d3, e3, g3, h⟩ := shpsB_cons (w_sl Tryz.underlying25 m) h
  obtain ⟨c4, d4, e4, g4, h⟩ := shpsB_cons (w_sl Tryz.underlying26 m) h
  obtain ⟨c5, d5, e5, g5, h⟩ := shpsB_cons (w_sl Tryz.underlying27 m) h
  obtain ⟨c6, d6, e6, g6, h⟩ := shpsB_cons (w_sl Tryz.underlying27 m) h
  obtain ⟨c7, d7, e7, g7, h⟩ := shpsB_cons (w_sl Tryz.underlying27 m) h
  obtain ⟨c8, d8, e8, g8, h⟩ := shpsB_cons (w_sl Tryz.underlying27 m) h
  obtain ⟨c9, d9, e9, g9, h⟩ := shpsB_cons (w_sl Tryz.underlying27 m) h
  obtain ⟨c10, d10, e10, g10, h⟩ := shpsB_cons (w_sl Tryz.underlying28 m) h
  obtain ⟨c11, d11, e11, g11, h⟩ := shpsB_cons (w_sl Tryz.underlying29 m) h
  obtain ⟨c12, d12, e12, g12, h⟩ := shpsB_cons (w_sl Tryz.underlying30 m) h
  have q0 : (y.Name.size + 1) ≤ c0 := shpB_str Tryz.underlying9 g0
  have q1 : (sumL bk_api_Value y.Vars + 1) ≤ c1 := bkp22 m _ _ g1
  have q2 : (sumL bk_api_ResourceDecl y.Resources + 1) ≤ c2 := bkp24 m _ _ g2
  have q3 : (sumL bk_api_StoreDecl y.Stores + 1) ≤ c3 := bkp25 m _ _ g3
  have q4 : (sumL bk_api_BeltDecl y.Belts + 1) ≤ c4 := bkp26 m _ _ g4
  have q5 : (sumL (fun (z : ByteArray) => (z.size + 1)) y.Queues + 1) ≤ c5 := bkp27 m _ _ g5
  have q6 : (sumL (fun (z : ByteArray) => (z.size + 1)) y.Streams + 1) ≤ c6 := bkp27 m _ _ g6
  have q7 : (sumL (fun (z : ByteArray) => (z.size + 1)) y.Tallies + 1) ≤ c7 := bkp27 m _ _ g7
  have q8 : (sumL (fun (z : ByteArray) => (z.size + 1)) y.Levels + 1) ≤ c8 := bkp27 m _ _ g8
  have q9 : (sumL (fun (z : ByteArray) => (z.size + 1)) y.Counts + 1) ≤ c9 := bkp27 m _ _ g9
  have q10 : (sumL bk_api_Routine y.Routines + 1) ≤ c10 := bkp28 m _ _ g10
  have q11 : (sumL bk_api_Start y.Starts + 1) ≤ c11 := bkp29 m _ _ g11
  have q12 : (sumL bk_api_Law y.Laws + 1) ≤ c12 := bkp30 m _ _ g12
  unfold bk_api_SiteDecl
  omega
theorem bkp34 (n : Nat) (y : api_Env) (b : Nat) (h : ShpB Tryz.prog n 34 (enapi_Env y) b) : bk_api_Env y ≤ b := by
  obtain ⟨m, b0, _, hb, h⟩ := shpB_st Tryz.underlying34 h
  change ShpsB (ShpB Tryz.prog m) [22, 23, 32] (enapi_Env y) b0 at h
  obtain ⟨c0, d0, e0, g0, h⟩ := shpsB_cons (w_sl Tryz.underlying22 m) h
  obtain ⟨c1, d1, e1, g1, h⟩ := shpsB_cons (w_sl Tryz.underlying23 m) h
  obtain ⟨c2, d2, e2, g2, h⟩ := shpsB_cons (w32 m) h
  have q0 : (sumL bk_api_Value y.Params + 1) ≤ c0 := bkp22 m _ _ g0
  have q1 : (sumL bk_api_Field y.Locals + 1) ≤ c1 := bkp23 m _ _ g1
  have q2 : bk_api_SiteDecl y.Site ≤ c2 := bkp32 m _ _ g2
  unfold bk_api_Env
  omega
theorem bkp63 (n : Nat) (y : L14_Swap) (b : Nat) (h : ShpB Tryz.prog n 63 (enL14_Swap y) b) : bk_L14_Swap y ≤ b := by
  obtain ⟨m, b0, _, hb, h⟩ := shpB_st Tryz.underlying63 h
  change ShpsB (ShpB Tryz.prog m) [38, 38, 9] (enL14_Swap y) b0 at h
  obtain ⟨c0, d0, e0, g0, h⟩ := shpsB_cons (w38 m) h
  obtain ⟨c1, d1, e1, g1, h⟩ := shpsB_cons (w38 m) h
  obtain ⟨c2, d2, e2, g2, h⟩ := shpsB_cons (w_str Tryz.underlying9 m) h
  have q0 : bk_api_Expr y.E ≤ c0 := bkp38 m _ _ g0
  have q1 : bk_api_Expr y.By ≤ c1 := bkp38 m _ _ g1
  have q2 : (y.Name.size + 1) ≤ c2 := shpB_str Tryz.underlying9 g2
  unfold bk_L14_Swap
  omega
end Go.Proofs.YtcbandfdmbkokaaGreat.Ev
