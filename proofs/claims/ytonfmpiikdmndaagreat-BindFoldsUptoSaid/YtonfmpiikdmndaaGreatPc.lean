/-  Chapter 9, plainly: expressions of the program. -/
import Derived.Test.YtonfmpiikdmndaaGreatQ1
import Derived.Test.YtonfmpiikdmndaaGreatPb
import Derived.Test.YtonfmpiikdmndaaGreatR0
namespace Go.Proofs.YtonfmpiikdmndaaGreat.Ev
open Go
set_option maxRecDepth 100000
set_option linter.unusedVariables false
set_option linter.unusedSimpArgs false
set_option linter.unnecessarySimpa false
mutual
def dE : api_Expr → Nat
  | .mk _ _ _ k => dEs k + 1
def dEs : List api_Expr → Nat
  | [] => 0
  | x :: k => max (dE x) (dEs k)
end
theorem dEs_mem {x : api_Expr} {k : List api_Expr} (h : x ∈ k) : dE x ≤ dEs k := by
  induction k with
  | nil => cases h
  | cons a k ih =>
    rw [dEs]
    rcases List.mem_cons.1 h with rfl | h
    · omega
    · have := ih h; omega
mutual
def nodesE : api_Expr → Int
  | .mk _ _ _ k => nodesL k 1
def nodesL : List api_Expr → Int → Int
  | [], n => n
  | x :: k, n => nodesL k (w64 (n + nodesE x))
end
mutual
def depthE : api_Expr → Int
  | .mk _ _ _ k => w64 (depthL k 0 + 1)
def depthL : List api_Expr → Int → Int
  | [], n => n
  | x :: k, n => depthL k (if depthE x > n then depthE x else n)
end
def arity (op : Int) : Int :=
  if op = 1 ∨ op = 2 ∨ op = 3 ∨ op = 4 then 0 else if 5 ≤ op ∧ op ≤ 8 then 1 else if 9 ≤ op ∧ op ≤ 21 then 2 else if 22 ≤ op ∧ op ≤ 26 then 0 else -1
def objOp (op : Int) : Bool := decide (22 ≤ op) && decide (op ≤ 24)
def inZ (n : Int) : Bool := decide (-1000000000000 ≤ n) && decide (n ≤ 1000000000000)
def knownOp (c : Bool) (op : Int) : Bool := if op = 3 then !c else if op = 25 ∨ op = 26 then c else decide (0 ≤ arity op)
def namedOp (c : Bool) (op : Int) : Bool := op == 3 || (objOp op && !c)
/-- the greatest number of a form that has one -/
def mostOp (c : Bool) (op : Int) : Option Int := if op = 2 then some 1 else if op = 25 then some 15 else if op = 26 then some 31 else if objOp op && c then some 63 else none
def badForm (c : Bool) (e : api_Expr) : Bool := !knownOp c e.Op || decide ((e.Kids.length : Int) ≠ arity e.Op) || (!decide (e.Name = ⟨#[]⟩) && !namedOp c e.Op)
def nodeE (c : Bool) (e : api_Expr) : Int :=
  if badForm c e = true then 1
  else if e.Op = 1 then (if inZ e.N then 0 else 2)
  else match mostOp c e.Op with
    | none => if e.N ≠ 0 then 1 else if namedOp c e.Op then nameE e.Name else 0
    | some hi => if e.N < 0 ∨ hi < e.N then 2 else if namedOp c e.Op then nameE e.Name else 0
mutual
def chkE (c : Bool) : api_Expr → Int
  | .mk op nm n k => if nodeE c (.mk op nm n k) ≠ 0 then nodeE c (.mk op nm n k) else chkL c k
def chkL (c : Bool) : List api_Expr → Int
  | [] => 0
  | x :: k => if chkE c x ≠ 0 then chkE c x else chkL c k
end
/-- what Check and CheckCode say -/
def checkE (c : Bool) (e : api_Expr) : Int := if nodesE e > 60 then 6 else if depthE e > 12 then 11 else chkE c e
theorem opCases (op : Int) : op = 1 ∨ op = 2 ∨ op = 3 ∨ op = 4 ∨ op = 5 ∨ op = 6 ∨ op = 7 ∨ op = 8 ∨ op = 9 ∨ op = 10 ∨ op = 11 ∨ op = 12 ∨ op = 13 ∨ op = 14 ∨ op = 15 ∨ op = 16 ∨ op = 17 ∨ op = 18 ∨ op = 19 ∨ op = 20 ∨ op = 21 ∨ op = 22 ∨ op = 23 ∨ op = 24 ∨ op = 25 ∨ op = 26 ∨ op < 1 ∨ 26 < op := by omega
theorem ok_expr_kids (L : Nat) (op : Int) : F_expr_kids L op = some (arity op) := by
  simp only [T_expr_kids, F_expr_kids, anO_bd, anO_fl, anO_cn, anO_gd, anO_fk, anO_sl, anO_lf, anO_jb, anO_jp, anO_ap, anO_nj, arity, band_c, bor_c, cond_ss]
  congr 1
  grind
theorem ok_expr_object (L : Nat) (op : Int) : F_expr_object L op = some (objOp op) := by
  simp only [T_expr_object, F_expr_object, anO_bd, anO_fl, anO_cn, anO_gd, anO_fk, anO_sl, anO_lf, anO_jb, anO_jp, anO_ap, anO_nj, objOp, band_c]
theorem ok_expr_kind_known (L : Nat) (k : expr_kind) (op : Int) : F_expr_kind_known L k op = some (knownOp k.u_code op) := by
  simp only [T_expr_kind_known, F_expr_kind_known, anO_bd, anO_fl, anO_cn, anO_gd, anO_fk, anO_sl, anO_lf, anO_jb, anO_jp, anO_ap, anO_nj, knownOp, ok_expr_kids, Option.bind_some, cond_ss]
  congr 1
  grind
theorem ok_expr_kind_named (L : Nat) (k : expr_kind) (op : Int) : F_expr_kind_named L k op = some (namedOp k.u_code op) := by
  simp only [T_expr_kind_named, F_expr_kind_named, anO_bd, anO_fl, anO_cn, anO_gd, anO_fk, anO_sl, anO_lf, anO_jb, anO_jp, anO_ap, anO_nj, namedOp, ok_expr_object, Option.bind_some, cond_ss, bor_c, band_c]
theorem ok_num_In (L : Nat) (n : Int) : F_num_In L n = some (inZ n) := by
  simp only [T_num_In, F_num_In, anO_bd, anO_fl, anO_cn, anO_gd, anO_fk, anO_sl, anO_lf, anO_jb, anO_jp, anO_ap, anO_nj, inZ, band_c]
theorem ok_expr_kind_numbers (L : Nat) (k : expr_kind) (op : Int) : F_expr_kind_numbers L k op = some (match mostOp k.u_code op with | some hi => (0, hi, true) | none => (0, 0, false)) := by
  simp only [T_expr_kind_numbers, F_expr_kind_numbers, anO_bd, anO_fl, anO_cn, anO_gd, anO_fk, anO_sl, anO_lf, anO_jb, anO_jp, anO_ap, anO_nj, mostOp, ok_expr_object, Option.bind_some, cond_ss, band_c]
  congr 1
  grind
theorem ok_expr_kind_node (L : Nat) (k : expr_kind) (e : api_Expr) (hn : okS e.Name) (hL : e.Name.size < L) : F_expr_kind_node L k e = some (nodeE k.u_code e) := by
  simp only [T_expr_kind_node, F_expr_kind_node, anO_bd, anO_fl, anO_cn, anO_gd, anO_fk, anO_sl, anO_lf, anO_jb, anO_jp, anO_ap, anO_nj, ok_expr_kind_known, ok_expr_kids, ok_expr_kind_named, ok_num_In, ok_expr_kind_numbers, Option.bind_some, ok_names_Check L e.Name hn hL, cond_ss, str_eq, band_c, bor_c, nodeE, badForm]
  congr 1
  cases mostOp k.u_code e.Op <;> grind
theorem q_expr_Nodes_1 (rec81 : api_Expr → Option Int) (L : Nat) (a0 : api_Expr) : ∀ (k : List api_Expr) (i : Nat) (v : Int), (∀ x ∈ k, rec81 x = some (nodesE x)) → ∃ j, lq_expr_Nodes_1 rec81 L a0 k i v = some (0, (nodesL k v, j)) := by
  intro k
  induction k with
  | nil => intro i v _; exact ⟨_, rfl⟩
  | cons x k ih =>
    intro i v h
    obtain ⟨j, hj⟩ := ih (i + 1) (w64 (v + nodesE x)) fun y hy => h y (by simp [hy])
    exact ⟨j, by simp only [lq_expr_Nodes_1, h x (by simp), Option.bind_some, hj, nodesL]⟩
theorem ok_expr_Nodes {e : api_Expr} (h : Ok_api_Expr e) : ∀ L, maxLen + dE e < L → F_expr_Nodes L e = some (nodesE e) := by
  induction h with
  | mk a0 a1 a2 a3 h0 h1 h2 h3 h4 ih =>
    intro L hL
    obtain ⟨L, rfl⟩ : ∃ k, L = k + 1 := ⟨L - 1, by omega⟩
    rw [dE] at hL
    have hr : ∀ x ∈ a3, F_expr_Nodes L x = some (nodesE x) := fun x hx => ih x hx L (by have := dEs_mem hx; omega)
    obtain ⟨j, hj⟩ := q_expr_Nodes_1 (F_expr_Nodes L) L (.mk a0 a1 a2 a3) a3 0 1 hr
    simp only [T_expr_Nodes, B_expr_Nodes, F_expr_Nodes, anO_bd, anO_fl, anO_cn, anO_gd, anO_fk, anO_sl, anO_lf, anO_jb, anO_jp, anO_ap, anO_nj, api_Expr.cp_eq, api_Expr.Op, api_Expr.Name, api_Expr.N, api_Expr.Kids, api_Expr.eta, lq0_expr_Nodes_1 _ _ (.mk a0 a1 a2 a3) _ h3 (show a3.length < L by omega), hj, Option.bind_some, sel0, nodesE]
theorem q_expr_Depth_1 (rec82 : api_Expr → Option Int) (L : Nat) (a0 : api_Expr) : ∀ (k : List api_Expr) (i : Nat) (v : Int), (∀ x ∈ k, rec82 x = some (depthE x)) → ∃ j, lq_expr_Depth_1 rec82 L a0 k i v = some (0, (depthL k v, j)) := by
  intro k
  induction k with
  | nil => intro i v _; exact ⟨_, rfl⟩
  | cons x k ih =>
    intro i v h
    obtain ⟨j, hj⟩ := ih (i + 1) (if depthE x > v then depthE x else v) fun y hy => h y (by simp [hy])
    exact ⟨j, by simp only [lq_expr_Depth_1, h x (by simp), Option.bind_some, hj, depthL]⟩
theorem ok_expr_Depth {e : api_Expr} (h : Ok_api_Expr e) : ∀ L, maxLen + dE e < L → F_expr_Depth L e = some (depthE e) := by
  induction h with
  | mk a0 a1 a2 a3 h0 h1 h2 h3 h4 ih =>
    intro L hL
    obtain ⟨L, rfl⟩ : ∃ k, L = k + 1 := ⟨L - 1, by omega⟩
    rw [dE] at hL
    have hr : ∀ x ∈ a3, F_expr_Depth L x = some (depthE x) := fun x hx => ih x hx L (by have := dEs_mem hx; omega)
    obtain ⟨j, hj⟩ := q_expr_Depth_1 (F_expr_Depth L) L (.mk a0 a1 a2 a3) a3 0 0 hr
    simp only [T_expr_Depth, B_expr_Depth, F_expr_Depth, anO_bd, anO_fl, anO_cn, anO_gd, anO_fk, anO_sl, anO_lf, anO_jb, anO_jp, anO_ap, anO_nj, api_Expr.cp_eq, api_Expr.Op, api_Expr.Name, api_Expr.N, api_Expr.Kids, api_Expr.eta, lq0_expr_Depth_1 _ _ (.mk a0 a1 a2 a3) _ h3 (show a3.length < L by omega), hj, Option.bind_some, sel0, depthE]
theorem q_expr_kind_nodes_1 (rec83 : expr_kind → api_Expr → Option Int) (L : Nat) (a1 : api_Expr) (c : expr_kind) : ∀ (k : List api_Expr) (i : Nat) (v : Int), (∀ x ∈ k, rec83 c x = some (chkE c.u_code x)) → ∃ j, lq_expr_kind_nodes_1 rec83 L a1 c k i v = some (bif chkL c.u_code k != 0 then (0, (chkL c.u_code k, j)) else (1, (v, j))) := by
  intro k
  induction k with
  | nil => intro i v _; exact ⟨i, rfl⟩
  | cons x k ih =>
    intro i v h
    obtain ⟨j, hj⟩ := ih (i + 1) v fun y hy => h y (by simp [hy])
    by_cases hx : chkE c.u_code x = 0
    · exact ⟨j, by simp [lq_expr_kind_nodes_1, h x (by simp), hj, chkL, hx]⟩
    · exact ⟨(i : Int), by simp [lq_expr_kind_nodes_1, h x (by simp), hj, chkL, hx, ne0 hx]⟩
theorem ok_expr_kind_nodes {e : api_Expr} (h : Ok_api_Expr e) (c : expr_kind) : ∀ L, maxLen + dE e < L → F_expr_kind_nodes L c e = some (chkE c.u_code e) := by
  induction h with
  | mk a0 a1 a2 a3 h0 h1 h2 h3 h4 ih =>
    intro L hL
    obtain ⟨L, rfl⟩ : ∃ k, L = k + 1 := ⟨L - 1, by omega⟩
    rw [dE] at hL
    have hr : ∀ x ∈ a3, F_expr_kind_nodes L c x = some (chkE c.u_code x) := fun x hx => ih x hx L (by have := dEs_mem hx; omega)
    obtain ⟨j, hj⟩ := q_expr_kind_nodes_1 (F_expr_kind_nodes L) L (.mk a0 a1 a2 a3) c a3 0 0 hr
    have h1' : a1.size ≤ maxLen := h1
    simp only [T_expr_kind_nodes, B_expr_kind_nodes, F_expr_kind_nodes, anO_bd, anO_fl, anO_cn, anO_gd, anO_fk, anO_sl, anO_lf, anO_jb, anO_jp, anO_ap, anO_nj, api_Expr.cp_eq, api_Expr.Op, api_Expr.Name, api_Expr.N, api_Expr.Kids, api_Expr.eta, ok_expr_kind_node L c (.mk a0 a1 a2 a3) h1 (show a1.size < L by omega), lq0_expr_kind_nodes_1 _ _ (.mk a0 a1 a2 a3) _ _ h3 (show a3.length < L by omega), hj, Option.bind_some, chkE]
    by_cases h : nodeE c.u_code (.mk a0 a1 a2 a3) = 0
    · by_cases h' : chkL c.u_code a3 = 0
      · simp [h, h', sel0, sel1]
      · simp [h, h', sel0, sel1, ne0 h']
    · simp [h, ne0 h]
theorem ok_expr_kind_check {e : api_Expr} (h : Ok_api_Expr e) (c : expr_kind) (L : Nat) (hL : maxLen + dE e < L) : F_expr_kind_check L c e = some (checkE c.u_code e) := by
  simp only [T_expr_kind_check, F_expr_kind_check, anO_bd, anO_fl, anO_cn, anO_gd, anO_fk, anO_sl, anO_lf, anO_jb, anO_jp, anO_ap, anO_nj, api_Expr.cp_eq, ok_expr_Nodes h L hL, ok_expr_Depth h L hL, ok_expr_kind_nodes h c L hL, Option.bind_some, cond_ss, checkE]
  congr 1
  grind
theorem ok_expr_Check {e : api_Expr} (h : Ok_api_Expr e) (L : Nat) (hL : maxLen + dE e < L) : F_expr_Check L e = some (checkE false e) := by
  simp only [T_expr_Check, F_expr_Check, anO_bd, anO_fl, anO_cn, anO_gd, anO_fk, anO_sl, anO_lf, anO_jb, anO_jp, anO_ap, anO_nj, api_Expr.cp_eq, ok_expr_kind_check h _ L hL, Option.bind_some]
end Go.Proofs.YtonfmpiikdmndaaGreat.Ev
