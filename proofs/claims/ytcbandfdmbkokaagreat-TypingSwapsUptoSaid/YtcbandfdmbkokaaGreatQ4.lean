import Derived.Test.YtcbandfdmbkokaaGreatG4
import Derived.Test.YtcbandfdmbkokaaGreatPa
namespace Go.Proofs.YtcbandfdmbkokaaGreat.Ev
open Go
set_option maxRecDepth 100000
set_option linter.unusedVariables false
set_option linter.unusedSimpArgs false
set_option linter.unnecessarySimpa false
def lq_R11_Names_1  (L : Nat) (a0 : api_SiteDecl) : List api_Value → Nat → List ByteArray → Option (Nat × (Int × List ByteArray))
  | [], i, v1_15 => (some (0, ((i : Int), v1_15)))
  | x :: k, i, v1_15 => (if ((0 : Int) ≤ 0) then (if (0 < ((10 : Nat) : Int)) then (if ((v1_15.length + [x.Name].length) * 16 ≤ 140737488355328) then (if (v1_15.length + [x.Name].length ≤ maxLen) then (if ((0 : Int) ≤ 0) then (if (0 < ((10 : Nat) : Int)) then (lq_R11_Names_1 L a0 k (i + 1) (v1_15 ++ [x.Name])) else none) else none) else none) else none) else none) else none)
theorem lqe_R11_Names_1  (L : Nat) (a0 : api_SiteDecl) (hl : a0.Vars.length ≤ maxLen) : ∀ (k : List api_Value) (i n : Nat) (v1_15 : List ByteArray), a0.Vars.drop i = k → k.length < n → lp_R11_Names_1  L a0 n (i : Int) v1_15 = lq_R11_Names_1 L a0 k i v1_15 := by
  intro k
  induction k with
  | nil =>
    intro i n v1_15 hk hn
    obtain ⟨n, rfl⟩ : ∃ m, n = m + 1 := ⟨n - 1, by simp at hn; omega⟩
    simp only [lp_R11_Names_1, lb_R11_Names_1, lq_R11_Names_1, d_ge (drop_nil hk), anO_bd, anO_fl, anO_cn, anO_gd, anO_fk, anO_sl, anO_lf, anO_jb, anO_jp, anO_ap, anO_nj, cond_false]
  | cons x k ih =>
    intro i n v1_15 hk hn
    obtain ⟨n, rfl⟩ : ∃ m, n = m + 1 := ⟨n - 1, by simp at hn; omega⟩
    obtain ⟨hlt, hx, hk'⟩ := drop_cons hk
    have hih := fun v1_15 => ih (i + 1) n v1_15 hk' (by simpa using hn)
    simp only [lp_R11_Names_1, lb_R11_Names_1, lq_R11_Names_1, d_lt hlt, nn, ltI hlt, toN, hx, w64_succ hlt hl, hih, anO_bd, anO_fl, anO_cn, anO_gd, anO_fk, anO_sl, anO_lf, anO_jb, anO_jp, anO_ap, anO_nj, cond_true, if_true, decide_true, api_Expr.eta, api_Expr.cp_eq, api_Stmt.eta, api_Stmt.cp_eq]
theorem lq0_R11_Names_1  (L : Nat) (a0 : api_SiteDecl) (n : Nat) (hl : a0.Vars.length ≤ maxLen) (hn : a0.Vars.length < n) (v1_15 : List ByteArray) : lp_R11_Names_1  L a0 n 0 v1_15 = lq_R11_Names_1 L a0 a0.Vars 0 v1_15 := lqe_R11_Names_1  L a0 hl _ 0 n v1_15 rfl hn

def lq_R11_Names_2  (L : Nat) (a0 : api_SiteDecl) (o1 : Nat × (Int × List ByteArray)) : List api_ResourceDecl → Nat → List ByteArray → Option (Nat × (Int × List ByteArray))
  | [], i, v2_16 => (some (0, ((i : Int), v2_16)))
  | x :: k, i, v2_16 => (if ((0 : Int) ≤ 1) then (if (1 < ((10 : Nat) : Int)) then (if ((v2_16.length + [x.Name].length) * 16 ≤ 140737488355328) then (if (v2_16.length + [x.Name].length ≤ maxLen) then (if ((0 : Int) ≤ 1) then (if (1 < ((10 : Nat) : Int)) then (lq_R11_Names_2 L a0 o1 k (i + 1) (v2_16 ++ [x.Name])) else none) else none) else none) else none) else none) else none)
theorem lqe_R11_Names_2  (L : Nat) (a0 : api_SiteDecl) (o1 : Nat × (Int × List ByteArray)) (hl : a0.Resources.length ≤ maxLen) : ∀ (k : List api_ResourceDecl) (i n : Nat) (v2_16 : List ByteArray), a0.Resources.drop i = k → k.length < n → lp_R11_Names_2  L a0 o1 n (i : Int) v2_16 = lq_R11_Names_2 L a0 o1 k i v2_16 := by
  intro k
  induction k with
  | nil =>
    intro i n v2_16 hk hn
    obtain ⟨n, rfl⟩ : ∃ m, n = m + 1 := ⟨n - 1, by simp at hn; omega⟩
    simp only [lp_R11_Names_2, lb_R11_Names_2, lq_R11_Names_2, d_ge (drop_nil hk), anO_bd, anO_fl, anO_cn, anO_gd, anO_fk, anO_sl, anO_lf, anO_jb, anO_jp, anO_ap, anO_nj, cond_false]
  | cons x k ih =>
    intro i n v2_16 hk hn
    obtain ⟨n, rfl⟩ : ∃ m, n = m + 1 := ⟨n - 1, by simp at hn; omega⟩
    obtain ⟨hlt, hx, hk'⟩ := drop_cons hk
    have hih := fun v2_16 => ih (i + 1) n v2_16 hk' (by simpa using hn)
    simp only [lp_R11_Names_2, lb_R11_Names_2, lq_R11_Names_2, d_lt hlt, nn, ltI hlt, toN, hx, w64_succ hlt hl, hih, anO_bd, anO_fl, anO_cn, anO_gd, anO_fk, anO_sl, anO_lf, anO_jb, anO_jp, anO_ap, anO_nj, cond_true, if_true, decide_true, api_Expr.eta, api_Expr.cp_eq, api_Stmt.eta, api_Stmt.cp_eq]
theorem lq0_R11_Names_2  (L : Nat) (a0 : api_SiteDecl) (o1 : Nat × (Int × List ByteArray)) (n : Nat) (hl : a0.Resources.length ≤ maxLen) (hn : a0.Resources.length < n) (v2_16 : List ByteArray) : lp_R11_Names_2  L a0 o1 n 0 v2_16 = lq_R11_Names_2 L a0 o1 a0.Resources 0 v2_16 := lqe_R11_Names_2  L a0 o1 hl _ 0 n v2_16 rfl hn

def lq_R11_Names_3  (L : Nat) (a0 : api_SiteDecl) (o1 : Nat × (Int × List ByteArray)) (o2 : Nat × (Int × List ByteArray)) : List api_StoreDecl → Nat → List ByteArray → Option (Nat × (Int × List ByteArray))
  | [], i, v3_17 => (some (0, ((i : Int), v3_17)))
  | x :: k, i, v3_17 => (if ((0 : Int) ≤ 2) then (if (2 < ((10 : Nat) : Int)) then (if ((v3_17.length + [x.Name].length) * 16 ≤ 140737488355328) then (if (v3_17.length + [x.Name].length ≤ maxLen) then (if ((0 : Int) ≤ 2) then (if (2 < ((10 : Nat) : Int)) then (lq_R11_Names_3 L a0 o1 o2 k (i + 1) (v3_17 ++ [x.Name])) else none) else none) else none) else none) else none) else none)
theorem lqe_R11_Names_3  (L : Nat) (a0 : api_SiteDecl) (o1 : Nat × (Int × List ByteArray)) (o2 : Nat × (Int × List ByteArray)) (hl : a0.Stores.length ≤ maxLen) : ∀ (k : List api_StoreDecl) (i n : Nat) (v3_17 : List ByteArray), a0.Stores.drop i = k → k.length < n → lp_R11_Names_3  L a0 o1 o2 n (i : Int) v3_17 = lq_R11_Names_3 L a0 o1 o2 k i v3_17 := by
  intro k
  induction k with
  | nil =>
    intro i n v3_17 hk hn
    obtain ⟨n, rfl⟩ : ∃ m, n = m + 1 := ⟨n - 1, by simp at hn; omega⟩
    simp only [lp_R11_Names_3, lb_R11_Names_3, lq_R11_Names_3, d_ge (drop_nil hk), anO_bd, anO_fl, anO_cn, anO_gd, anO_fk, anO_sl, anO_lf, anO_jb, anO_jp, anO_ap, anO_nj, cond_false]
  | cons x k ih =>
    intro i n v3_17 hk hn
    obtain ⟨n, rfl⟩ : ∃ m, n = m + 1 := ⟨n - 1, by simp at hn; omega⟩
    obtain ⟨hlt, hx, hk'⟩ := drop_cons hk
    have hih := fun v3_17 => ih (i + 1) n v3_17 hk' (by simpa using hn)
    simp only [lp_R11_Names_3, lb_R11_Names_3, lq_R11_Names_3, d_lt hlt, nn, ltI hlt, toN, hx, w64_succ hlt hl, hih, anO_bd, anO_fl, anO_cn, anO_gd, anO_fk, anO_sl, anO_lf, anO_jb, anO_jp, anO_ap, anO_nj, cond_true, if_true, decide_true, api_Expr.eta, api_Expr.cp_eq, api_Stmt.eta, api_Stmt.cp_eq]
theorem lq0_R11_Names_3  (L : Nat) (a0 : api_SiteDecl) (o1 : Nat × (Int × List ByteArray)) (o2 : Nat × (Int × List ByteArray)) (n : Nat) (hl : a0.Stores.length ≤ maxLen) (hn : a0.Stores.length < n) (v3_17 : List ByteArray) : lp_R11_Names_3  L a0 o1 o2 n 0 v3_17 = lq_R11_Names_3 L a0 o1 o2 a0.Stores 0 v3_17 := lqe_R11_Names_3  L a0 o1 o2 hl _ 0 n v3_17 rfl hn

def lq_R11_Names_4  (L : Nat) (a0 : api_SiteDecl) (o1 : Nat × (Int × List ByteArray)) (o2 : Nat × (Int × List ByteArray)) (o3 : Nat × (Int × List ByteArray)) : List api_BeltDecl → Nat → List ByteArray → Option (Nat × (Int × List ByteArray))
  | [], i, v4_18 => (some (0, ((i : Int), v4_18)))
  | x :: k, i, v4_18 => (if ((0 : Int) ≤ 3) then (if (3 < ((10 : Nat) : Int)) then (if ((v4_18.length + [x.Name].length) * 16 ≤ 140737488355328) then (if (v4_18.length + [x.Name].length ≤ maxLen) then (if ((0 : Int) ≤ 3) then (if (3 < ((10 : Nat) : Int)) then (lq_R11_Names_4 L a0 o1 o2 o3 k (i + 1) (v4_18 ++ [x.Name])) else none) else none) else none) else none) else none) else none)
theorem lqe_R11_Names_4  (L : Nat) (a0 : api_SiteDecl) (o1 : Nat × (Int × List ByteArray)) (o2 : Nat × (Int × List ByteArray)) (o3 : Nat × (Int × List ByteArray)) (hl : a0.Belts.length ≤ maxLen) : ∀ (k : List api_BeltDecl) (i n : Nat) (v4_18 : List ByteArray), a0.Belts.drop i = k → k.length < n → lp_R11_Names_4  L a0 o1 o2 o3 n (i : Int) v4_18 = lq_R11_Names_4 L a0 o1 o2 o3 k i v4_18 := by
  intro k
  induction k with
  | nil =>
    intro i n v4_18 hk hn
    obtain ⟨n, rfl⟩ : ∃ m, n = m + 1 := ⟨n - 1, by simp at hn; omega⟩
    simp only [lp_R11_Names_4, lb_R11_Names_4, lq_R11_Names_4, d_ge (drop_nil hk), anO_bd, anO_fl, anO_cn, anO_gd, anO_fk, anO_sl, anO_lf, anO_jb, anO_jp, anO_ap, anO_nj, cond_false]
  | cons x k ih =>
    intro i n v4_18 hk hn
    obtain ⟨n, rfl⟩ : ∃ m, n = m + 1 := ⟨n - 1, by simp at hn; omega⟩
    obtain ⟨hlt, hx, hk'⟩ := drop_cons hk
    have hih := fun v4_18 => ih (i + 1) n v4_18 hk' (by simpa using hn)
    simp only [lp_R11_Names_4, lb_R11_Names_4, lq_R11_Names_4, d_lt hlt, nn, ltI hlt, toN, hx, w64_succ hlt hl, hih, anO_bd, anO_fl, anO_cn, anO_gd, anO_fk, anO_sl, anO_lf, anO_jb, anO_jp, anO_ap, anO_nj, cond_true, if_true, decide_true, api_Expr.eta, api_Expr.cp_eq, api_Stmt.eta, api_Stmt.cp_eq]
theorem lq0_R11_Names_4  (L : Nat) (a0 : api_SiteDecl) (o1 : Nat × (Int × List ByteArray)) (o2 : Nat × (Int × List ByteArray)) (o3 : Nat × (Int × List ByteArray)) (n : Nat) (hl : a0.Belts.length ≤ maxLen) (hn : a0.Belts.length < n) (v4_18 : List ByteArray) : lp_R11_Names_4  L a0 o1 o2 o3 n 0 v4_18 = lq_R11_Names_4 L a0 o1 o2 o3 a0.Belts 0 v4_18 := lqe_R11_Names_4  L a0 o1 o2 o3 hl _ 0 n v4_18 rfl hn

def lq_R11_Names_5  (L : Nat) (a0 : api_SiteDecl) (o1 : Nat × (Int × List ByteArray)) (o2 : Nat × (Int × List ByteArray)) (o3 : Nat × (Int × List ByteArray)) (o4 : Nat × (Int × List ByteArray)) : List api_Routine → Nat → List ByteArray → Option (Nat × (Int × List ByteArray))
  | [], i, v5_24 => (some (0, ((i : Int), v5_24)))
  | x :: k, i, v5_24 => (if ((0 : Int) ≤ 9) then (if (9 < ((10 : Nat) : Int)) then (if ((v5_24.length + [x.Name].length) * 16 ≤ 140737488355328) then (if (v5_24.length + [x.Name].length ≤ maxLen) then (if ((0 : Int) ≤ 9) then (if (9 < ((10 : Nat) : Int)) then (lq_R11_Names_5 L a0 o1 o2 o3 o4 k (i + 1) (v5_24 ++ [x.Name])) else none) else none) else none) else none) else none) else none)
theorem lqe_R11_Names_5  (L : Nat) (a0 : api_SiteDecl) (o1 : Nat × (Int × List ByteArray)) (o2 : Nat × (Int × List ByteArray)) (o3 : Nat × (Int × List ByteArray)) (o4 : Nat × (Int × List ByteArray)) (hl : a0.Routines.length ≤ maxLen) : ∀ (k : List api_Routine) (i n : Nat) (v5_24 : List ByteArray), a0.Routines.drop i = k → k.length < n → lp_R11_Names_5  L a0 o1 o2 o3 o4 n (i : Int) v5_24 = lq_R11_Names_5 L a0 o1 o2 o3 o4 k i v5_24 := by
  intro k
  induction k with
  | nil =>
    intro i n v5_24 hk hn
    obtain ⟨n, rfl⟩ : ∃ m, n = m + 1 := ⟨n - 1, by simp at hn; omega⟩
    simp only [lp_R11_Names_5, lb_R11_Names_5, lq_R11_Names_5, d_ge (drop_nil hk), anO_bd, anO_fl, anO_cn, anO_gd, anO_fk, anO_sl, anO_lf, anO_jb, anO_jp, anO_ap, anO_nj, cond_false]
  | cons x k ih =>
    intro i n v5_24 hk hn
    obtain ⟨n, rfl⟩ : ∃ m, n = m + 1 := ⟨n - 1, by simp at hn; omega⟩
    obtain ⟨hlt, hx, hk'⟩ := drop_cons hk
    have hih := fun v5_24 => ih (i + 1) n v5_24 hk' (by simpa using hn)
    simp only [lp_R11_Names_5, lb_R11_Names_5, lq_R11_Names_5, d_lt hlt, nn, ltI hlt, toN, hx, w64_succ hlt hl, hih, anO_bd, anO_fl, anO_cn, anO_gd, anO_fk, anO_sl, anO_lf, anO_jb, anO_jp, anO_ap, anO_nj, cond_true, if_true, decide_true, api_Expr.eta, api_Expr.cp_eq, api_Stmt.eta, api_Stmt.cp_eq]
theorem lq0_R11_Names_5  (L : Nat) (a0 : api_SiteDecl) (o1 : Nat × (Int × List ByteArray)) (o2 : Nat × (Int × List ByteArray)) (o3 : Nat × (Int × List ByteArray)) (o4 : Nat × (Int × List ByteArray)) (n : Nat) (hl : a0.Routines.length ≤ maxLen) (hn : a0.Routines.length < n) (v5_24 : List ByteArray) : lp_R11_Names_5  L a0 o1 o2 o3 o4 n 0 v5_24 = lq_R11_Names_5 L a0 o1 o2 o3 o4 a0.Routines 0 v5_24 := lqe_R11_Names_5  L a0 o1 o2 o3 o4 hl _ 0 n v5_24 rfl hn

def lq_R11_Kind_1  (L : Nat) (a1 : ByteArray) (r1 : (List (List ByteArray))) (a0 : api_SiteDecl) : List ((List ByteArray)) → Nat → ByteArray → Option (Nat × (ByteArray × Int))
  | [], i, v1_1 => (some (1, (v1_1, (i : Int))))
  | x :: k, i, v1_1 => (Option.bind (F_R07_Find L x a1) fun r2 =>
 (bif (decide (r2 ≥ 0)) then (if ((i : Int) < (([(⟨#[118, 97, 114]⟩ : ByteArray), (⟨#[114, 101, 115, 111, 117, 114, 99, 101]⟩ : ByteArray), (⟨#[115, 116, 111, 114, 101]⟩ : ByteArray), (⟨#[98, 101, 108, 116]⟩ : ByteArray), (⟨#[113, 117, 101, 117, 101]⟩ : ByteArray), (⟨#[115, 116, 114, 101, 97, 109]⟩ : ByteArray), (⟨#[116, 97, 108, 108, 121]⟩ : ByteArray), (⟨#[108, 101, 118, 101, 108]⟩ : ByteArray), (⟨#[99, 111, 117, 110, 116]⟩ : ByteArray), (⟨#[114, 111, 117, 116, 105, 110, 101]⟩ : ByteArray)].length : Nat) : Int)) then (some (0, (([(⟨#[118, 97, 114]⟩ : ByteArray), (⟨#[114, 101, 115, 111, 117, 114, 99, 101]⟩ : ByteArray), (⟨#[115, 116, 111, 114, 101]⟩ : ByteArray), (⟨#[98, 101, 108, 116]⟩ : ByteArray), (⟨#[113, 117, 101, 117, 101]⟩ : ByteArray), (⟨#[115, 116, 114, 101, 97, 109]⟩ : ByteArray), (⟨#[116, 97, 108, 108, 121]⟩ : ByteArray), (⟨#[108, 101, 118, 101, 108]⟩ : ByteArray), (⟨#[99, 111, 117, 110, 116]⟩ : ByteArray), (⟨#[114, 111, 117, 116, 105, 110, 101]⟩ : ByteArray)].getD (Int.toNat (i : Int)) default), (i : Int)))) else none)
 else (lq_R11_Kind_1 L a1 r1 a0 k (i + 1) v1_1)))
theorem lqe_R11_Kind_1  (L : Nat) (a1 : ByteArray) (r1 : (List (List ByteArray))) (a0 : api_SiteDecl) (hl : r1.length ≤ maxLen) : ∀ (k : List ((List ByteArray))) (i n : Nat) (v1_1 : ByteArray), r1.drop i = k → k.length < n → lp_R11_Kind_1  L a1 r1 a0 n v1_1 (i : Int) = lq_R11_Kind_1 L a1 r1 a0 k i v1_1 := by
  intro k
  induction k with
  | nil =>
    intro i n v1_1 hk hn
    obtain ⟨n, rfl⟩ : ∃ m, n = m + 1 := ⟨n - 1, by simp at hn; omega⟩
    simp only [lp_R11_Kind_1, lb_R11_Kind_1, lq_R11_Kind_1, d_ge (drop_nil hk), anO_bd, anO_fl, anO_cn, anO_gd, anO_fk, anO_sl, anO_lf, anO_jb, anO_jp, anO_ap, anO_nj, cond_false]
  | cons x k ih =>
    intro i n v1_1 hk hn
    obtain ⟨n, rfl⟩ : ∃ m, n = m + 1 := ⟨n - 1, by simp at hn; omega⟩
    obtain ⟨hlt, hx, hk'⟩ := drop_cons hk
    have hih := fun v1_1 => ih (i + 1) n v1_1 hk' (by simpa using hn)
    simp only [lp_R11_Kind_1, lb_R11_Kind_1, lq_R11_Kind_1, d_lt hlt, nn, ltI hlt, toN, hx, w64_succ hlt hl, hih, anO_bd, anO_fl, anO_cn, anO_gd, anO_fk, anO_sl, anO_lf, anO_jb, anO_jp, anO_ap, anO_nj, cond_true, if_true, decide_true, api_Expr.eta, api_Expr.cp_eq, api_Stmt.eta, api_Stmt.cp_eq]
theorem lq0_R11_Kind_1  (L : Nat) (a1 : ByteArray) (r1 : (List (List ByteArray))) (a0 : api_SiteDecl) (n : Nat) (hl : r1.length ≤ maxLen) (hn : r1.length < n) (v1_1 : ByteArray) : lp_R11_Kind_1  L a1 r1 a0 n v1_1 0 = lq_R11_Kind_1 L a1 r1 a0 r1 0 v1_1 := lqe_R11_Kind_1  L a1 r1 a0 hl _ 0 n v1_1 rfl hn

def lq_R14_valued_1  (L : Nat) (a0 : (List api_Value)) (a1 : ByteArray) : List api_Value → Nat → Int → Bool → Option (Nat × (Int × Bool × Int))
  | [], i, v1_2, v1_3 => (some (1, (v1_2, v1_3, (i : Int))))
  | x :: k, i, v1_2, v1_3 => (bif ((x.Name).toList == a1.toList) then (some (0, ((x.Type_), true, (i : Int))))
 else (lq_R14_valued_1 L a0 a1 k (i + 1) v1_2 v1_3))
theorem lqe_R14_valued_1  (L : Nat) (a0 : (List api_Value)) (a1 : ByteArray) (hl : a0.length ≤ maxLen) : ∀ (k : List api_Value) (i n : Nat) (v1_2 : Int) (v1_3 : Bool), a0.drop i = k → k.length < n → lp_R14_valued_1  L a0 a1 n v1_2 v1_3 (i : Int) = lq_R14_valued_1 L a0 a1 k i v1_2 v1_3 := by
  intro k
  induction k with
  | nil =>
    intro i n v1_2 v1_3 hk hn
    obtain ⟨n, rfl⟩ : ∃ m, n = m + 1 := ⟨n - 1, by simp at hn; omega⟩
    simp only [lp_R14_valued_1, lb_R14_valued_1, lq_R14_valued_1, d_ge (drop_nil hk), anO_bd, anO_fl, anO_cn, anO_gd, anO_fk, anO_sl, anO_lf, anO_jb, anO_jp, anO_ap, anO_nj, cond_false]
  | cons x k ih =>
    intro i n v1_2 v1_3 hk hn
    obtain ⟨n, rfl⟩ : ∃ m, n = m + 1 := ⟨n - 1, by simp at hn; omega⟩
    obtain ⟨hlt, hx, hk'⟩ := drop_cons hk
    have hih := fun v1_2 v1_3 => ih (i + 1) n v1_2 v1_3 hk' (by simpa using hn)
    simp only [lp_R14_valued_1, lb_R14_valued_1, lq_R14_valued_1, d_lt hlt, nn, ltI hlt, toN, hx, w64_succ hlt hl, hih, anO_bd, anO_fl, anO_cn, anO_gd, anO_fk, anO_sl, anO_lf, anO_jb, anO_jp, anO_ap, anO_nj, cond_true, if_true, decide_true, api_Expr.eta, api_Expr.cp_eq, api_Stmt.eta, api_Stmt.cp_eq]
theorem lq0_R14_valued_1  (L : Nat) (a0 : (List api_Value)) (a1 : ByteArray) (n : Nat) (hl : a0.length ≤ maxLen) (hn : a0.length < n) (v1_2 : Int) (v1_3 : Bool) : lp_R14_valued_1  L a0 a1 n v1_2 v1_3 0 = lq_R14_valued_1 L a0 a1 a0 0 v1_2 v1_3 := lqe_R14_valued_1  L a0 a1 hl _ 0 n v1_2 v1_3 rfl hn

def lq_R14_typed_1 (rec28 : api_Env → api_Expr → Option (Int × Int)) (L : Nat) (a0 : api_Env) (a1 : api_Expr) : List api_Expr → Nat → Int → Int → List Int → Option (Nat × (Int × Int × List Int × Int))
  | [], i, v1_0, v1_1, v1_2 => (some (1, (v1_0, v1_1, v1_2, (i : Int))))
  | x :: k, i, v1_0, v1_1, v1_2 => (Option.bind (rec28 a0 x) fun r1 =>
 (bif (r1.2 != 0) then (some (0, (0, r1.2, v1_2, (i : Int))))
 else (if ((v1_2.length + [r1.1].length) * 8 ≤ 140737488355328) then (if (v1_2.length + [r1.1].length ≤ maxLen) then (lq_R14_typed_1 rec28 L a0 a1 k (i + 1) v1_0 v1_1 (v1_2 ++ [r1.1])) else none) else none)))
theorem lqe_R14_typed_1 (rec28 : api_Env → api_Expr → Option (Int × Int)) (L : Nat) (a0 : api_Env) (a1 : api_Expr) (hl : a1.Kids.length ≤ maxLen) : ∀ (k : List api_Expr) (i n : Nat) (v1_0 : Int) (v1_1 : Int) (v1_2 : List Int), a1.Kids.drop i = k → k.length < n → lp_R14_typed_1 rec28 L a0 a1 n v1_0 v1_1 v1_2 (i : Int) = lq_R14_typed_1 rec28 L a0 a1 k i v1_0 v1_1 v1_2 := by
  intro k
  induction k with
  | nil =>
    intro i n v1_0 v1_1 v1_2 hk hn
    obtain ⟨n, rfl⟩ : ∃ m, n = m + 1 := ⟨n - 1, by simp at hn; omega⟩
    simp only [lp_R14_typed_1, lb_R14_typed_1, lq_R14_typed_1, d_ge (drop_nil hk), anO_bd, anO_fl, anO_cn, anO_gd, anO_fk, anO_sl, anO_lf, anO_jb, anO_jp, anO_ap, anO_nj, cond_false]
  | cons x k ih =>
    intro i n v1_0 v1_1 v1_2 hk hn
    obtain ⟨n, rfl⟩ : ∃ m, n = m + 1 := ⟨n - 1, by simp at hn; omega⟩
    obtain ⟨hlt, hx, hk'⟩ := drop_cons hk
    have hih := fun v1_0 v1_1 v1_2 => ih (i + 1) n v1_0 v1_1 v1_2 hk' (by simpa using hn)
    simp only [lp_R14_typed_1, lb_R14_typed_1, lq_R14_typed_1, d_lt hlt, nn, ltI hlt, toN, hx, w64_succ hlt hl, hih, anO_bd, anO_fl, anO_cn, anO_gd, anO_fk, anO_sl, anO_lf, anO_jb, anO_jp, anO_ap, anO_nj, cond_true, if_true, decide_true, api_Expr.eta, api_Expr.cp_eq, api_Stmt.eta, api_Stmt.cp_eq]
theorem lq0_R14_typed_1 (rec28 : api_Env → api_Expr → Option (Int × Int)) (L : Nat) (a0 : api_Env) (a1 : api_Expr) (n : Nat) (hl : a1.Kids.length ≤ maxLen) (hn : a1.Kids.length < n) (v1_0 : Int) (v1_1 : Int) (v1_2 : List Int) : lp_R14_typed_1 rec28 L a0 a1 n v1_0 v1_1 v1_2 0 = lq_R14_typed_1 rec28 L a0 a1 a1.Kids 0 v1_0 v1_1 v1_2 := lqe_R14_typed_1 rec28 L a0 a1 hl _ 0 n v1_0 v1_1 v1_2 rfl hn

def lq_L14_TypingKids_1  (L : Nat) (r3 : (Int × Int)) (a0 : api_Env) (a1 : api_Expr) : List api_Expr → Nat → Bool → List Int → Option (Nat × (Bool × List Int × Int))
  | [], i, v1_0, v1_2 => (some (1, (v1_0, v1_2, (i : Int))))
  | x :: k, i, v1_0, v1_2 => (Option.bind (F_typing_Expr L a0 x) fun r7 =>
 (bif (r7.2 != 0) then (some (0, (false, v1_2, (i : Int))))
 else (if ((v1_2.length + [r7.1].length) * 8 ≤ 140737488355328) then (if (v1_2.length + [r7.1].length ≤ maxLen) then (lq_L14_TypingKids_1 L r3 a0 a1 k (i + 1) v1_0 (v1_2 ++ [r7.1])) else none) else none)))
theorem lqe_L14_TypingKids_1  (L : Nat) (r3 : (Int × Int)) (a0 : api_Env) (a1 : api_Expr) (hl : a1.Kids.length ≤ maxLen) : ∀ (k : List api_Expr) (i n : Nat) (v1_0 : Bool) (v1_2 : List Int), a1.Kids.drop i = k → k.length < n → lp_L14_TypingKids_1  L r3 a0 a1 n v1_0 v1_2 (i : Int) = lq_L14_TypingKids_1 L r3 a0 a1 k i v1_0 v1_2 := by
  intro k
  induction k with
  | nil =>
    intro i n v1_0 v1_2 hk hn
    obtain ⟨n, rfl⟩ : ∃ m, n = m + 1 := ⟨n - 1, by simp at hn; omega⟩
    simp only [lp_L14_TypingKids_1, lb_L14_TypingKids_1, lq_L14_TypingKids_1, d_ge (drop_nil hk), anO_bd, anO_fl, anO_cn, anO_gd, anO_fk, anO_sl, anO_lf, anO_jb, anO_jp, anO_ap, anO_nj, cond_false]
  | cons x k ih =>
    intro i n v1_0 v1_2 hk hn
    obtain ⟨n, rfl⟩ : ∃ m, n = m + 1 := ⟨n - 1, by simp at hn; omega⟩
    obtain ⟨hlt, hx, hk'⟩ := drop_cons hk
    have hih := fun v1_0 v1_2 => ih (i + 1) n v1_0 v1_2 hk' (by simpa using hn)
    simp only [lp_L14_TypingKids_1, lb_L14_TypingKids_1, lq_L14_TypingKids_1, d_lt hlt, nn, ltI hlt, toN, hx, w64_succ hlt hl, hih, anO_bd, anO_fl, anO_cn, anO_gd, anO_fk, anO_sl, anO_lf, anO_jb, anO_jp, anO_ap, anO_nj, cond_true, if_true, decide_true, api_Expr.eta, api_Expr.cp_eq, api_Stmt.eta, api_Stmt.cp_eq]
theorem lq0_L14_TypingKids_1  (L : Nat) (r3 : (Int × Int)) (a0 : api_Env) (a1 : api_Expr) (n : Nat) (hl : a1.Kids.length ≤ maxLen) (hn : a1.Kids.length < n) (v1_0 : Bool) (v1_2 : List Int) : lp_L14_TypingKids_1  L r3 a0 a1 n v1_0 v1_2 0 = lq_L14_TypingKids_1 L r3 a0 a1 a1.Kids 0 v1_0 v1_2 := lqe_L14_TypingKids_1  L r3 a0 a1 hl _ 0 n v1_0 v1_2 rfl hn

def lq_expr_Replace_1 (rec22 : api_Expr → ByteArray → api_Expr → Option api_Expr) (L : Nat) (a1 : ByteArray) (a0 : api_Expr) (a2 : api_Expr) : List api_Expr → Nat → List api_Expr → Option (Nat × (List api_Expr × Int))
  | [], i, v1_1 => (some (0, (v1_1, (i : Int))))
  | x :: k, i, v1_1 => (Option.bind (rec22 x a1 a2) fun r2 =>
 (if ((v1_1.length + [r2].length) * 56 ≤ 140737488355328) then (if (v1_1.length + [r2].length ≤ maxLen) then (lq_expr_Replace_1 rec22 L a1 a0 a2 k (i + 1) (v1_1 ++ [r2])) else none) else none))
theorem lqe_expr_Replace_1 (rec22 : api_Expr → ByteArray → api_Expr → Option api_Expr) (L : Nat) (a1 : ByteArray) (a0 : api_Expr) (a2 : api_Expr) (hl : a0.Kids.length ≤ maxLen) : ∀ (k : List api_Expr) (i n : Nat) (v1_1 : List api_Expr), a0.Kids.drop i = k → k.length < n → lp_expr_Replace_1 rec22 L a1 a0 a2 n v1_1 (i : Int) = lq_expr_Replace_1 rec22 L a1 a0 a2 k i v1_1 := by
  intro k
  induction k with
  | nil =>
    intro i n v1_1 hk hn
    obtain ⟨n, rfl⟩ : ∃ m, n = m + 1 := ⟨n - 1, by simp at hn; omega⟩
    simp only [lp_expr_Replace_1, lb_expr_Replace_1, lq_expr_Replace_1, d_ge (drop_nil hk), anO_bd, anO_fl, anO_cn, anO_gd, anO_fk, anO_sl, anO_lf, anO_jb, anO_jp, anO_ap, anO_nj, cond_false]
  | cons x k ih =>
    intro i n v1_1 hk hn
    obtain ⟨n, rfl⟩ : ∃ m, n = m + 1 := ⟨n - 1, by simp at hn; omega⟩
    obtain ⟨hlt, hx, hk'⟩ := drop_cons hk
    have hih := fun v1_1 => ih (i + 1) n v1_1 hk' (by simpa using hn)
    simp only [lp_expr_Replace_1, lb_expr_Replace_1, lq_expr_Replace_1, d_lt hlt, nn, ltI hlt, toN, hx, w64_succ hlt hl, hih, anO_bd, anO_fl, anO_cn, anO_gd, anO_fk, anO_sl, anO_lf, anO_jb, anO_jp, anO_ap, anO_nj, cond_true, if_true, decide_true, api_Expr.eta, api_Expr.cp_eq, api_Stmt.eta, api_Stmt.cp_eq]
theorem lq0_expr_Replace_1 (rec22 : api_Expr → ByteArray → api_Expr → Option api_Expr) (L : Nat) (a1 : ByteArray) (a0 : api_Expr) (a2 : api_Expr) (n : Nat) (hl : a0.Kids.length ≤ maxLen) (hn : a0.Kids.length < n) (v1_1 : List api_Expr) : lp_expr_Replace_1 rec22 L a1 a0 a2 n v1_1 0 = lq_expr_Replace_1 rec22 L a1 a0 a2 a0.Kids 0 v1_1 := lqe_expr_Replace_1 rec22 L a1 a0 a2 hl _ 0 n v1_1 rfl hn


end Go.Proofs.YtcbandfdmbkokaaGreat.Ev
