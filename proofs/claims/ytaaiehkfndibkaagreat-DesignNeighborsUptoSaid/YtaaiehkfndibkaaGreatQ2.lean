import Derived.Test.YtaaiehkfndibkaaGreatG2
import Derived.Test.YtaaiehkfndibkaaGreatPa
namespace Go.Proofs.YtaaiehkfndibkaaGreat.Ev
open Go
set_option maxRecDepth 100000
set_option linter.unusedVariables false
set_option linter.unusedSimpArgs false
set_option linter.unnecessarySimpa false
def lq_design_Half_2  (L : Nat) (a0 : (List api_Factor)) (v1_2 : List Int) (v1_4 : Int) (r3 : ((List Int) × Int)) (r2 : Int) : List Int → Nat → Int → Option (Nat × (Int × Int))
  | [], i, v2_6 => (some (0, (v2_6, (i : Int))))
  | x :: k, i, v2_6 => (lq_design_Half_2 L a0 v1_2 v1_4 r3 r2 k (i + 1) (w64 (v2_6 + x)))
theorem lqe_design_Half_2  (L : Nat) (a0 : (List api_Factor)) (v1_2 : List Int) (v1_4 : Int) (r3 : ((List Int) × Int)) (r2 : Int) (hl : r3.1.length ≤ maxLen) : ∀ (k : List Int) (i n : Nat) (v2_6 : Int), r3.1.drop i = k → k.length < n → lp_design_Half_2  L a0 v1_2 v1_4 r3 r2 n v2_6 (i : Int) = lq_design_Half_2 L a0 v1_2 v1_4 r3 r2 k i v2_6 := by
  intro k
  induction k with
  | nil =>
    intro i n v2_6 hk hn
    obtain ⟨n, rfl⟩ : ∃ m, n = m + 1 := ⟨n - 1, by simp at hn; omega⟩
    simp only [lp_design_Half_2, lb_design_Half_2, lq_design_Half_2, d_ge (drop_nil hk), anO_bd, anO_fl, anO_cn, anO_gd, anO_fk, anO_sl, anO_lf, anO_jb, anO_jp, anO_ap, anO_nj, cond_false]
  | cons x k ih =>
    intro i n v2_6 hk hn
    obtain ⟨n, rfl⟩ : ∃ m, n = m + 1 := ⟨n - 1, by simp at hn; omega⟩
    obtain ⟨hlt, hx, hk'⟩ := drop_cons hk
    have hih := fun v2_6 => ih (i + 1) n v2_6 hk' (by simpa using hn)
    simp only [lp_design_Half_2, lb_design_Half_2, lq_design_Half_2, d_lt hlt, nn, ltI hlt, toN, hx, w64_succ hlt hl, hih, anO_bd, anO_fl, anO_cn, anO_gd, anO_fk, anO_sl, anO_lf, anO_jb, anO_jp, anO_ap, anO_nj, cond_true, if_true, decide_true, api_Expr.eta, api_Expr.cp_eq, api_Stmt.eta, api_Stmt.cp_eq]
theorem lq0_design_Half_2  (L : Nat) (a0 : (List api_Factor)) (v1_2 : List Int) (v1_4 : Int) (r3 : ((List Int) × Int)) (r2 : Int) (n : Nat) (hl : r3.1.length ≤ maxLen) (hn : r3.1.length < n) (v2_6 : Int) : lp_design_Half_2  L a0 v1_2 v1_4 r3 r2 n v2_6 0 = lq_design_Half_2 L a0 v1_2 v1_4 r3 r2 r3.1 0 v2_6 := lqe_design_Half_2  L a0 v1_2 v1_4 r3 r2 hl _ 0 n v2_6 rfl hn
def lq_R51_Half_2  (L : Nat) (a0 : (List api_Factor)) (v1_2 : List Int) (v1_3 : Int) (r3 : ((List Int) × Int)) : List Int → Nat → Int → Option (Nat × (Int × Int))
  | [], i, v2_6 => (some (0, (v2_6, (i : Int))))
  | x :: k, i, v2_6 => (lq_R51_Half_2 L a0 v1_2 v1_3 r3 k (i + 1) (w64 (v2_6 + x)))
theorem lqe_R51_Half_2  (L : Nat) (a0 : (List api_Factor)) (v1_2 : List Int) (v1_3 : Int) (r3 : ((List Int) × Int)) (hl : r3.1.length ≤ maxLen) : ∀ (k : List Int) (i n : Nat) (v2_6 : Int), r3.1.drop i = k → k.length < n → lp_R51_Half_2  L a0 v1_2 v1_3 r3 n v2_6 (i : Int) = lq_R51_Half_2 L a0 v1_2 v1_3 r3 k i v2_6 := by
  intro k
  induction k with
  | nil =>
    intro i n v2_6 hk hn
    obtain ⟨n, rfl⟩ : ∃ m, n = m + 1 := ⟨n - 1, by simp at hn; omega⟩
    simp only [lp_R51_Half_2, lb_R51_Half_2, lq_R51_Half_2, d_ge (drop_nil hk), anO_bd, anO_fl, anO_cn, anO_gd, anO_fk, anO_sl, anO_lf, anO_jb, anO_jp, anO_ap, anO_nj, cond_false]
  | cons x k ih =>
    intro i n v2_6 hk hn
    obtain ⟨n, rfl⟩ : ∃ m, n = m + 1 := ⟨n - 1, by simp at hn; omega⟩
    obtain ⟨hlt, hx, hk'⟩ := drop_cons hk
    have hih := fun v2_6 => ih (i + 1) n v2_6 hk' (by simpa using hn)
    simp only [lp_R51_Half_2, lb_R51_Half_2, lq_R51_Half_2, d_lt hlt, nn, ltI hlt, toN, hx, w64_succ hlt hl, hih, anO_bd, anO_fl, anO_cn, anO_gd, anO_fk, anO_sl, anO_lf, anO_jb, anO_jp, anO_ap, anO_nj, cond_true, if_true, decide_true, api_Expr.eta, api_Expr.cp_eq, api_Stmt.eta, api_Stmt.cp_eq]
theorem lq0_R51_Half_2  (L : Nat) (a0 : (List api_Factor)) (v1_2 : List Int) (v1_3 : Int) (r3 : ((List Int) × Int)) (n : Nat) (hl : r3.1.length ≤ maxLen) (hn : r3.1.length < n) (v2_6 : Int) : lp_R51_Half_2  L a0 v1_2 v1_3 r3 n v2_6 0 = lq_R51_Half_2 L a0 v1_2 v1_3 r3 r3.1 0 v2_6 := lqe_R51_Half_2  L a0 v1_2 v1_3 r3 hl _ 0 n v2_6 rfl hn
def lq_L51_contains_1  (L : Nat) (a0 : (List (List Int))) (a1 : (List Int)) : List ((List Int)) → Nat → Bool → Option (Nat × (Bool × Int))
  | [], i, v1_2 => (some (1, (v1_2, (i : Int))))
  | x :: k, i, v1_2 => (Option.bind (F_R51_Same L x a1) fun r1 =>
 (bif r1 then (some (0, (true, (i : Int))))
 else (lq_L51_contains_1 L a0 a1 k (i + 1) v1_2)))
theorem lqe_L51_contains_1  (L : Nat) (a0 : (List (List Int))) (a1 : (List Int)) (hl : a0.length ≤ maxLen) : ∀ (k : List ((List Int))) (i n : Nat) (v1_2 : Bool), a0.drop i = k → k.length < n → lp_L51_contains_1  L a0 a1 n v1_2 (i : Int) = lq_L51_contains_1 L a0 a1 k i v1_2 := by
  intro k
  induction k with
  | nil =>
    intro i n v1_2 hk hn
    obtain ⟨n, rfl⟩ : ∃ m, n = m + 1 := ⟨n - 1, by simp at hn; omega⟩
    simp only [lp_L51_contains_1, lb_L51_contains_1, lq_L51_contains_1, d_ge (drop_nil hk), anO_bd, anO_fl, anO_cn, anO_gd, anO_fk, anO_sl, anO_lf, anO_jb, anO_jp, anO_ap, anO_nj, cond_false]
  | cons x k ih =>
    intro i n v1_2 hk hn
    obtain ⟨n, rfl⟩ : ∃ m, n = m + 1 := ⟨n - 1, by simp at hn; omega⟩
    obtain ⟨hlt, hx, hk'⟩ := drop_cons hk
    have hih := fun v1_2 => ih (i + 1) n v1_2 hk' (by simpa using hn)
    simp only [lp_L51_contains_1, lb_L51_contains_1, lq_L51_contains_1, d_lt hlt, nn, ltI hlt, toN, hx, w64_succ hlt hl, hih, anO_bd, anO_fl, anO_cn, anO_gd, anO_fk, anO_sl, anO_lf, anO_jb, anO_jp, anO_ap, anO_nj, cond_true, if_true, decide_true, api_Expr.eta, api_Expr.cp_eq, api_Stmt.eta, api_Stmt.cp_eq]
theorem lq0_L51_contains_1  (L : Nat) (a0 : (List (List Int))) (a1 : (List Int)) (n : Nat) (hl : a0.length ≤ maxLen) (hn : a0.length < n) (v1_2 : Bool) : lp_L51_contains_1  L a0 a1 n v1_2 0 = lq_L51_contains_1 L a0 a1 a0 0 v1_2 := lqe_L51_contains_1  L a0 a1 hl _ 0 n v1_2 rfl hn
def lq_L51_in_1  (L : Nat) (a0 : (List Int)) (a1 : Int) : List Int → Nat → Bool → Option (Nat × (Bool × Int))
  | [], i, v1_2 => (some (1, (v1_2, (i : Int))))
  | x :: k, i, v1_2 => (bif (x == a1) then (some (0, (true, (i : Int))))
 else (lq_L51_in_1 L a0 a1 k (i + 1) v1_2))
theorem lqe_L51_in_1  (L : Nat) (a0 : (List Int)) (a1 : Int) (hl : a0.length ≤ maxLen) : ∀ (k : List Int) (i n : Nat) (v1_2 : Bool), a0.drop i = k → k.length < n → lp_L51_in_1  L a0 a1 n v1_2 (i : Int) = lq_L51_in_1 L a0 a1 k i v1_2 := by
  intro k
  induction k with
  | nil =>
    intro i n v1_2 hk hn
    obtain ⟨n, rfl⟩ : ∃ m, n = m + 1 := ⟨n - 1, by simp at hn; omega⟩
    simp only [lp_L51_in_1, lb_L51_in_1, lq_L51_in_1, d_ge (drop_nil hk), anO_bd, anO_fl, anO_cn, anO_gd, anO_fk, anO_sl, anO_lf, anO_jb, anO_jp, anO_ap, anO_nj, cond_false]
  | cons x k ih =>
    intro i n v1_2 hk hn
    obtain ⟨n, rfl⟩ : ∃ m, n = m + 1 := ⟨n - 1, by simp at hn; omega⟩
    obtain ⟨hlt, hx, hk'⟩ := drop_cons hk
    have hih := fun v1_2 => ih (i + 1) n v1_2 hk' (by simpa using hn)
    simp only [lp_L51_in_1, lb_L51_in_1, lq_L51_in_1, d_lt hlt, nn, ltI hlt, toN, hx, w64_succ hlt hl, hih, anO_bd, anO_fl, anO_cn, anO_gd, anO_fk, anO_sl, anO_lf, anO_jb, anO_jp, anO_ap, anO_nj, cond_true, if_true, decide_true, api_Expr.eta, api_Expr.cp_eq, api_Stmt.eta, api_Stmt.cp_eq]
theorem lq0_L51_in_1  (L : Nat) (a0 : (List Int)) (a1 : Int) (n : Nat) (hl : a0.length ≤ maxLen) (hn : a0.length < n) (v1_2 : Bool) : lp_L51_in_1  L a0 a1 n v1_2 0 = lq_L51_in_1 L a0 a1 a0 0 v1_2 := lqe_L51_in_1  L a0 a1 hl _ 0 n v1_2 rfl hn
def lq_L51_DesignNeighbors_1  (L : Nat) (a0 : (List api_Factor)) (a1 : (List Int)) (r4 : ((List (List Int)) × Int)) (r8 : (List Int)) (r9 : (Int × Int)) : List ((List Int)) → Nat → Bool → Option (Nat × (Bool × Int))
  | [], i, v1_2 => (some (1, (v1_2, (i : Int))))
  | x :: k, i, v1_2 => (Option.bind (F_design_Near L a0 x) fun r10 =>
 (Option.bind (F_design_Index L a0 x) fun r11 =>
 ((fun b12 =>
 (Option.bind (bif b12 then (some true) else (Option.bind (F_L51_contains L r10.1 a1) fun r14 => (some (!r14)))) fun b13 =>
 (Option.bind (bif b13 then (some true) else (Option.bind (F_L51_in L r8 r9.1) fun r17 => (Option.bind (F_L51_in L r8 r11.1) fun r18 => (some (r17 == r18))))) fun b16 =>
 (Option.bind (bif b16 then (some true) else (if (0 : Int) ≤ (i : Int) then (if (i : Int) < ((r4.1.length : Nat) : Int) then (some ((x.length : Int) != (a1.length : Int))) else none) else none)) fun b21 =>
 (bif b21 then (some (0, (false, (i : Int))))
 else (Option.bind (lp_L51_DesignNeighbors_2 L a0 a1 v1_2 r4 r8 r9 (i : Int) r10 r11 L 0 0) fun o22 =>
 (selo o22.1 [(bif (o22.2.1 != 1) then (some (0, (false, (i : Int))))
 else (lq_L51_DesignNeighbors_1 L a0 a1 r4 r8 r9 k (i + 1) v1_2))]))))))) (bif (r10.2 != 0) then true else (r11.2 != 0)))))
theorem lqe_L51_DesignNeighbors_1  (L : Nat) (a0 : (List api_Factor)) (a1 : (List Int)) (r4 : ((List (List Int)) × Int)) (r8 : (List Int)) (r9 : (Int × Int)) (hl : r4.1.length ≤ maxLen) : ∀ (k : List ((List Int))) (i n : Nat) (v1_2 : Bool), r4.1.drop i = k → k.length < n → lp_L51_DesignNeighbors_1  L a0 a1 r4 r8 r9 n v1_2 (i : Int) = lq_L51_DesignNeighbors_1 L a0 a1 r4 r8 r9 k i v1_2 := by
  intro k
  induction k with
  | nil =>
    intro i n v1_2 hk hn
    obtain ⟨n, rfl⟩ : ∃ m, n = m + 1 := ⟨n - 1, by simp at hn; omega⟩
    simp only [lp_L51_DesignNeighbors_1, lb_L51_DesignNeighbors_1, lq_L51_DesignNeighbors_1, d_ge (drop_nil hk), anO_bd, anO_fl, anO_cn, anO_gd, anO_fk, anO_sl, anO_lf, anO_jb, anO_jp, anO_ap, anO_nj, cond_false]
  | cons x k ih =>
    intro i n v1_2 hk hn
    obtain ⟨n, rfl⟩ : ∃ m, n = m + 1 := ⟨n - 1, by simp at hn; omega⟩
    obtain ⟨hlt, hx, hk'⟩ := drop_cons hk
    have hih := fun v1_2 => ih (i + 1) n v1_2 hk' (by simpa using hn)
    simp only [lp_L51_DesignNeighbors_1, lb_L51_DesignNeighbors_1, lq_L51_DesignNeighbors_1, d_lt hlt, nn, ltI hlt, toN, hx, w64_succ hlt hl, hih, anO_bd, anO_fl, anO_cn, anO_gd, anO_fk, anO_sl, anO_lf, anO_jb, anO_jp, anO_ap, anO_nj, cond_true, if_true, decide_true, api_Expr.eta, api_Expr.cp_eq, api_Stmt.eta, api_Stmt.cp_eq]
theorem lq0_L51_DesignNeighbors_1  (L : Nat) (a0 : (List api_Factor)) (a1 : (List Int)) (r4 : ((List (List Int)) × Int)) (r8 : (List Int)) (r9 : (Int × Int)) (n : Nat) (hl : r4.1.length ≤ maxLen) (hn : r4.1.length < n) (v1_2 : Bool) : lp_L51_DesignNeighbors_1  L a0 a1 r4 r8 r9 n v1_2 0 = lq_L51_DesignNeighbors_1 L a0 a1 r4 r8 r9 r4.1 0 v1_2 := lqe_L51_DesignNeighbors_1  L a0 a1 r4 r8 r9 hl _ 0 n v1_2 rfl hn
def lq_L51_DesignNeighbors_2  (L : Nat) (a0 : (List api_Factor)) (a1 : (List Int)) (v1_2 : Bool) (r4 : ((List (List Int)) × Int)) (r8 : (List Int)) (r9 : (Int × Int)) (v1_6 : Int) (r10 : ((List (List Int)) × Int)) (r11 : (Int × Int)) : List Int → Nat → Int → Option (Nat × (Int × Int))
  | [], i, v2_11 => (some (0, (v2_11, (i : Int))))
  | x :: k, i, v2_11 => (if ((0 : Int) ≤ v1_6) then (if (v1_6 < ((r4.1.length : Nat) : Int)) then (if ((i : Int) < (((r4.1.getD (Int.toNat v1_6) default).length : Nat) : Int)) then (if ((0 : Int) ≤ v1_6) then (if (v1_6 < ((r4.1.length : Nat) : Int)) then (if ((i : Int) < (((r4.1.getD (Int.toNat v1_6) default).length : Nat) : Int)) then (lq_L51_DesignNeighbors_2 L a0 a1 v1_2 r4 r8 r9 v1_6 r10 r11 k (i + 1) (w64 (v2_11 + (if (w64 (((r4.1.getD (Int.toNat v1_6) default).getD (Int.toNat (i : Int)) default) - x)) > (w64 (x - ((r4.1.getD (Int.toNat v1_6) default).getD (Int.toNat (i : Int)) default))) then (w64 (((r4.1.getD (Int.toNat v1_6) default).getD (Int.toNat (i : Int)) default) - x)) else (w64 (x - ((r4.1.getD (Int.toNat v1_6) default).getD (Int.toNat (i : Int)) default))))))) else none) else none) else none) else none) else none) else none)
theorem lqe_L51_DesignNeighbors_2  (L : Nat) (a0 : (List api_Factor)) (a1 : (List Int)) (v1_2 : Bool) (r4 : ((List (List Int)) × Int)) (r8 : (List Int)) (r9 : (Int × Int)) (v1_6 : Int) (r10 : ((List (List Int)) × Int)) (r11 : (Int × Int)) (hl : a1.length ≤ maxLen) : ∀ (k : List Int) (i n : Nat) (v2_11 : Int), a1.drop i = k → k.length < n → lp_L51_DesignNeighbors_2  L a0 a1 v1_2 r4 r8 r9 v1_6 r10 r11 n v2_11 (i : Int) = lq_L51_DesignNeighbors_2 L a0 a1 v1_2 r4 r8 r9 v1_6 r10 r11 k i v2_11 := by
  intro k
  induction k with
  | nil =>
    intro i n v2_11 hk hn
    obtain ⟨n, rfl⟩ : ∃ m, n = m + 1 := ⟨n - 1, by simp at hn; omega⟩
    simp only [lp_L51_DesignNeighbors_2, lb_L51_DesignNeighbors_2, lq_L51_DesignNeighbors_2, d_ge (drop_nil hk), anO_bd, anO_fl, anO_cn, anO_gd, anO_fk, anO_sl, anO_lf, anO_jb, anO_jp, anO_ap, anO_nj, cond_false]
  | cons x k ih =>
    intro i n v2_11 hk hn
    obtain ⟨n, rfl⟩ : ∃ m, n = m + 1 := ⟨n - 1, by simp at hn; omega⟩
    obtain ⟨hlt, hx, hk'⟩ := drop_cons hk
    have hih := fun v2_11 => ih (i + 1) n v2_11 hk' (by simpa using hn)
    simp only [lp_L51_DesignNeighbors_2, lb_L51_DesignNeighbors_2, lq_L51_DesignNeighbors_2, d_lt hlt, nn, ltI hlt, toN, hx, w64_succ hlt hl, hih, anO_bd, anO_fl, anO_cn, anO_gd, anO_fk, anO_sl, anO_lf, anO_jb, anO_jp, anO_ap, anO_nj, cond_true, if_true, decide_true, api_Expr.eta, api_Expr.cp_eq, api_Stmt.eta, api_Stmt.cp_eq]
theorem lq0_L51_DesignNeighbors_2  (L : Nat) (a0 : (List api_Factor)) (a1 : (List Int)) (v1_2 : Bool) (r4 : ((List (List Int)) × Int)) (r8 : (List Int)) (r9 : (Int × Int)) (v1_6 : Int) (r10 : ((List (List Int)) × Int)) (r11 : (Int × Int)) (n : Nat) (hl : a1.length ≤ maxLen) (hn : a1.length < n) (v2_11 : Int) : lp_L51_DesignNeighbors_2  L a0 a1 v1_2 r4 r8 r9 v1_6 r10 r11 n v2_11 0 = lq_L51_DesignNeighbors_2 L a0 a1 v1_2 r4 r8 r9 v1_6 r10 r11 a1 0 v2_11 := lqe_L51_DesignNeighbors_2  L a0 a1 v1_2 r4 r8 r9 v1_6 r10 r11 hl _ 0 n v2_11 rfl hn
end Go.Proofs.YtaaiehkfndibkaaGreat.Ev
