/-  Chapters 7 and 9, plainly: the reference. -/
import Derived.Test.YtonfmpiikdmndaaGreatQ2
import Derived.Test.YtonfmpiikdmndaaGreatPc
namespace Go.Proofs.YtonfmpiikdmndaaGreat.Ev
open Go
set_option maxRecDepth 100000
set_option linter.unusedVariables false
set_option linter.unusedSimpArgs false
set_option linter.unnecessarySimpa false
/-- the place of a text in a list, or -1 -/
def fidx (l : List ByteArray) (s : ByteArray) : Int := idxI (l.findIdx? fun x => decide (x = s))
theorem idxI_ge {α : Type} (l : List α) (p : α → Bool) : decide (idxI (l.findIdx? p) ≥ 0) = l.any p := by
  have h := List.findIdx?_isSome (xs := l) (p := p)
  rw [← h]
  cases l.findIdx? p with
  | none => rfl
  | some i => simp [idxI]
theorem ok_R07_letter (L : Nat) (z : Int) : F_R07_letter L z = some (letZ z) := by
  simp only [T_R07_letter, F_R07_letter, anO_bd, anO_fl, anO_cn, anO_gd, anO_fk, anO_sl, anO_lf, anO_jb, anO_jp, anO_ap, anO_nj, letZ, band_c]
theorem ok_R07_Keywords (L : Nat) : F_R07_Keywords L = some kws := rfl
theorem q_R07_Find_1 (L : Nat) (a0 : List ByteArray) (a1 : ByteArray) : ∀ (k : List ByteArray) (i : Nat) (v : Int), lq_R07_Find_1 L a0 a1 k i v = some (match k.findIdx? (fun x => x.toList == a1.toList) with | some j => (0, (((i + j : Nat) : Int), ((i + j : Nat) : Int))) | none => (1, (v, ((i + k.length : Nat) : Int)))) := by
  intro k
  induction k with
  | nil => intro i v; rfl
  | cons x k ih =>
    intro i v
    rw [lq_R07_Find_1, ih, List.findIdx?_cons]
    cases hc : (fun x => x.toList == a1.toList) x with
    | true => simp only [hc, cond_true, if_true]; rfl
    | false =>
      simp only [hc, cond_false, if_false, Bool.false_eq_true]
      cases k.findIdx? (fun x => x.toList == a1.toList) with
      | some j => simp [Nat.add_assoc, Nat.add_comm 1]
      | none => simp [Nat.add_assoc, Nat.add_comm 1]
theorem ok_R07_Find (L : Nat) (l : List ByteArray) (s : ByteArray) (hl : l.length ≤ maxLen) (hL : l.length < L) : F_R07_Find L l s = some (fidx l s) := by
  simp only [T_R07_Find, F_R07_Find, anO_bd, anO_fl, anO_cn, anO_gd, anO_fk, anO_sl, anO_lf, anO_jb, anO_jp, anO_ap, anO_nj, lq0_R07_Find_1 _ _ _ _ hl hL, q_R07_Find_1, str_eq, Option.bind_some, fidx]
  cases l.findIdx? fun x => decide (x = s) with
  | none => rfl
  | some i => simp [idxI, sel0]
theorem ok_R07_Keyword (L : Nat) (s : ByteArray) (hL : 80 < L) : F_R07_Keyword L s = some (keyword s) := by
  simp only [T_R07_Keyword, F_R07_Keyword, anO_bd, anO_fl, anO_cn, anO_gd, anO_fk, anO_sl, anO_lf, anO_jb, anO_jp, anO_ap, anO_nj, ok_R07_Keywords, ok_R07_Find L kws s (by decide) (show kws.length < L from Nat.lt_trans (by decide) hL), Option.bind_some, fidx, idxI_ge]
  simp only [keyword, eq_comm]
theorem rn_lp (L : Nat) (a : ByteArray) (hs : a.size ≤ maxLen) : ∀ (m i n : Nat) (v : Int), i + m = a.size → m < n →
    ∃ j, lp_R07_Check_1 L a n v i = some (bif okFrom a i m then (1, (v, j)) else (0, (3, j))) := by
  intro m
  induction m with
  | zero =>
    intro i n v hi hn
    obtain ⟨n, rfl⟩ : ∃ k, n = k + 1 := ⟨n - 1, by omega⟩
    exact ⟨i, by simp only [lp_R07_Check_1, lb_R07_Check_1, anO_bd, anO_fl, anO_cn, anO_gd, anO_fk, anO_sl, anO_lf, anO_jb, anO_jp, anO_ap, anO_nj, okFrom, d_ge (show a.size ≤ i by omega), cond_true, cond_false]⟩
  | succ m ih =>
    intro i n v hi hn
    obtain ⟨n, rfl⟩ : ∃ k, n = k + 1 := ⟨n - 1, by omega⟩
    have hlt : i < a.size := by omega
    obtain ⟨j, hj⟩ := ih (i + 1) n v (by omega) (by omega)
    have hb := getB hlt
    cases hc : okZ (byteZ a i) with
    | true =>
      refine ⟨j, ?_⟩
      have e : okFrom a i (m + 1) = okFrom a (i + 1) m := by simp only [okFrom, hc, Bool.true_and]
      simp only [lp_R07_Check_1, lb_R07_Check_1, anO_bd, anO_fl, anO_cn, anO_gd, anO_fk, anO_sl, anO_lf, anO_jb, anO_jp, anO_ap, anO_nj, d_lt hlt, nn, toN, if_true, hb, cond_true, ok_R07_letter, Option.bind_some, w64_succ hlt hs, hj, e, cond_ss, band_c, bor_c]
      rw [show ((!letZ (optByte a[i]?) && optByte a[i]? != 95) && (decide (optByte a[i]? < 48) || decide (optByte a[i]? > 57))) = false from ?_]
      · rfl
      · revert hc; unfold okZ byteZ
        generalize optByte a[i]? = z
        cases letZ z <;> simp <;> omega
    | false =>
      refine ⟨i, ?_⟩
      have e : okFrom a i (m + 1) = false := by simp only [okFrom, hc, Bool.false_and]
      simp only [lp_R07_Check_1, lb_R07_Check_1, anO_bd, anO_fl, anO_cn, anO_gd, anO_fk, anO_sl, anO_lf, anO_jb, anO_jp, anO_ap, anO_nj, d_lt hlt, nn, toN, if_true, hb, cond_true, ok_R07_letter, Option.bind_some, w64_succ hlt hs, hj, e, cond_ss, band_c, bor_c]
      rw [show ((!letZ (optByte a[i]?) && optByte a[i]? != 95) && (decide (optByte a[i]? < 48) || decide (optByte a[i]? > 57))) = true from ?_]
      · rfl
      · revert hc; unfold okZ byteZ
        generalize optByte a[i]? = z
        cases letZ z <;> simp <;> omega
theorem ok_R07_Check (L : Nat) (s : ByteArray) (hs : okS s) (hL : s.size < L) (hL' : 80 < L) : F_R07_Check L s = some (nameE s) := by
  obtain ⟨j, hj⟩ := rn_lp L s hs s.size 0 L 0 (by omega) hL
  have e0 : decide ((s.size : Int) > 24) = !decide (s.size ≤ 24) := by
    by_cases h : s.size ≤ 24
    · rw [decide_eq_false (by omega), decide_eq_true h]; rfl
    · rw [decide_eq_true (by omega), decide_eq_false h]; rfl
  have e2 : decide ((s.size : Int) < 1) = decide (s.size = 0) := decide_eq_decide.2 (by omega)
  simp only [T_R07_Check, F_R07_Check, anO_bd, anO_fl, anO_cn, anO_gd, anO_fk, anO_sl, anO_lf, anO_jb, anO_jp, anO_ap, anO_nj, ok_R07_letter, ok_R07_Keyword L s hL', Option.bind_some, cond_ss, bor_c, e0, e2]
  by_cases h0 : s.size = 0
  · have : nameOK s = false := by unfold nameOK; rw [decide_eq_false (show ¬ 1 ≤ s.size by omega)]; rfl
    simp [h0, nameE, this]
  · have hb := getB (show 0 < s.size by omega)
    have e1 : nameOK s = (decide (s.size ≤ 24) && letZ (byteZ s 0) && !keyword s && okFrom s 0 s.size) := by unfold nameOK; rw [decide_eq_true (show 1 ≤ s.size by omega)]; rfl
    simp only [Int.ofNat_zero, Int.natCast_zero] at hj
    simp only [h0, decide_false, Bool.false_or, Int.le_refl, Nat.le_refl, if_true, Int.toNat_zero, hb, cond_true, hj, Option.bind_some, nameE, e1, byteZ]
    cases decide (s.size ≤ 24) <;> cases letZ (optByte s[0]?) <;> cases keyword s <;> cases okFrom s 0 s.size <;> rfl
theorem q_R09_Nodes_1 (rec81 : api_Expr → Option Int) (L : Nat) (a0 : api_Expr) : ∀ (k : List api_Expr) (i : Nat) (v : Int), (∀ x ∈ k, rec81 x = some (nodesE x)) → ∃ j, lq_R09_Nodes_1 rec81 L a0 k i v = some (0, (nodesL k v, j)) := by
  intro k
  induction k with
  | nil => intro i v _; exact ⟨_, rfl⟩
  | cons x k ih =>
    intro i v h
    obtain ⟨j, hj⟩ := ih (i + 1) (w64 (v + nodesE x)) fun y hy => h y (by simp [hy])
    exact ⟨j, by simp only [lq_R09_Nodes_1, h x (by simp), Option.bind_some, hj, nodesL]⟩
theorem ok_R09_Nodes {e : api_Expr} (h : Ok_api_Expr e) : ∀ L, maxLen + dE e < L → F_R09_Nodes L e = some (nodesE e) := by
  induction h with
  | mk a0 a1 a2 a3 h0 h1 h2 h3 h4 ih =>
    intro L hL
    obtain ⟨L, rfl⟩ : ∃ k, L = k + 1 := ⟨L - 1, by omega⟩
    rw [dE] at hL
    have hr : ∀ x ∈ a3, F_R09_Nodes L x = some (nodesE x) := fun x hx => ih x hx L (by have := dEs_mem hx; omega)
    obtain ⟨j, hj⟩ := q_R09_Nodes_1 (F_R09_Nodes L) L (.mk a0 a1 a2 a3) a3 0 1 hr
    simp only [T_R09_Nodes, B_R09_Nodes, F_R09_Nodes, anO_bd, anO_fl, anO_cn, anO_gd, anO_fk, anO_sl, anO_lf, anO_jb, anO_jp, anO_ap, anO_nj, api_Expr.cp_eq, api_Expr.Op, api_Expr.Name, api_Expr.N, api_Expr.Kids, api_Expr.eta, lq0_R09_Nodes_1 _ _ (.mk a0 a1 a2 a3) _ h3 (show a3.length < L by omega), hj, Option.bind_some, sel0, nodesE]
theorem q_R09_Depth_1 (rec82 : api_Expr → Option Int) (L : Nat) (a0 : api_Expr) : ∀ (k : List api_Expr) (i : Nat) (v : Int), (∀ x ∈ k, rec82 x = some (depthE x)) → ∃ j, lq_R09_Depth_1 rec82 L a0 k i v = some (0, (depthL k v, j)) := by
  intro k
  induction k with
  | nil => intro i v _; exact ⟨_, rfl⟩
  | cons x k ih =>
    intro i v h
    obtain ⟨j, hj⟩ := ih (i + 1) (if depthE x > v then depthE x else v) fun y hy => h y (by simp [hy])
    exact ⟨j, by simp only [lq_R09_Depth_1, h x (by simp), Option.bind_some, hj, depthL]⟩
theorem ok_R09_Depth {e : api_Expr} (h : Ok_api_Expr e) : ∀ L, maxLen + dE e < L → F_R09_Depth L e = some (depthE e) := by
  induction h with
  | mk a0 a1 a2 a3 h0 h1 h2 h3 h4 ih =>
    intro L hL
    obtain ⟨L, rfl⟩ : ∃ k, L = k + 1 := ⟨L - 1, by omega⟩
    rw [dE] at hL
    have hr : ∀ x ∈ a3, F_R09_Depth L x = some (depthE x) := fun x hx => ih x hx L (by have := dEs_mem hx; omega)
    obtain ⟨j, hj⟩ := q_R09_Depth_1 (F_R09_Depth L) L (.mk a0 a1 a2 a3) a3 0 0 hr
    simp only [T_R09_Depth, B_R09_Depth, F_R09_Depth, anO_bd, anO_fl, anO_cn, anO_gd, anO_fk, anO_sl, anO_lf, anO_jb, anO_jp, anO_ap, anO_nj, api_Expr.cp_eq, api_Expr.Op, api_Expr.Name, api_Expr.N, api_Expr.Kids, api_Expr.eta, lq0_R09_Depth_1 _ _ (.mk a0 a1 a2 a3) _ h3 (show a3.length < L by omega), hj, Option.bind_some, sel0, depthE]
theorem ok_R09_Arity (L : Nat) (op : Int) : F_R09_Arity L op = some (arity op) := by
  simp only [T_R09_Arity, F_R09_Arity, anO_bd, anO_fl, anO_cn, anO_gd, anO_fk, anO_sl, anO_lf, anO_jb, anO_jp, anO_ap, anO_nj, arity, band_c, bor_c, cond_ss]
  congr 1
  grind
theorem ok_R09_object (L : Nat) (op : Int) : F_R09_object L op = some (objOp op) := by
  simp only [T_R09_object, F_R09_object, anO_bd, anO_fl, anO_cn, anO_gd, anO_fk, anO_sl, anO_lf, anO_jb, anO_jp, anO_ap, anO_nj, objOp, band_c]
theorem ok_R01_In (L : Nat) (n : Int) : F_R01_In L n = some (inZ n) := by
  simp only [T_R01_In, F_R01_In, anO_bd, anO_fl, anO_cn, anO_gd, anO_fk, anO_sl, anO_lf, anO_jb, anO_jp, anO_ap, anO_nj, inZ, band_c]
theorem ok_R09_most (L : Nat) (op : Int) : F_R09_most L op = some (if op = 25 then 15 else if op = 26 then 31 else 63) := by
  simp only [T_R09_most, F_R09_most, anO_bd, anO_fl, anO_cn, anO_gd, anO_fk, anO_sl, anO_lf, anO_jb, anO_jp, anO_ap, anO_nj, cond_ss]
  congr 1
  grind
theorem q_R09_node_1 (rec83 : api_Expr → Bool → Option Int) (L : Nat) (a1 : api_Expr) (c : Bool) : ∀ (k : List api_Expr) (i : Nat) (v : Int), (∀ x ∈ k, rec83 x c = some (chkE c x)) → ∃ j, lq_R09_node_1 rec83 L c a1 k i v = some (bif chkL c k != 0 then (0, (chkL c k, j)) else (1, (v, j))) := by
  intro k
  induction k with
  | nil => intro i v _; exact ⟨i, rfl⟩
  | cons x k ih =>
    intro i v h
    obtain ⟨j, hj⟩ := ih (i + 1) v fun y hy => h y (by simp [hy])
    by_cases hx : chkE c x = 0
    · exact ⟨j, by simp [lq_R09_node_1, h x (by simp), hj, chkL, hx]⟩
    · exact ⟨(i : Int), by simp [lq_R09_node_1, h x (by simp), hj, chkL, hx, ne0 hx]⟩
theorem ok_R09_node {e : api_Expr} (h : Ok_api_Expr e) (c : Bool) : ∀ L, maxLen + dE e < L → F_R09_node L e c = some (chkE c e) := by
  induction h with
  | mk a0 a1 a2 a3 h0 h1 h2 h3 h4 ih =>
    intro L hL
    obtain ⟨L, rfl⟩ : ∃ k, L = k + 1 := ⟨L - 1, by omega⟩
    rw [dE] at hL
    have hr : ∀ x ∈ a3, F_R09_node L x c = some (chkE c x) := fun x hx => ih x hx L (by have := dEs_mem hx; omega)
    obtain ⟨j, hj⟩ := q_R09_node_1 (F_R09_node L) L (.mk a0 a1 a2 a3) c a3 0 0 hr
    have h1' : a1.size ≤ maxLen := h1
    have hm : (80 : Nat) < maxLen := by decide
    have hloop : (Option.bind (lp_R09_node_1 (F_R09_node L) L c (.mk a0 a1 a2 a3) L 0 0) fun o => selo o.1 [some o.2.1, some 0]) = some (chkL c a3) := by
      rw [lq0_R09_node_1 _ _ _ (.mk a0 a1 a2 a3) _ h3 (show a3.length < L by omega)]
      simp only [api_Expr.cp_eq, api_Expr.Op, api_Expr.Name, api_Expr.N, api_Expr.Kids, api_Expr.eta, hj, Option.bind_some]
      by_cases h' : chkL c a3 = 0
      · simp [h', sel1]
      · simp [sel0, ne0 h']
    simp only [tx_R09_node_4, sx_R09_node_3, tx_R09_node_3, sx_R09_node_2, tx_R09_node_2, sx_R09_node_1, tx_R09_node_1, sx_R09_node_0, T_R09_node, B_R09_node, F_R09_node, anO_bd, anO_fl, anO_cn, anO_gd, anO_fk, anO_sl, anO_lf, anO_jb, anO_jp, anO_ap, anO_nj, api_Expr.cp_eq, api_Expr.Op, api_Expr.Name, api_Expr.N, api_Expr.Kids, api_Expr.eta, hloop, ok_R09_Arity, ok_R09_object, ok_R01_In, ok_R09_most, ok_R07_Check L a1 h1 (show a1.size < L by omega) (show 80 < L by omega), str_eq, band_c, bor_c, cond_ss, Option.bind_some, chkE]
    congr 1
    generalize chkL c a3 = rest
    unfold nodeE badForm mostOp
    simp only [api_Expr.cp_eq, api_Expr.Op, api_Expr.Name, api_Expr.N, api_Expr.Kids, api_Expr.eta]
    clear hj hloop hr ih h4 h0 h1 h2 h3 h1' hL hm
    have hop := opCases a0
    rcases hop with rfl | rfl | rfl | rfl | rfl | rfl | rfl | rfl | rfl | rfl | rfl | rfl | rfl | rfl | rfl | rfl | rfl | rfl | rfl | rfl | rfl | rfl | rfl | rfl | rfl | rfl | hop | hop <;> cases c
    all_goals first | (simp [namedOp, knownOp, objOp, arity]; done) | (simp [namedOp, knownOp, objOp, arity]; grind) | grind [namedOp, knownOp, objOp, arity]
theorem ok_R09_check {e : api_Expr} (h : Ok_api_Expr e) (c : Bool) (L : Nat) (hL : maxLen + dE e < L) : F_R09_check L e c = some (checkE c e) := by
  simp only [T_R09_check, F_R09_check, anO_bd, anO_fl, anO_cn, anO_gd, anO_fk, anO_sl, anO_lf, anO_jb, anO_jp, anO_ap, anO_nj, api_Expr.cp_eq, ok_R09_Nodes h L hL, ok_R09_Depth h L hL, ok_R09_node h c L hL, Option.bind_some, cond_ss, checkE]
  congr 1
  grind
theorem ok_R09_Check {e : api_Expr} (h : Ok_api_Expr e) (L : Nat) (hL : maxLen + dE e < L) : F_R09_Check L e = some (checkE false e) := by
  simp only [T_R09_Check, F_R09_Check, anO_bd, anO_fl, anO_cn, anO_gd, anO_fk, anO_sl, anO_lf, anO_jb, anO_jp, anO_ap, anO_nj, api_Expr.cp_eq, ok_R09_check h _ L hL, Option.bind_some]
end Go.Proofs.YtonfmpiikdmndaaGreat.Ev
