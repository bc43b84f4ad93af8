/-  Chapter 51, plainly: the statements on neighbors and on every second point. -/
import Derived.Test.YtaaiehkfndibkaaGreatQ2
import Derived.Test.YtaaiehkfndibkaaGreatDe
import Derived.Test.YtaaiehkfndibkaaGreatDf
namespace Go.Proofs.YtaaiehkfndibkaaGreat.Ev
open Go
set_option maxRecDepth 100000
set_option linter.unusedVariables false
set_option linter.unusedSimpArgs false
set_option linter.unnecessarySimpa false
theorem near_small {f : List api_Factor} (hs : SmF f) (x : List Int) (hx : x.length ≤ 100) : (nearR f x).1.length ≤ 200 ∧ ∀ y ∈ (nearR f x).1, y.length ≤ 100 := by
  unfold nearR
  split
  · simp
  · have h := nearX_len x (fL f) x 0
    exact ⟨Nat.le_trans h.1 (by omega), fun y hy => by rw [h.2 y hy]; exact hx⟩
theorem half_small (f : List api_Factor) : (halfR f).length ≤ 200 := by
  unfold halfR
  split
  · simp
  · rename_i h
    have h := use_ok (Classical.not_not.1 h)
    have := half_len f (sizeF f) 0
    have := h.most
    omega
theorem law_DesignParts (f : List api_Factor) (x : List Int) (hf : f.length ≤ maxLen ∧ ∀ y ∈ f, Ok_api_Factor y) (hx : x.length ≤ maxLen ∧ ∀ y ∈ x, okI .i64 y) (hb : (sumL bk_api_Factor f + 1) + (sumL (fun (z : Int) => 1) x + 1) ≤ 1048576) : ∃ L, F_L51_DesignParts L f x = some true := by
  refine ⟨maxLen + 2000, ?_⟩
  have hM := maxLen_eq
  simp only [T_L51_DesignParts, F_L51_DesignParts, anO_bd, anO_fl, anO_cn, anO_gd, anO_fk, anO_sl, anO_lf, anO_jb, anO_jp, anO_ap, anO_nj, ok_L51_small _ f hf.1 (show f.length < maxLen + 2000 by have := hf.1; omega), awake51, Option.bind_some]
  cases hs : smallB f with
  | false => rfl
  | true =>
    have hs := smF hs
    cases hd : decide ((x.length : Int) > 100) with
    | true => rfl
    | false =>
      have hl := xlen hd
      obtain ⟨p1, p2⟩ := ok_Nears (maxLen + 2000) f x hs (by omega)
      obtain ⟨s1, s2⟩ := ok_Halfs (maxLen + 2000) f hs (by omega)
      obtain ⟨n1, n2⟩ := near_small hs x hl
      have h1 := half_small f
      simp only [Bool.not_true, cond_false, p1, p2, s1, s2, Option.bind_some, beq_self_eq_true, cond_true, ok_R51_Same (maxLen + 2000) (halfR f) (halfR f) (by omega) (by omega), ok_R51_SamePoints (maxLen + 2000) (nearR f x).1 (nearR f x).1 (by omega) (by omega) (fun y hy => by have := n2 y hy; omega), decide_true]
theorem q_L51_contains_1 (L : Nat) (a : List (List Int)) (x : List Int) : ∀ (k : List (List Int)) (i : Nat) (v : Bool), (∀ y ∈ k, y.length ≤ maxLen ∧ y.length < L) → ∃ j, lq_L51_contains_1 L a x k i v = some (bif decide (x ∈ k) then (0, (true, j)) else (1, (v, j))) := by
  intro k
  induction k with
  | nil => intro i v _; exact ⟨i, rfl⟩
  | cons y k ih =>
    intro i v h
    obtain ⟨j, hj⟩ := ih (i + 1) v fun x hx => h x (by simp [hx])
    obtain ⟨l1, l2⟩ := h y (by simp)
    rw [lq_L51_contains_1, ok_R51_Same L y x l1 l2, Option.bind_some, hj]
    by_cases e : y = x
    · rw [decide_eq_true e, decide_eq_true (show x ∈ y :: k by simp [e])]; exact ⟨i, rfl⟩
    · rw [decide_eq_false e, decide_eq_decide.2 (show x ∈ y :: k ↔ x ∈ k by rw [List.mem_cons]; exact or_iff_right (fun h => e h.symm))]; exact ⟨j, rfl⟩
theorem ok_L51_contains (L : Nat) (a : List (List Int)) (x : List Int) (hl : a.length ≤ maxLen) (hL : a.length < L) (h : ∀ y ∈ a, y.length ≤ maxLen ∧ y.length < L) : F_L51_contains L a x = some (decide (x ∈ a)) := by
  obtain ⟨j, hj⟩ := q_L51_contains_1 L a x a 0 false h
  simp only [T_L51_contains, F_L51_contains, anO_bd, anO_fl, anO_cn, anO_gd, anO_fk, anO_sl, anO_lf, anO_jb, anO_jp, anO_ap, anO_nj, lq0_L51_contains_1 L a x L hl hL, hj]
  cases decide (x ∈ a) <;> rfl
theorem q_L51_in_1 (L : Nat) (a : List Int) (x : Int) : ∀ (k : List Int) (i : Nat) (v : Bool), ∃ j, lq_L51_in_1 L a x k i v = some (bif decide (x ∈ k) then (0, (true, j)) else (1, (v, j))) := by
  intro k
  induction k with
  | nil => intro i v; exact ⟨i, rfl⟩
  | cons y k ih =>
    intro i v
    obtain ⟨j, hj⟩ := ih (i + 1) v
    rw [lq_L51_in_1, hj]
    by_cases e : y = x
    · rw [show (y == x) = true by simpa using e, decide_eq_true (show x ∈ y :: k by simp [e])]; exact ⟨i, rfl⟩
    · rw [show (y == x) = false by simpa using e, decide_eq_decide.2 (show x ∈ y :: k ↔ x ∈ k by rw [List.mem_cons]; exact or_iff_right (fun h => e h.symm))]; exact ⟨j, rfl⟩
theorem ok_L51_in (L : Nat) (a : List Int) (x : Int) (hl : a.length ≤ maxLen) (hL : a.length < L) : F_L51_in L a x = some (decide (x ∈ a)) := by
  obtain ⟨j, hj⟩ := q_L51_in_1 L a x a 0 false
  simp only [T_L51_in, F_L51_in, anO_bd, anO_fl, anO_cn, anO_gd, anO_fk, anO_sl, anO_lf, anO_jb, anO_jp, anO_ap, anO_nj, lq0_L51_in_1 L a x L hl hL, hj]
  cases decide (x ∈ a) <;> rfl
def distN : List Nat → List Nat → Nat
  | a :: u, b :: v => ((a - b) + (b - a)) + distN u v
  | _, _ => 0
theorem dist_self : ∀ (x : List Nat), distN x x = 0
  | [] => rfl
  | a :: x => by rw [distN, dist_self x]; omega
theorem dist_set : ∀ (x : List Nat) (k v : Nat), k < x.length → distN x (x.set k v) = (x.getD k 0 - v) + (v - x.getD k 0)
  | [], k, v, h => by simp at h
  | a :: x, 0, v, h => by simp [distN, dist_self]
  | a :: x, k + 1, v, h => by
    have := dist_set x k v (by simpa using h)
    rw [List.set_cons_succ, distN, this, List.getD_cons_succ]; omega
theorem q_dist (L : Nat) (f : List api_Factor) (x : List Int) (b0 : Bool) (r4 : List (List Int) × Int) (r8 : List Int) (r9 : Int × Int) (v : Nat) (r10 : List (List Int) × Int) (r11 : Int × Int) (y : List Nat) (hv : v < r4.1.length) (hy : r4.1.getD v default = toI y) (hyl : ∀ a ∈ y, a ≤ 1000) :
    ∀ (k : List Nat) (i s : Nat), i + k.length = y.length → (∀ a ∈ k, a ≤ 1000) → s + distN k (y.drop i) ≤ 1000000000 → ∃ j, lq_L51_DesignNeighbors_2 L f x b0 r4 r8 r9 v r10 r11 (toI k) i s = some (0, (((s + distN k (y.drop i) : Nat) : Int), j)) := by
  intro k
  induction k with
  | nil => intro i s _ _ _; exact ⟨i, by simp [toI, lq_L51_DesignNeighbors_2, distN]⟩
  | cons a k ih =>
    intro i s h ha hb
    rw [List.length_cons] at h
    have hlt : i < y.length := by omega
    have d : y.drop i = y.getD i 0 :: y.drop (i + 1) := dropG y i hlt
    rw [d, distN] at hb ⊢
    have hyi : y.getD i 0 ≤ 1000 := hyl _ (by
      have : y.getD i 0 = y[i] := by simp [List.getD, hlt]
      rw [this]; exact List.getElem_mem hlt)
    have hai := ha a (by simp)
    have hlen : (toI y).length = y.length := by simp [toI]
    have w1 : w64 (((y.getD i 0 : Nat) : Int) - (a : Int)) = ((y.getD i 0 : Nat) : Int) - (a : Int) := w64_id (by omega) (by omega)
    have w2 : w64 ((a : Int) - ((y.getD i 0 : Nat) : Int)) = (a : Int) - ((y.getD i 0 : Nat) : Int) := w64_id (by omega) (by omega)
    obtain ⟨j, hj⟩ := ih (i + 1) (s + ((a - y.getD i 0) + (y.getD i 0 - a))) (by omega) (fun b hb => ha b (by simp [hb])) (by omega)
    refine ⟨j, ?_⟩
    show lq_L51_DesignNeighbors_2 L f x b0 r4 r8 r9 v r10 r11 ((a : Int) :: toI k) i s = _
    simp only [lq_L51_DesignNeighbors_2, nn, if_true, ltI hv, toN, hy, hlen, ltI hlt, toI_getD y i hlt, w1, w2]
    have e : (if ((y.getD i 0 : Nat) : Int) - (a : Int) > (a : Int) - ((y.getD i 0 : Nat) : Int) then ((y.getD i 0 : Nat) : Int) - (a : Int) else (a : Int) - ((y.getD i 0 : Nat) : Int)) = ((((a - y.getD i 0) + (y.getD i 0 - a)) : Nat) : Int) := by
      split <;> omega
    rw [e, addNN, w64_id (by omega) (by omega), hj, Nat.add_assoc]
theorem q_Neighbors (L : Nat) (f : List api_Factor) (x : List Nat) (hs : SmF f) (hL : 1000 < L) (hu : UF f) (he : useE f = 0) (hx : okN (fL f) x) (e4 : Int) :
    ∀ (k : List (List Nat)) (i : Nat) (v : Bool) (W : List (List Nat)), W.drop i = k → (∀ y ∈ k, y ∈ nearN x (fL f) x 0) →
    ∃ j, lq_L51_DesignNeighbors_1 L f (toI x) (W.map toI, e4) (halfR f) (indexR f (toI x)) (k.map toI) i v = some (1, (v, j)) := by
  have hM := maxLen_eq
  have hl100 := hs.len
  have hfl : (fL f).length = f.length := by simp [fL]
  have hxl : x.length = f.length := by rw [okN_len hx, hfl]
  have h6 := hu.len
  have hhalf := half_small f
  have ix : ∀ y, okN (fL f) y → pchk f (toI y) = 0 ∧ indexR f (toI y) = (((ixN (fL f) y 0 : Nat) : Int), 0) := fun y hy => by
    have hl : (toI y).length = f.length := by simp [toI, okN_len hy, hfl]
    have hc := pchk_of he hl (okN_X hy)
    exact ⟨hc, by unfold indexR; rw [if_neg (by simp [hc]), toN_toI]⟩
  have par : ∀ y, okN (fL f) y → (((ixN (fL f) y 0 : Nat) : Int) ∈ halfR f ↔ sumN y % 2 = 0) := fun y hy => by
    have h1 := ix_lt hy
    have h2 := pt_ix 0 hy
    rw [Nat.zero_mul, Nat.zero_add] at h2
    unfold halfR
    rw [if_neg (by simp [he]), half_mem, h2, hu.size]
    exact ⟨fun h => h.2.2, fun h => ⟨by omega, by omega, h⟩⟩
  have small : ∀ y, okN (fL f) y → ∀ a ∈ y, a ≤ 1000 := fun y hy a ha => by
    obtain ⟨q, hq, rfl⟩ := List.getElem_of_mem ha
    have hq' : q < (fL f).length := by rw [← okN_len hy]; exact hq
    have h1 := ok_get hy q hq'
    have h2 : (fL f).getD q 0 ≤ 300 := by
      have : (fL f).getD q 0 = (fL f)[q] := by simp [List.getD, hq']
      rw [this]
      obtain ⟨b, hb, e⟩ := List.mem_map.1 (List.getElem_mem hq')
      rw [← e]; exact hs.lev b hb
    have h3 : y.getD q 0 = y[q] := by simp [List.getD, hq]
    omega
  intro k
  induction k with
  | nil => intro i v W _ _; exact ⟨i, rfl⟩
  | cons y k ih =>
    intro i v W hW hk
    have hi : i < W.length := by
      have := congrArg List.length hW
      simp at this; omega
    have hWi : W[i] = y ∧ W.drop (i + 1) = k := by
      rw [List.drop_eq_getElem_cons hi] at hW
      injection hW with h1 h2
      exact ⟨h1, h2⟩
    obtain ⟨j, hj⟩ := ih (i + 1) v W hWi.2 fun z hz => hk z (by simp [hz])
    have hy := hk y (by simp)
    obtain ⟨y1, y2, y3⟩ := near_back hx hy
    obtain ⟨c1, c2⟩ := ix y y1
    obtain ⟨c3, c4⟩ := ix x hx
    have hyl : y.length = f.length := by rw [okN_len y1, hfl]
    have nr : nearR f (toI y) = ((nearN y (fL f) y 0).map toI, 0) := by
      unfold nearR
      rw [if_neg (by simp [c1]), nearX_N]
    have nl := nearX_len (toI y) (fL f) (toI y) 0
    rw [nearX_N] at nl
    have hty : (toI y).length = y.length := by simp [toI]
    have htx : (toI x).length = x.length := by simp [toI]
    have cont : F_L51_contains L ((nearN y (fL f) y 0).map toI) (toI x) = some true := by
      rw [ok_L51_contains L _ _ (by omega) (by omega) (fun z hz => by rw [nl.2 z hz, hty]; omega), decide_eq_true (List.mem_map.2 ⟨x, y2, rfl⟩)]
    have hin : ∀ z, F_L51_in L (halfR f) z = some (decide (z ∈ halfR f)) := fun z => ok_L51_in L _ z (by omega) (by omega)
    have hxor : (decide (((ixN (fL f) x 0 : Nat) : Int) ∈ halfR f) == decide (((ixN (fL f) y 0 : Nat) : Int) ∈ halfR f)) = false := by
      rw [decide_eq_decide.2 (par x hx), decide_eq_decide.2 (par y y1)]
      by_cases p : sumN x % 2 = 0
      · rw [decide_eq_true p, decide_eq_false (fun q => y3 (by omega))]; rfl
      · rw [decide_eq_false p, decide_eq_true (show sumN y % 2 = 0 by omega)]; rfl
    have hd : distN x y = 1 := by
      obtain ⟨q, w, g1, g2, _, g3⟩ := near_of hx hy
      rw [g2, dist_set x q w g1]
      omega
    have hg : (W.map toI).getD i default = toI y := by
      rw [getD_eq _ i (by simpa using hi), List.getElem_map, hWi.1]
    obtain ⟨j2, hj2⟩ := q_dist L f (toI x) v (W.map toI, e4) (halfR f) (((ixN (fL f) x 0 : Nat) : Int), 0) i ((nearN y (fL f) y 0).map toI, 0) (((ixN (fL f) y 0 : Nat) : Int), 0) y (by simpa using hi) hg (small y y1) x 0 0 (by omega) (small x hx) (by rw [List.drop_zero]; omega)
    rw [List.drop_zero, hd] at hj2
    refine ⟨j, ?_⟩
    rw [c4] at hj ⊢
    have hlt : (i : Int) < (((W.map toI).length : Nat) : Int) := by simp; omega
    simp only [List.map_cons, lq_L51_DesignNeighbors_1, (ok_Nears L f (toI y) hs (by omega)).1, ok_design_Index L f (toI y) hs (by omega), nr, c2, Option.bind_some, bne_self_eq_false, cond_false, cont, Bool.not_true, hin, hxor, nn, if_true, hlt, hty, htx, hyl, hxl, lq0_L51_DesignNeighbors_2 L f (toI x) v (W.map toI, e4) (halfR f) (((ixN (fL f) x 0 : Nat) : Int), 0) i ((nearN y (fL f) y 0).map toI, 0) (((ixN (fL f) y 0 : Nat) : Int), 0) L (show (toI x).length ≤ maxLen by omega) (show (toI x).length < L by omega)]
    rw [show lq_L51_DesignNeighbors_2 L f (toI x) v (W.map toI, e4) (halfR f) (((ixN (fL f) x 0 : Nat) : Int), 0) i ((nearN y (fL f) y 0).map toI, 0) (((ixN (fL f) y 0 : Nat) : Int), 0) (toI x) 0 0 = _ from hj2]
    rw [Option.bind_some, sel0, hj]
    rfl
theorem law_DesignNeighbors (f : List api_Factor) (x : List Int) (hf : f.length ≤ maxLen ∧ ∀ y ∈ f, Ok_api_Factor y) (hx : x.length ≤ maxLen ∧ ∀ y ∈ x, okI .i64 y) (hb : (sumL bk_api_Factor f + 1) + (sumL (fun (z : Int) => 1) x + 1) ≤ 1048576) : ∃ L, F_L51_DesignNeighbors L f x = some true := by
  refine ⟨maxLen + 2000, ?_⟩
  have hM := maxLen_eq
  simp only [T_L51_DesignNeighbors, F_L51_DesignNeighbors, anO_bd, anO_fl, anO_cn, anO_gd, anO_fk, anO_sl, anO_lf, anO_jb, anO_jp, anO_ap, anO_nj, ok_L51_small _ f hf.1 (show f.length < maxLen + 2000 by have := hf.1; omega), awake51, Option.bind_some]
  cases hs : smallB f with
  | false => rfl
  | true =>
    have hs := smF hs
    cases hd : decide ((x.length : Int) > 100) with
    | true => rfl
    | false =>
      have hl := xlen hd
      obtain ⟨p1, _⟩ := ok_Nears (maxLen + 2000) f x hs (by omega)
      obtain ⟨s1, _⟩ := ok_Halfs (maxLen + 2000) f hs (by omega)
      simp only [Bool.not_true, cond_false, p1, s1, ok_design_Index _ f x hs (show 100 < maxLen + 2000 by omega), Option.bind_some]
      by_cases h : pchk f x = 0
      · obtain ⟨hu, h2, h3⟩ := pchk_ok h
        have he : useE f = 0 := by
          unfold pchk at h
          split at h
          · rename_i h1; exact absurd h h1
          · rename_i h1; exact Classical.not_not.1 h1
        obtain ⟨k1, k2⟩ := okX_N h3
        have nr : nearR f x = ((nearN (toN' x) (fL f) (toN' x) 0).map toI, 0) := by
          unfold nearR
          rw [if_neg (by simp [h]), ← nearX_N, k2]
        have hix : (indexR f x).2 = 0 := by unfold indexR; rw [if_neg (by simp [h])]
        have nl := nearX_len x (fL f) x 0
        have nl1 : ((nearN (toN' x) (fL f) (toN' x) 0).map toI).length ≤ 200 := by rw [← nearX_N, k2]; omega
        obtain ⟨j, hj⟩ := q_Neighbors (maxLen + 2000) f (toN' x) hs (by omega) hu he k1 0 (nearN (toN' x) (fL f) (toN' x) 0) 0 false (nearN (toN' x) (fL f) (toN' x) 0) rfl (fun y hy => hy)
        rw [k2] at hj
        rw [nr, lq0_L51_DesignNeighbors_1 (maxLen + 2000) f x _ _ _ (maxLen + 2000) (show ((nearN (toN' x) (fL f) (toN' x) 0).map toI).length ≤ maxLen by omega) (show ((nearN (toN' x) (fL f) (toN' x) 0).map toI).length < maxLen + 2000 by omega), hj, hix]
        rfl
      · have e1 : nearR f x = ([], pchk f x) := if_pos h
        rw [e1, ne0 h]; rfl
end Go.Proofs.YtaaiehkfndibkaaGreat.Ev
