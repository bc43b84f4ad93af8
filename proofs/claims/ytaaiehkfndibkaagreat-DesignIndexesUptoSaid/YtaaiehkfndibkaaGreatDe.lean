/-  Chapter 51, plainly: the statements on points and their numbers. -/
import Derived.Test.YtaaiehkfndibkaaGreatQ1
import Derived.Test.YtaaiehkfndibkaaGreatQ2
import Derived.Test.YtaaiehkfndibkaaGreatDd
import Derived.Test.YtaaiehkfndibkaaGreatR0
import Derived.Test.YtaaiehkfndibkaaGreatR1
namespace Go.Proofs.YtaaiehkfndibkaaGreat.Ev
open Go
set_option maxRecDepth 100000
set_option linter.unusedVariables false
set_option linter.unusedSimpArgs false
set_option linter.unnecessarySimpa false
theorem awake51 (L : Nat) : F_L51_awake L = some true := rfl
theorem law_DesignPoints (f : List api_Factor) (i : Int) (x : List Int) (hf : f.length ≤ maxLen ∧ ∀ y ∈ f, Ok_api_Factor y) (hi : okI .i64 i) (hx : x.length ≤ maxLen ∧ ∀ y ∈ x, okI .i64 y) (hb : (sumL bk_api_Factor f + 1) + (sumL (fun (z : Int) => 1) x + 1) ≤ 1048576) : ∃ L, F_L51_DesignPoints L f i x = some true := by
  refine ⟨maxLen + 1000, ?_⟩
  have hL : 100 < maxLen + 1000 := by omega
  simp only [T_L51_DesignPoints, F_L51_DesignPoints, anO_bd, anO_fl, anO_cn, anO_gd, anO_fk, anO_sl, anO_lf, anO_jb, anO_jp, anO_ap, anO_nj, ok_L51_small _ f hf.1 (show f.length < maxLen + 1000 by have := hf.1; omega), awake51, Option.bind_some]
  cases hs : smallB f with
  | false => rfl
  | true =>
    have hs := smF hs
    cases hd : decide ((x.length : Int) > 100) with
    | true => rfl
    | false =>
      obtain ⟨p1, p2⟩ := ok_Points (maxLen + 1000) f i hs hL
      obtain ⟨s1, s2⟩ := ok_Settings (maxLen + 1000) f x hs hL
      have hM := maxLen_eq
      have l1 : (pointR f i).1.length ≤ 100 := by
        have := hs.len
        unfold pointR; split
        · simp
        split
        · simp
        · simp only [toI, List.length_map, ptN_len, fL]; omega
      have l2 : ∀ (f : List api_Factor) (x : List Int), (setA f x).length ≤ f.length := by
        intro f
        induction f with
        | nil => intro x; cases x <;> simp [setA]
        | cons y f ih => intro x; cases x with
          | nil => simp [setA]
          | cons a x => simpa [setA] using ih x
      have l3 : (setsR f x).1.length ≤ 100 := by
        have := hs.len
        have := l2 f x
        unfold setsR; split
        · simp
        · simp only; omega
      simp only [Bool.not_true, cond_false, p1, p2, s1, s2, ok_design_Index _ f x hs hL, ok_R51_Index _ f x hs hL, Option.bind_some, beq_self_eq_true, cond_true, ok_R51_Same (maxLen + 1000) (pointR f i).1 (pointR f i).1 (by omega) (by omega), ok_R16_SameSettings (maxLen + 1000) (setsR f x).1 (setsR f x).1 (by omega) (by omega), decide_true]
theorem toI_getD (a : List Nat) (k : Nat) (h : k < a.length) : (toI a).getD k default = ((a.getD k 0 : Nat) : Int) := by
  rw [getD_eq _ k (by simpa [toI] using h)]
  simp [toI, List.getD, h]
theorem lp_before (L : Nat) (A B : List Nat) (hA : A.length ≤ 1000) (hAB : A.length = B.length) : ∀ (m i n : Nat) (v : Bool), i + m = A.length → m < n → ∃ o : Nat × Bool × Int, lp_L51_before_1 L (toI A) (toI B) n v i = some o ∧
    ((befN (A.drop i) (B.drop i) = true → o.1 = 0 ∧ o.2.1 = true)) := by
  intro m
  induction m with
  | zero =>
    intro i n v hi hn
    obtain ⟨n, rfl⟩ : ∃ k, n = k + 1 := ⟨n - 1, by omega⟩
    have e1 : (toI A).length = A.length := by simp [toI]
    have e2 : A.drop i = [] := List.drop_eq_nil_of_le (by omega)
    refine ⟨(1, v, (i : Int)), ?_, fun h => by rw [e2] at h; simp [befN] at h⟩
    simp only [lp_L51_before_1, lb_L51_before_1, anO_bd, anO_fl, anO_cn, anO_gd, anO_fk, anO_sl, anO_lf, anO_jb, anO_jp, anO_ap, anO_nj, e1, d_ge (show A.length ≤ i by omega), cond_false]
  | succ m ih =>
    intro i n v hi hn
    have hM := maxLen_eq
    obtain ⟨n, rfl⟩ : ∃ k, n = k + 1 := ⟨n - 1, by omega⟩
    have hlt : i < A.length := by omega
    have hlt2 : i < B.length := by omega
    have e1 : (toI A).length = A.length := by simp [toI]
    have e2 : (toI B).length = B.length := by simp [toI]
    obtain ⟨o, h1, h2⟩ := ih (i + 1) n v (by omega) (by omega)
    have d1 : A.drop i = A.getD i 0 :: A.drop (i + 1) := dropG A i hlt
    have d2 : B.drop i = B.getD i 0 :: B.drop (i + 1) := dropG B i hlt2
    simp only [lp_L51_before_1, lb_L51_before_1, anO_bd, anO_fl, anO_cn, anO_gd, anO_fk, anO_sl, anO_lf, anO_jb, anO_jp, anO_ap, anO_nj, e1, e2, d_lt hlt, d_lt hlt2, cond_true, nn, if_true, ltI hlt, ltI hlt2, toN, toI_getD A i hlt, toI_getD B i hlt2, w64_succ hlt (show A.length ≤ maxLen by omega), h1, d1, d2, befN]
    generalize A.getD i 0 = a at *
    generalize B.getD i 0 = b at *
    by_cases e : a = b
    · subst e
      refine ⟨o, by simp, ?_⟩
      simpa using h2
    · refine ⟨(0, decide ((a : Int) < (b : Int)), (i : Int)), by rw [show ((a : Int) != (b : Int)) = true from bne_iff_ne.2 (by omega)]; rfl, fun h => ⟨rfl, ?_⟩⟩
      rw [if_neg e] at h
      exact decide_eq_true (by have := of_decide_eq_true h; omega)
theorem law_DesignIndexes (f : List api_Factor) (i : Int) (hf : f.length ≤ maxLen ∧ ∀ y ∈ f, Ok_api_Factor y) (hi : okI .i64 i) (hb : (sumL bk_api_Factor f + 1) ≤ 1048576) : ∃ L, F_L51_DesignIndexes L f i = some true := by
  refine ⟨maxLen + 1000, ?_⟩
  have hM := maxLen_eq
  have hL : 100 < maxLen + 1000 := by omega
  simp only [T_L51_DesignIndexes, F_L51_DesignIndexes, anO_bd, anO_fl, anO_cn, anO_gd, anO_fk, anO_sl, anO_lf, anO_jb, anO_jp, anO_ap, anO_nj, ok_L51_small _ f hf.1 (show f.length < maxLen + 1000 by have := hf.1; omega), awake51, Option.bind_some]
  cases hs : smallB f with
  | false => rfl
  | true =>
    have hs := smF hs
    have hp := fun i => (ok_Points (maxLen + 1000) f i hs hL).1
    simp only [Bool.not_true, cond_false, hp, ok_design_Index _ f _ hs hL, ok_design_Size _ f hs hL, Option.bind_some]
    by_cases h1 : useE f ≠ 0
    · rw [pointR_e h1, ne0 h1]; rfl
    have h1 : useE f = 0 := Classical.not_not.1 h1
    by_cases h2 : i < 0 ∨ (sizeF f : Int) ≤ i
    · rw [pointR_r h1 h2]; rfl
    obtain ⟨m, rfl⟩ := Int.eq_ofNat_of_zero_le (by omega : 0 ≤ i)
    have hu := use_ok h1
    have hm := hu.most
    have hsz := hu.size
    have hlt : m < sizeF f := by omega
    rw [pointR_ok h1 hlt]
    have hlen : (toI (ptN (fL f) m).1).length = f.length := by simp [toI, ptN_len, fL]
    have hix : indexR f (toI (ptN (fL f) m).1) = ((m : Int), 0) := by
      have hc : pchk f (toI (ptN (fL f) m).1) = 0 := pchk_of h1 hlen (okN_X (pt_ok m hu.pos))
      unfold indexR
      rw [if_neg (by simp [hc]), toN_toI, ix_pt, Nat.mod_eq_of_lt (by omega)]
    simp only [hix, bne_self_eq_false, cond_false, hlen, decide_eq_false (show ¬ (m : Int) < 0 by omega), show decide ((m : Int) ≥ (sizeF f : Int)) = false from decide_eq_false (by omega), Option.bind_some]
    rw [w64_id (by omega) (by omega)]
    by_cases h3 : m + 1 < sizeF f
    · rw [show decide ((m : Int) + 1 < (sizeF f : Int)) = true from decide_eq_true (by omega), show ((m : Int) + 1) = ((m + 1 : Nat) : Int) from by omega, pointR_ok h1 h3]
      have hlen2 : (toI (ptN (fL f) (m + 1)).1).length = f.length := by simp [toI, ptN_len, fL]
      have hl := hs.len
      have e1 : (ptN (fL f) m).1.length = f.length := by simp [ptN_len, fL]
      have e2 : (ptN (fL f) (m + 1)).1.length = f.length := by simp [ptN_len, fL]
      obtain ⟨o, o1, o2⟩ := lp_before (maxLen + 1000) (ptN (fL f) m).1 (ptN (fL f) (m + 1)).1 (by omega) (by omega) f.length 0 (maxLen + 1000) false (by omega) (by omega)
      obtain ⟨o3, o4⟩ := o2 (by rw [List.drop_zero, List.drop_zero]; exact pt_lex hu.pos (by omega) (by omega))
      have hbef : F_L51_before (maxLen + 1000) (toI (ptN (fL f) m).1) (toI (ptN (fL f) (m + 1)).1) = some true := by
        simp only [T_L51_before, F_L51_before, anO_bd, anO_fl, anO_cn, anO_gd, anO_fk, anO_sl, anO_lf, anO_jb, anO_jp, anO_ap, anO_nj]
        rw [show (0 : Int) = ((0 : Nat) : Int) from rfl, o1, Option.bind_some, o3, o4]; rfl
      simp only [cond_true, Option.bind_some, bne_self_eq_false, cond_false, hlen2, hbef, Bool.not_true]
    · rw [show decide ((m : Int) + 1 < (sizeF f : Int)) = false from decide_eq_false (by omega)]; rfl
end Go.Proofs.YtaaiehkfndibkaaGreat.Ev
