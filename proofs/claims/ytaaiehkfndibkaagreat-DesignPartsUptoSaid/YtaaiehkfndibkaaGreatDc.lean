/-  Chapter 51, plainly: the size of a design; whether it is usable; its points. -/
import Derived.Test.YtaaiehkfndibkaaGreatQ1
import Derived.Test.YtaaiehkfndibkaaGreatDa
import Derived.Test.YtaaiehkfndibkaaGreatDb
namespace Go.Proofs.YtaaiehkfndibkaaGreat.Ev
open Go
set_option maxRecDepth 100000
set_option linter.unusedVariables false
set_option linter.unusedSimpArgs false
set_option linter.unnecessarySimpa false
def fL (f : List api_Factor) : List Nat := f.map fun x => x.Levels.length
def smallB (f : List api_Factor) : Bool := decide (f.length ≤ 100) && f.all fun x => decide (x.Levels.length ≤ 300)
theorem q_L51_small_1 (L : Nat) (a : List api_Factor) : ∀ (k : List api_Factor) (i : Nat) (v : Bool), ∃ j, lq_L51_small_1 L a k i v = some (bif k.all fun x => decide (x.Levels.length ≤ 300) then (1, (v, j)) else (0, (false, j))) := by
  intro k
  induction k with
  | nil => intro i v; exact ⟨i, rfl⟩
  | cons x k ih =>
    intro i v
    obtain ⟨j, hj⟩ := ih (i + 1) v
    rw [lq_L51_small_1, hj, List.all_cons]
    by_cases h : x.Levels.length ≤ 300
    · rw [decide_eq_true h, show decide ((x.Levels.length : Int) > 300) = false from decide_eq_false (by omega)]; exact ⟨j, rfl⟩
    · rw [decide_eq_false h, show decide ((x.Levels.length : Int) > 300) = true from decide_eq_true (by omega)]; exact ⟨i, rfl⟩
theorem ok_L51_small (L : Nat) (f : List api_Factor) (hl : f.length ≤ maxLen) (hL : f.length < L) : F_L51_small L f = some (smallB f) := by
  obtain ⟨j, hj⟩ := q_L51_small_1 L f f 0 false
  simp only [T_L51_small, F_L51_small, anO_bd, anO_fl, anO_cn, anO_gd, anO_fk, anO_sl, anO_lf, anO_jb, anO_jp, anO_ap, anO_nj, lq0_L51_small_1 L f L hl hL, hj, smallB]
  by_cases h : f.length ≤ 100
  · rw [show decide ((f.length : Int) > 100) = false from decide_eq_false (by omega), decide_eq_true h]
    cases f.all fun x => decide (x.Levels.length ≤ 300) <;> rfl
  · rw [show decide ((f.length : Int) > 100) = true from decide_eq_true (by omega), decide_eq_false h]; rfl
structure SmF (f : List api_Factor) : Prop where
  len : f.length ≤ 100
  lev : ∀ x ∈ f, x.Levels.length ≤ 300
theorem smF {f : List api_Factor} (h : smallB f = true) : SmF f := by
  unfold smallB at h
  rw [Bool.and_eq_true, List.all_eq_true] at h
  exact ⟨of_decide_eq_true h.1, fun x hx => of_decide_eq_true (h.2 x hx)⟩
/-- the product, stopped at the greatest number -/
def szN : List Nat → Nat → Nat
  | [], n => n
  | l :: ls, n => szN ls (min (n * l) mxN)
def sizeF (f : List api_Factor) : Nat := if f.length = 0 then 0 else szN (fL f) 1
theorem q_design_Size_1 (L : Nat) (a : List api_Factor) : ∀ (k : List api_Factor) (i n : Nat), n ≤ mxN → (∀ x ∈ k, x.Levels.length ≤ 300) → ∃ j, lq_design_Size_1 L a k i n = some (0, (((szN (fL k) n : Nat) : Int), j)) := by
  intro k
  induction k with
  | nil => intro i n _ _; exact ⟨i, rfl⟩
  | cons x k ih =>
    intro i n hn h
    have h1 := h x (by simp)
    obtain ⟨j, hj⟩ := ih (i + 1) (min (n * x.Levels.length) mxN) (Nat.min_le_right _ _) fun y hy => h y (by simp [hy])
    exact ⟨j, by rw [lq_design_Size_1, ok_num_Mul L n _ hn (by unfold mxN; omega), Option.bind_some, hj]; rfl⟩
theorem q_R51_Size_1 (L : Nat) (a : List api_Factor) : ∀ (k : List api_Factor) (i n : Nat), n ≤ mxN → (∀ x ∈ k, x.Levels.length ≤ 300) → ∃ j, lq_R51_Size_1 L a k i n = some (0, (((szN (fL k) n : Nat) : Int), j)) := by
  intro k
  induction k with
  | nil => intro i n _ _; exact ⟨i, rfl⟩
  | cons x k ih =>
    intro i n hn h
    have h1 := h x (by simp)
    obtain ⟨j, hj⟩ := ih (i + 1) (min (n * x.Levels.length) mxN) (Nat.min_le_right _ _) fun y hy => h y (by simp [hy])
    exact ⟨j, by rw [lq_R51_Size_1, ok_R01_Mul L n _ hn (by unfold mxN; omega), Option.bind_some, hj]; rfl⟩
theorem len0 (n : Nat) : ((n : Int) == 0) = decide (n = 0) := by
  by_cases h : n = 0
  · subst h; rfl
  · rw [decide_eq_false h]; simpa using h
theorem ok_design_Size (L : Nat) (f : List api_Factor) (hs : SmF f) (hL : 100 < L) : F_design_Size L f = some ((sizeF f : Nat) : Int) := by
  have hM := maxLen_eq
  have := hs.len
  obtain ⟨j, hj⟩ := q_design_Size_1 L f f 0 1 (by decide) hs.lev
  simp only [T_design_Size, F_design_Size, anO_bd, anO_fl, anO_cn, anO_gd, anO_fk, anO_sl, anO_lf, anO_jb, anO_jp, anO_ap, anO_nj, lq0_design_Size_1 L f L (by omega) (by omega), len0, sizeF]
  by_cases h : f.length = 0
  · rw [decide_eq_true h, if_pos h]; rfl
  · rw [decide_eq_false h, if_neg h, cond_false, show (1 : Int) = ((1 : Nat) : Int) from rfl, hj]; rfl
theorem ok_R51_Size (L : Nat) (f : List api_Factor) (hs : SmF f) (hL : 100 < L) : F_R51_Size L f = some ((sizeF f : Nat) : Int) := by
  have hM := maxLen_eq
  have := hs.len
  obtain ⟨j, hj⟩ := q_R51_Size_1 L f f 0 1 (by decide) hs.lev
  simp only [T_R51_Size, F_R51_Size, anO_bd, anO_fl, anO_cn, anO_gd, anO_fk, anO_sl, anO_lf, anO_jb, anO_jp, anO_ap, anO_nj, lq0_R51_Size_1 L f L (by omega) (by omega), len0, sizeF]
  by_cases h : f.length = 0
  · rw [decide_eq_true h, if_pos h]; rfl
  · rw [decide_eq_false h, if_neg h, cond_false, show (1 : Int) = ((1 : Nat) : Int) from rfl, hj]; rfl
theorem szN_zero : ∀ (ls : List Nat) (n : Nat), szN ls n = 0 ↔ n = 0 ∨ 0 ∈ ls
  | [], n => by simp [szN]
  | l :: ls, n => by
    rw [szN, szN_zero ls]
    have : min (n * l) mxN = 0 ↔ n = 0 ∨ l = 0 := by
      rw [show min (n * l) mxN = 0 ↔ n * l = 0 by unfold mxN; omega, Nat.mul_eq_zero]
    rw [this, List.mem_cons, eq_comm (a := (0 : Nat)) (b := l), or_assoc]
theorem szN_ge : ∀ (ls : List Nat) (n : Nat), n ≤ mxN → (∀ l ∈ ls, 0 < l) → n ≤ szN ls n
  | [], n, _, _ => Nat.le_refl _
  | l :: ls, n, h, hp => by
    have h1 := szN_ge ls (min (n * l) mxN) (Nat.min_le_right _ _) fun l hl => hp l (by simp [hl])
    have h2 : n * 1 ≤ n * l := Nat.mul_le_mul_left _ (hp l (by simp))
    rw [szN]; omega
theorem szN_eq : ∀ (ls : List Nat) (n : Nat), (∀ l ∈ ls, 0 < l) → szN ls n ≤ 200 → szN ls n = n * prodN ls
  | [], n, _, _ => by simp [szN, prodN]
  | l :: ls, n, hp, h => by
    have hp' : ∀ l ∈ ls, 0 < l := fun l hl => hp l (by simp [hl])
    have h1 := szN_ge ls (min (n * l) mxN) (Nat.min_le_right _ _) hp'
    rw [szN] at h ⊢
    have h2 : min (n * l) mxN = n * l := by unfold mxN at *; omega
    rw [h2] at h ⊢
    rw [szN_eq ls _ hp' h, prodN, Nat.mul_assoc]
/-- a design that is usable -/
structure UF (f : List api_Factor) : Prop where
  pos : ∀ l ∈ fL f, 0 < l
  len : f.length ≤ 6
  ne : 0 < f.length
  size : sizeF f = prodN (fL f)
  most : sizeF f ≤ 200
def useE (f : List api_Factor) : Int := if f.length = 0 ∨ 0 ∈ fL f then 7 else if 6 < f.length ∨ 200 < sizeF f then 6 else 0
theorem use_ok {f : List api_Factor} (h : useE f = 0) : UF f := by
  unfold useE at h
  split at h
  · cases h
  split at h
  · cases h
  rename_i h1 h2
  have hp : ∀ l ∈ fL f, 0 < l := fun l hl => Nat.pos_of_ne_zero fun e => h1 (.inr (e ▸ hl))
  have hl : f.length ≠ 0 := fun e => h1 (.inl e)
  have e : sizeF f = szN (fL f) 1 := if_neg hl
  have hm : szN (fL f) 1 ≤ 200 := by rw [← e]; omega
  exact ⟨hp, by omega, by omega, by rw [e, szN_eq _ _ hp hm, Nat.one_mul], by omega⟩
theorem q_design_usable_1 (L : Nat) (a : List api_Factor) : ∀ (k : List api_Factor) (i : Nat) (v : Int), ∃ j : Nat, lq_design_usable_1 L a k i v = some (bif decide (0 ∈ fL k) then (0, ((j : Int), (j : Int))) else (1, (v, (j : Int)))) := by
  intro k
  induction k with
  | nil => intro i v; exact ⟨i, rfl⟩
  | cons x k ih =>
    intro i v
    obtain ⟨j, hj⟩ := ih (i + 1) v
    rw [lq_design_usable_1, hj, len0]
    by_cases h : x.Levels.length = 0
    · rw [decide_eq_true h, show decide (0 ∈ fL (x :: k)) = true from decide_eq_true (by simp [fL, h])]; exact ⟨i, rfl⟩
    · have : 0 ∈ fL (x :: k) ↔ 0 ∈ fL k := by simp [fL, Ne.symm h, eq_comm (a := (0 : Nat)), h]
      rw [decide_eq_false h, decide_eq_decide.2 this]; exact ⟨j, rfl⟩
theorem ok_ic_design_usable_1 (L : Nat) (f : List api_Factor) (hl : f.length ≤ maxLen) (hL : f.length < L) : ∃ r, ic_design_usable_1 L f = some r ∧ decide (r ≥ 0) = decide (0 ∈ fL f) := by
  obtain ⟨j, hj⟩ := q_design_usable_1 L f f 0 0
  simp only [ic_design_usable_1, ib_design_usable_1, anO_bd, anO_fl, anO_cn, anO_gd, anO_fk, anO_sl, anO_lf, anO_jb, anO_jp, anO_ap, anO_nj, lq0_design_usable_1 L f L hl hL, hj]
  by_cases h : 0 ∈ fL f
  · exact ⟨j, by rw [decide_eq_true h]; rfl, by rw [decide_eq_true h]; exact decide_eq_true (by omega)⟩
  · exact ⟨-1, by rw [decide_eq_false h]; rfl, by rw [decide_eq_false h]; rfl⟩
theorem ok_design_usable (L : Nat) (f : List api_Factor) (hs : SmF f) (hL : 100 < L) : F_design_usable L f = some (useE f) := by
  have hM := maxLen_eq
  have := hs.len
  obtain ⟨r, hr1, hr2⟩ := ok_ic_design_usable_1 L f (by omega) (by omega)
  simp only [T_design_usable, F_design_usable, anO_bd, anO_fl, anO_cn, anO_gd, anO_fk, anO_sl, anO_lf, anO_jb, anO_jp, anO_ap, anO_nj, hr1, hr2, ok_design_Size L f hs hL, len0, Option.bind_some, useE]
  by_cases h1 : f.length = 0
  · rw [decide_eq_true h1, if_pos (.inl h1)]; rfl
  by_cases h2 : 0 ∈ fL f
  · rw [decide_eq_false h1, decide_eq_true h2, if_pos (.inr h2)]; rfl
  rw [decide_eq_false h1, decide_eq_false h2, if_neg (fun h => h.elim h1 h2), cond_false, cond_false]
  by_cases h3 : 6 < f.length
  · rw [show decide ((f.length : Int) > 6) = true from decide_eq_true (by omega), if_pos (.inl h3)]; rfl
  rw [show decide ((f.length : Int) > 6) = false from decide_eq_false (by omega), cond_false, Option.bind_some]
  by_cases h4 : 200 < sizeF f
  · rw [show decide (((sizeF f : Nat) : Int) > 200) = true from decide_eq_true (by omega), if_pos (.inr h4)]; rfl
  · rw [show decide (((sizeF f : Nat) : Int) > 200) = false from decide_eq_false (by omega), if_neg (fun h => h.elim h3 h4)]; rfl
theorem ok_R51_Usable (L : Nat) (f : List api_Factor) (hs : SmF f) (hL : 100 < L) : F_R51_Usable L f = some (useE f) := by
  simp only [T_R51_Usable, F_R51_Usable, anO_bd, anO_fl, anO_cn, anO_gd, anO_fk, anO_sl, anO_lf, anO_jb, anO_jp, anO_ap, anO_nj, ok_R51_Size L f hs hL, len0, Option.bind_some, useE]
  have hz : sizeF f = 0 ↔ f.length = 0 ∨ 0 ∈ fL f := by
    unfold sizeF
    by_cases h : f.length = 0
    · simp [h]
    · rw [if_neg h, szN_zero]; simp [h]
  by_cases h1 : sizeF f = 0
  · rw [decide_eq_true h1, if_pos (hz.1 h1)]; rfl
  rw [decide_eq_false h1, if_neg (fun h => h1 (hz.2 h)), cond_false]
  by_cases h3 : 6 < f.length
  · rw [show decide ((f.length : Int) > 6) = true from decide_eq_true (by omega), if_pos (.inl h3)]; rfl
  rw [show decide ((f.length : Int) > 6) = false from decide_eq_false (by omega), cond_false, Option.bind_some]
  by_cases h4 : 200 < sizeF f
  · rw [show decide (((sizeF f : Nat) : Int) > 200) = true from decide_eq_true (by omega), if_pos (.inr h4)]; rfl
  · rw [show decide (((sizeF f : Nat) : Int) > 200) = false from decide_eq_false (by omega), if_neg (fun h => h.elim h3 h4)]; rfl
def toI (l : List Nat) : List Int := l.map fun (n : Nat) => (n : Int)
theorem ptN_snoc (ls : List Nat) (l i : Nat) : ptN (ls ++ [l]) i = ((ptN ls (i / l)).1 ++ [i % l], (ptN ls (i / l)).2) := by
  induction ls with
  | nil => rfl
  | cons a ls ih => rw [List.cons_append, ptN, ih, ptN]; rfl
theorem take_snoc {α : Type} [Inhabited α] (l : List α) (k : Nat) (h : k < l.length) : l.take (k + 1) = l.take k ++ [l.getD k default] := by
  rw [List.take_succ_eq_append_getElem h, getD_eq l k h]
theorem set_mid (k x : Nat) (t : List Int) : (List.replicate (k + 1) (0 : Int) ++ t).set k (x : Int) = List.replicate k 0 ++ ((x : Int) :: t) := by
  rw [List.replicate_succ', List.append_assoc, List.set_append_right _ _ (by simp)]; simp
theorem tdivN (i l : Nat) : Int.tdiv (i : Int) (l : Int) = ((i / l : Nat) : Int) := (Int.ofNat_tdiv i l).symm
theorem tmodN (i l : Nat) : Int.tmod (i : Int) (l : Int) = ((i % l : Nat) : Int) := (Int.ofNat_tmod i l).symm
theorem fL_get (f : List api_Factor) (k : Nat) (h : k < f.length) : (fL f).getD k default = (f.getD k default).Levels.length := by
  unfold fL
  rw [getD_eq _ k (by simpa using h), getD_eq f k h, List.getElem_map]
theorem lp_Point (L : Nat) (f : List api_Factor) (hp : ∀ l ∈ fL f, 0 < l) (hf : f.length ≤ maxLen) : ∀ (k n i : Nat) (t : List Int), k ≤ f.length → k < n → i ≤ 1000000 →
    (∃ j : Int × Int, lp_design_Point_1 L f n (i : Int) ((k : Int) - 1) (List.replicate k 0 ++ t) = some (0, (j.1, j.2, toI (ptN ((fL f).take k) i).1 ++ t))) ∧
    (∃ j : Int × Int, lp_R51_Point_1 L f n (i : Int) ((k : Int) - 1) (List.replicate k 0 ++ t) = some (0, (j.1, j.2, toI (ptN ((fL f).take k) i).1 ++ t))) := by
  intro k
  induction k with
  | zero =>
    intro n i t hk hn _
    obtain ⟨n, rfl⟩ : ∃ m, n = m + 1 := ⟨n - 1, by omega⟩
    have h0 : decide ((((0 : Nat) : Int) - 1) ≥ 0) = false := by decide
    exact ⟨⟨((i : Int), (0 : Nat) - 1), by simp only [lp_design_Point_1, lb_design_Point_1, anO_bd, anO_fl, anO_cn, anO_gd, anO_fk, anO_sl, anO_lf, anO_jb, anO_jp, anO_ap, anO_nj, h0, cond_false, List.take_zero, ptN, toI, List.map_nil, List.replicate_zero, List.nil_append]⟩, ⟨((i : Int), (0 : Nat) - 1), by simp only [lp_R51_Point_1, lb_R51_Point_1, anO_bd, anO_fl, anO_cn, anO_gd, anO_fk, anO_sl, anO_lf, anO_jb, anO_jp, anO_ap, anO_nj, h0, cond_false, List.take_zero, ptN, toI, List.map_nil, List.replicate_zero, List.nil_append]⟩⟩
  | succ k ih =>
    intro n i t hk hn hi
    obtain ⟨n, rfl⟩ : ∃ m, n = m + 1 := ⟨n - 1, by omega⟩
    have hg := fL_get f k (by omega)
    have hl : k < (fL f).length := by simp only [fL, List.length_map]; omega
    have hpos : 0 < (f.getD k default).Levels.length := by rw [← hg, getD_eq _ k hl]; exact hp _ (List.getElem_mem hl)
    have hle : i / (f.getD k default).Levels.length ≤ i := Nat.div_le_self _ _
    obtain ⟨⟨j1, h1⟩, ⟨j2, h2⟩⟩ := ih n (i / (f.getD k default).Levels.length) (((i % (f.getD k default).Levels.length : Nat) : Int) :: t) (by omega) (by omega) (by omega)
    have e : ptN ((fL f).take (k + 1)) i = ((ptN ((fL f).take k) (i / (f.getD k default).Levels.length)).1 ++ [i % (f.getD k default).Levels.length], (ptN ((fL f).take k) (i / (f.getD k default).Levels.length)).2) := by
      rw [take_snoc _ k hl, ptN_snoc, hg]
    have e2 : toI (ptN ((fL f).take (k + 1)) i).1 ++ t = toI (ptN ((fL f).take k) (i / (f.getD k default).Levels.length)).1 ++ (((i % (f.getD k default).Levels.length : Nat) : Int) :: t) := by
      rw [e]; simp [toI]
    have ek : (((k + 1 : Nat) : Int) - 1) = (k : Int) := by omega
    have hd : decide (((f.getD k default).Levels.length : Int) = 0) = false := decide_eq_false (by omega)
    have hge : ((k : Int) ≥ 0) = True := eq_true (by omega)
    have hw : w64 ((i / (f.getD k default).Levels.length : Nat) : Int) = ((i / (f.getD k default).Levels.length : Nat) : Int) := by
      generalize i / (f.getD k default).Levels.length = q at hle
      exact w64_id (by omega) (by omega)
    rw [e2, ek]
    refine ⟨⟨j1, ?_⟩, ⟨j2, ?_⟩⟩
    · simp only [lp_design_Point_1, lb_design_Point_1, anO_bd, anO_fl, anO_cn, anO_gd, anO_fk, anO_sl, anO_lf, anO_jb, anO_jp, anO_ap, anO_nj, hge, decide_true, cond_true, nn, if_true, toN, ltI (show k < f.length by omega), hd, Bool.not_false, tdivN, tmodN, w64_pred (show k ≤ maxLen by omega), set_mid, hw, h1]
    · simp only [lp_R51_Point_1, lb_R51_Point_1, anO_bd, anO_fl, anO_cn, anO_gd, anO_fk, anO_sl, anO_lf, anO_jb, anO_jp, anO_ap, anO_nj, hge, decide_true, cond_true, nn, if_true, toN, ltI (show k < f.length by omega), hd, Bool.not_false, tdivN, tmodN, w64_pred (show k ≤ maxLen by omega), set_mid, hw, h2]
def pointR (f : List api_Factor) (i : Int) : List Int × Int := if useE f ≠ 0 then ([], useE f) else if i < 0 ∨ (sizeF f : Int) ≤ i then ([], 2) else (toI (ptN (fL f) i.toNat).1, 0)
theorem pointR_e {f : List api_Factor} {i : Int} (h : useE f ≠ 0) : pointR f i = ([], useE f) := if_pos h
theorem pointR_r {f : List api_Factor} {i : Int} (h : useE f = 0) (h2 : i < 0 ∨ (sizeF f : Int) ≤ i) : pointR f i = ([], 2) := by unfold pointR; rw [if_neg (by simp [h]), if_pos h2]
theorem pointR_ok {f : List api_Factor} {i : Nat} (h : useE f = 0) (h2 : i < sizeF f) : pointR f i = (toI (ptN (fL f) i).1, 0) := by unfold pointR; rw [if_neg (by simp [h]), if_neg (by omega)]; rfl
theorem ok_Points (L : Nat) (f : List api_Factor) (i : Int) (hs : SmF f) (hL : 100 < L) : F_design_Point L f i = some (pointR f i) ∧ F_R51_Point L f i = some (pointR f i) := by
  have hM := maxLen_eq
  have hlen := hs.len
  simp only [T_design_Point, F_design_Point, T_R51_Point, F_R51_Point, anO_bd, anO_fl, anO_cn, anO_gd, anO_fk, anO_sl, anO_lf, anO_jb, anO_jp, anO_ap, anO_nj, ok_design_usable L f hs hL, ok_R51_Usable L f hs hL, ok_design_Size L f hs hL, ok_R51_Size L f hs hL, Option.bind_some]
  by_cases h1 : useE f ≠ 0
  · rw [pointR_e h1, ne0 h1]; exact ⟨rfl, rfl⟩
  have h1 : useE f = 0 := Classical.not_not.1 h1
  have hu := use_ok h1
  by_cases h2 : i < 0
  · rw [pointR_r h1 (.inl h2), h1, decide_eq_true h2]; exact ⟨rfl, rfl⟩
  by_cases h3 : (sizeF f : Int) ≤ i
  · rw [pointR_r h1 (.inr h3), h1, decide_eq_false h2, show decide (i ≥ (sizeF f : Int)) = true from decide_eq_true h3]; exact ⟨rfl, rfl⟩
  obtain ⟨m, rfl⟩ := Int.eq_ofNat_of_zero_le (by omega : 0 ≤ i)
  have hm := hu.most
  obtain ⟨⟨j1, q1⟩, ⟨j2, q2⟩⟩ := lp_Point L f hu.pos (by omega) f.length L m [] (Nat.le_refl _) (by omega) (by omega)
  have ht : (fL f).take f.length = fL f := List.take_of_length_le (by simp [fL])
  rw [List.append_nil, List.append_nil, ht] at q1 q2
  rw [pointR_ok h1 (by omega), h1, decide_eq_false h2, show decide ((m : Int) ≥ (sizeF f : Int)) = false from decide_eq_false (by omega)]
  simp only [bne_self_eq_false, Option.bind_some, cond_false, nn, if_true, toN, w64_pred (show f.length ≤ maxLen by omega)]
  rw [ifp (by omega), ifp (by omega), ifp (by omega), ifp (by omega), q1, q2]
  exact ⟨rfl, rfl⟩
end Go.Proofs.YtaaiehkfndibkaaGreat.Ev
