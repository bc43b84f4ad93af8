/-  Chapter 7, plainly: names. -/
import Derived.Test.YtonfmpiikdmndaaGreatQ1
namespace Go.Proofs.YtonfmpiikdmndaaGreat.Ev
open Go
set_option maxRecDepth 100000
set_option linter.unusedVariables false
set_option linter.unusedSimpArgs false
set_option linter.unnecessarySimpa false
def letZ (z : Int) : Bool := decide (97 ≤ z) && decide (z ≤ 122)
def okZ (z : Int) : Bool := letZ z || z == 95 || (decide (48 ≤ z) && decide (z ≤ 57))
def byteZ (a : ByteArray) (i : Nat) : Int := optByte a[i]?
/-- m bytes from i on are fine -/
def okFrom (a : ByteArray) : Nat → Nat → Bool
  | _, 0 => true
  | i, m + 1 => okZ (byteZ a i) && okFrom a (i + 1) m
def kws : List ByteArray := [(⟨#[97, 100, 100]⟩ : ByteArray), (⟨#[97, 102, 116, 101, 114]⟩ : ByteArray), (⟨#[97, 110, 100]⟩ : ByteArray), (⟨#[97, 116]⟩ : ByteArray), (⟨#[98, 101, 108, 116]⟩ : ByteArray), (⟨#[98, 111, 111, 108]⟩ : ByteArray), (⟨#[99, 111, 110, 115, 101, 114, 118, 101]⟩ : ByteArray), (⟨#[99, 111, 110, 115, 116]⟩ : ByteArray), (⟨#[99, 111, 117, 110, 116]⟩ : ByteArray), (⟨#[99, 121, 99, 108, 101]⟩ : ByteArray), (⟨#[100, 111, 119, 110]⟩ : ByteArray), (⟨#[100, 114, 97, 119]⟩ : ByteArray), (⟨#[100, 117, 114]⟩ : ByteArray), (⟨#[101, 108, 115, 101]⟩ : ByteArray), (⟨#[101, 110, 100]⟩ : ByteArray), (⟨#[101, 118, 101, 114, 121]⟩ : ByteArray), (⟨#[102, 97, 108, 115, 101]⟩ : ByteArray), (⟨#[102, 97, 117, 108, 116]⟩ : ByteArray), (⟨#[102, 105, 102, 111]⟩ : ByteArray), (⟨#[102, 114, 101, 101]⟩ : ByteArray), (⟨#[102, 114, 111, 109]⟩ : ByteArray), (⟨#[103, 101, 111, 109]⟩ : ByteArray), (⟨#[103, 101, 116]⟩ : ByteArray), (⟨#[104, 111, 108, 100]⟩ : ByteArray), (⟨#[105, 102]⟩ : ByteArray), (⟨#[105, 110, 116]⟩ : ByteArray), (⟨#[105, 110, 116, 111]⟩ : ByteArray), (⟨#[108, 101, 97, 115, 116]⟩ : ByteArray), (⟨#[108, 101, 118, 101, 108]⟩ : ByteArray), (⟨#[108, 105, 102, 111]⟩ : ByteArray), (⟨#[108, 105, 110, 107]⟩ : ByteArray), (⟨#[108, 111, 99, 97, 108]⟩ : ByteArray), (⟨#[109, 97, 120]⟩ : ByteArray), (⟨#[109, 105, 110]⟩ : ByteArray), (⟨#[109, 111, 100, 101, 108]⟩ : ByteArray), (⟨#[110, 111, 116]⟩ : ByteArray), (⟨#[110, 111, 119]⟩ : ByteArray), (⟨#[111, 98, 115, 101, 114, 118, 101]⟩ : ByteArray), (⟨#[111, 114]⟩ : ByteArray), (⟨#[112, 97, 114, 97, 109]⟩ : ByteArray), (⟨#[112, 114, 101, 101, 109, 112, 116]⟩ : ByteArray), (⟨#[112, 114, 105, 111]⟩ : ByteArray), (⟨#[112, 117, 116]⟩ : ByteArray), (⟨#[113, 117, 101, 117, 101]⟩ : ByteArray), (⟨#[114, 101, 108, 101, 97, 115, 101]⟩ : ByteArray), (⟨#[114, 101, 115, 111, 117, 114, 99, 101]⟩ : ByteArray), (⟨#[114, 105, 100, 101]⟩ : ByteArray), (⟨#[114, 111, 117, 116, 105, 110, 101]⟩ : ByteArray), (⟨#[115, 101, 105, 122, 101]⟩ : ByteArray), (⟨#[115, 101, 110, 100]⟩ : ByteArray), (⟨#[115, 101, 116]⟩ : ByteArray), (⟨#[115, 104, 105, 102, 116]⟩ : ByteArray), (⟨#[115, 105, 103, 110, 97, 108]⟩ : ByteArray), (⟨#[115, 105, 116, 101]⟩ : ByteArray), (⟨#[115, 105, 122, 101]⟩ : ByteArray), (⟨#[115, 112, 97, 119, 110]⟩ : ByteArray), (⟨#[115, 116, 97, 114, 116]⟩ : ByteArray), (⟨#[115, 116, 111, 112]⟩ : ByteArray), (⟨#[115, 116, 111, 114, 101]⟩ : ByteArray), (⟨#[115, 116, 114, 101, 97, 109]⟩ : ByteArray), (⟨#[115, 117, 109]⟩ : ByteArray), (⟨#[116, 97, 98, 108, 101]⟩ : ByteArray), (⟨#[116, 97, 108, 108, 121]⟩ : ByteArray), (⟨#[116, 105, 99, 107, 115]⟩ : ByteArray), (⟨#[116, 105, 109, 101]⟩ : ByteArray), (⟨#[116, 114, 117, 101]⟩ : ByteArray), (⟨#[117, 110, 105, 102, 111, 114, 109]⟩ : ByteArray), (⟨#[117, 110, 116, 105, 108]⟩ : ByteArray), (⟨#[117, 112]⟩ : ByteArray), (⟨#[118, 97, 114]⟩ : ByteArray), (⟨#[119, 97, 105, 116]⟩ : ByteArray), (⟨#[119, 97, 105, 116, 105, 110, 103]⟩ : ByteArray), (⟨#[119, 104, 105, 108, 101]⟩ : ByteArray)]
def keyword (s : ByteArray) : Bool := kws.any fun w => decide (s = w)
def nameOK (s : ByteArray) : Bool := decide (1 ≤ s.size) && decide (s.size ≤ 24) && letZ (byteZ s 0) && !keyword s && okFrom s 0 s.size
def nameE (s : ByteArray) : Int := bif nameOK s then 0 else 3
theorem ok_names_letter (L : Nat) (z : Int) : F_names_letter L z = some (letZ z) := by
  simp only [T_names_letter, F_names_letter, anO_bd, anO_fl, anO_cn, anO_gd, anO_fk, anO_sl, anO_lf, anO_jb, anO_jp, anO_ap, anO_nj, letZ, band_c]
theorem kstep {c b : Bool} {X : Option Bool} (h : X = some b) : (bif c then (bif c then some true else some false) else X) = some (c || b) := by cases c <;> simp [h]
theorem kstep' {c b : Bool} {X : Option Bool} (h : X = some b) : (bif c then some true else X) = some (c || b) := by cases c <;> simp [h]
set_option maxRecDepth 10000 in
theorem ok_names_Keyword (L : Nat) (s : ByteArray) : F_names_Keyword L s = some (keyword s) := by
  simp only [T_names_Keyword, F_names_Keyword, anO_bd, anO_fl, anO_cn, anO_gd, anO_fk, anO_sl, anO_lf, anO_jb, anO_jp, anO_ap, anO_nj, str_eq, keyword, kws, List.any_cons, List.any_nil]
  repeat (first | exact kstep rfl | refine kstep ?_ | refine kstep' ?_)
  rfl
theorem nm_lp (L : Nat) (a : ByteArray) (hs : a.size ≤ maxLen) : ∀ (m i n : Nat) (v : Int), i + m = a.size → m < n →
    ∃ j, lp_names_Check_1 L a n v i = some (bif okFrom a i m then (1, (v, j)) else (0, (3, j))) := by
  intro m
  induction m with
  | zero =>
    intro i n v hi hn
    obtain ⟨n, rfl⟩ : ∃ k, n = k + 1 := ⟨n - 1, by omega⟩
    exact ⟨i, by simp only [lp_names_Check_1, lb_names_Check_1, anO_bd, anO_fl, anO_cn, anO_gd, anO_fk, anO_sl, anO_lf, anO_jb, anO_jp, anO_ap, anO_nj, okFrom, d_ge (show a.size ≤ i by omega), cond_true, cond_false]⟩
  | succ m ih =>
    intro i n v hi hn
    obtain ⟨n, rfl⟩ : ∃ k, n = k + 1 := ⟨n - 1, by omega⟩
    have hlt : i < a.size := by omega
    obtain ⟨j, hj⟩ := ih (i + 1) n v (by omega) (by omega)
    have hb := getB hlt
    cases hc : okZ (byteZ a i) with
    | true =>
      refine ⟨j, ?_⟩
      have e : okFrom a i (m + 1) = okFrom a (i + 1) m := by simp only [okFrom, hc, Bool.true_and]
      simp only [lp_names_Check_1, lb_names_Check_1, anO_bd, anO_fl, anO_cn, anO_gd, anO_fk, anO_sl, anO_lf, anO_jb, anO_jp, anO_ap, anO_nj, d_lt hlt, nn, toN, if_true, hb, cond_true, ok_names_letter, Option.bind_some, w64_succ hlt hs, hj, e, band_c, bor_c]
      rw [show ((!letZ (optByte a[i]?) && (decide (optByte a[i]? < 48) || decide (optByte a[i]? > 57))) && optByte a[i]? != 95) = false from ?_]
      · rfl
      · revert hc; unfold okZ byteZ
        generalize optByte a[i]? = z
        cases letZ z <;> simp <;> omega
    | false =>
      refine ⟨i, ?_⟩
      have e : okFrom a i (m + 1) = false := by simp only [okFrom, hc, Bool.false_and]
      simp only [lp_names_Check_1, lb_names_Check_1, anO_bd, anO_fl, anO_cn, anO_gd, anO_fk, anO_sl, anO_lf, anO_jb, anO_jp, anO_ap, anO_nj, d_lt hlt, nn, toN, if_true, hb, cond_true, ok_names_letter, Option.bind_some, w64_succ hlt hs, hj, e, band_c, bor_c]
      rw [show ((!letZ (optByte a[i]?) && (decide (optByte a[i]? < 48) || decide (optByte a[i]? > 57))) && optByte a[i]? != 95) = true from ?_]
      · rfl
      · revert hc; unfold okZ byteZ
        generalize optByte a[i]? = z
        cases letZ z <;> simp <;> omega
theorem ok_names_Check (L : Nat) (s : ByteArray) (hs : okS s) (hL : s.size < L) : F_names_Check L s = some (nameE s) := by
  obtain ⟨j, hj⟩ := nm_lp L s hs s.size 0 L 0 (by omega) hL
  have e0 : decide ((s.size : Int) > 24) = !decide (s.size ≤ 24) := by
    by_cases h : s.size ≤ 24
    · rw [decide_eq_false (by omega), decide_eq_true h]; rfl
    · rw [decide_eq_true (by omega), decide_eq_false h]; rfl
  simp only [T_names_Check, F_names_Check, anO_bd, anO_fl, anO_cn, anO_gd, anO_fk, anO_sl, anO_lf, anO_jb, anO_jp, anO_ap, anO_nj, str_eq, str_nil, ok_names_letter, ok_names_Keyword, Option.bind_some, cond_ss, bor_c, e0]
  by_cases h0 : s.size = 0
  · have : nameOK s = false := by unfold nameOK; rw [decide_eq_false (show ¬ 1 ≤ s.size by omega)]; rfl
    simp [h0, nameE, this]
  · have hb := getB (show 0 < s.size by omega)
    have e1 : nameOK s = (decide (s.size ≤ 24) && letZ (byteZ s 0) && !keyword s && okFrom s 0 s.size) := by unfold nameOK; rw [decide_eq_true (show 1 ≤ s.size by omega)]; rfl
    simp only [Int.ofNat_zero, Int.natCast_zero] at hj
    simp only [h0, decide_false, Bool.false_or, Int.le_refl, Nat.le_refl, if_true, Int.toNat_zero, hb, cond_true, hj, Option.bind_some, nameE, e1, byteZ]
    cases decide (s.size ≤ 24) <;> cases letZ (optByte s[0]?) <;> cases keyword s <;> cases okFrom s 0 s.size <;> rfl
end Go.Proofs.YtonfmpiikdmndaaGreat.Ev
