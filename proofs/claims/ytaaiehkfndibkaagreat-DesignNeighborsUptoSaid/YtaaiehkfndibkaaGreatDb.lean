/-  Layer 1, plainly: products that stop at the greatest number. -/
import Derived.Test.YtaaiehkfndibkaaGreatQ1
import Derived.Test.YtaaiehkfndibkaaGreatPa
import Derived.Lib.Mul64
import Derived.Laws.Bits64b
namespace Go.Proofs.YtaaiehkfndibkaaGreat.Ev
open Go
set_option maxRecDepth 100000
set_option linter.unusedVariables false
set_option linter.unusedSimpArgs false
set_option linter.unnecessarySimpa false
theorem wuN (a : Nat) (ha : a < 18446744073709551616) : IntKind.wrap .u64 (a : Int) = (a : Int) := by rw [IntKind.wrap_u64]; omega
theorem wuM (a : Nat) : IntKind.wrap .u64 (a : Int) = ((a % 18446744073709551616 : Nat) : Int) := by rw [IntKind.wrap_u64]; omega
theorem andN (a : Nat) (ha : a < 18446744073709551616) : IntKind.wrap .u64 (((BitVec.ofInt 64 (a : Int) &&& BitVec.ofInt 64 4294967295).toNat : Nat) : Int) = ((a % 4294967296 : Nat) : Int) := by
  have e1 : BitVec.ofInt 64 (a : Int) = BitVec.ofNat 64 a := BitVec.ofInt_natCast ..
  have e2 : BitVec.ofInt 64 4294967295 = BitVec.ofNat 64 4294967295 := by decide
  have e : a &&& 4294967295 = a % 4294967296 := Nat.and_two_pow_sub_one_eq_mod a 32
  rw [e1, e2, BitVec.toNat_and, BitVec.toNat_ofNat, BitVec.toNat_ofNat, Nat.mod_eq_of_lt (by omega : a < 2 ^ 64), Nat.mod_eq_of_lt (by decide), e]
  exact wuN _ (by omega)
theorem fdN (a : Nat) : Int.fdiv (a : Int) (2 ^ 32) = ((a / 4294967296 : Nat) : Int) := by
  rw [Int.fdiv_eq_ediv_of_nonneg _ (by decide)]
  show (a : Int) / 4294967296 = _
  omega
theorem mulNN (a b : Nat) : (a : Int) * (b : Int) = ((a * b : Nat) : Int) := (Int.natCast_mul a b).symm
theorem addNN (a b : Nat) : (a : Int) + (b : Int) = ((a + b : Nat) : Int) := (Int.natCast_add a b).symm
theorem ok_bits_Mul64 (L x y : Nat) (hx : x < 18446744073709551616) (hy : y < 18446744073709551616) : F_bits_Mul64 L x y = some (((x * y / 18446744073709551616 : Nat) : Int), ((x * y % 18446744073709551616 : Nat) : Int)) := by
  obtain ⟨bd, bt, bw, hhi⟩ := Lib.mul64_hi x y hx hy
  have ba := Lib.half_mul_le (a := x / 4294967296) (b := y / 4294967296) (by omega) (by omega)
  have bb := Lib.half_mul_le (a := x / 4294967296) (b := y % 4294967296) (by omega) (by omega)
  have bc := Lib.half_mul_le (a := x % 4294967296) (b := y / 4294967296) (by omega) (by omega)
  have ba' : x / 4294967296 * (y / 4294967296) < 18446744073709551616 := by omega
  have bb' : x / 4294967296 * (y % 4294967296) < 18446744073709551616 := by omega
  have bc' : x % 4294967296 * (y / 4294967296) < 18446744073709551616 := by omega
  have bh1 : x / 4294967296 * (y / 4294967296) + (x / 4294967296 * (y % 4294967296) + x % 4294967296 * (y % 4294967296) / 4294967296) / 4294967296 < 18446744073709551616 := by omega
  have bh : x / 4294967296 * (y / 4294967296) + (x / 4294967296 * (y % 4294967296) + x % 4294967296 * (y % 4294967296) / 4294967296) / 4294967296 + ((x / 4294967296 * (y % 4294967296) + x % 4294967296 * (y % 4294967296) / 4294967296) % 4294967296 + x % 4294967296 * (y / 4294967296)) / 4294967296 < 18446744073709551616 := by omega
  simp only [T_bits_Mul64, F_bits_Mul64, anO_bd, anO_fl, anO_cn, anO_gd, anO_fk, anO_sl, anO_lf, anO_jb, anO_jp, anO_ap, anO_nj, andN x hx, andN y hy, fdN, mulNN, addNN, wuN _ bd, wuN _ bb', wuN _ bt, andN _ bt, wuN _ bc', wuN _ bw, wuN _ ba', wuN _ bh1, wuN _ bh, wuM (x * y)]
  rw [hhi]
/-- the greatest number -/
def mxN : Nat := 1000000000000
theorem ok_num_Mul (L a b : Nat) (ha : a ≤ mxN) (hb : b ≤ mxN) : F_num_Mul L a b = some ((min (a * b) mxN : Nat) : Int) := by
  unfold mxN at *
  have e1 : ∀ n : Nat, n ≤ 1000000000000 → (if (if (1000000000000 : Int) < (n : Int) then (1000000000000 : Int) else (n : Int)) > -1000000000000 then (if (1000000000000 : Int) < (n : Int) then (1000000000000 : Int) else (n : Int)) else -1000000000000) = (n : Int) := fun n h => by
    have e : (if (1000000000000 : Int) < (n : Int) then (1000000000000 : Int) else (n : Int)) = (n : Int) := if_neg (by omega)
    rw [e, if_pos (by omega)]
  have e2 : ∀ n : Nat, n ≤ 1000000000000 → (if w64 (0 - (n : Int)) > (n : Int) then w64 (0 - (n : Int)) else (n : Int)) = (n : Int) := fun n h => by
    rw [w64_id (by omega) (by omega), if_neg (by omega)]
  have hle : a * b ≤ 1000000000000 * 1000000000000 := Nat.mul_le_mul ha hb
  simp only [T_num_Mul, F_num_Mul, T_num_Clip, F_num_Clip, T_num_size, F_num_size, anO_bd, anO_fl, anO_cn, anO_gd, anO_fk, anO_sl, anO_lf, anO_jb, anO_jp, anO_ap, anO_nj, e1 a ha, e1 b hb, Option.bind_some, e2 a ha, e2 b hb, wuN a (by omega), wuN b (by omega), ok_bits_Mul64 L a b (by omega) (by omega), decide_eq_false (show ¬ (a : Int) < 0 by omega), decide_eq_false (show ¬ (b : Int) < 0 by omega), beq_self_eq_true, Bool.not_true, cond_false]
  by_cases h : a * b < 1000000000000
  · have h0 : a * b / 18446744073709551616 = 0 := Nat.div_eq_of_lt (by omega)
    have h1 : a * b % 18446744073709551616 = a * b := Nat.mod_eq_of_lt (by omega)
    rw [h0, h1, Nat.min_eq_left (by omega), w64_id (by omega) (by omega), show decide (((a * b : Nat) : Int) < 1000000000000) = true from decide_eq_true (by omega)]
    rfl
  · rw [Nat.min_eq_right (by omega)]
    have : (bif (((a * b / 18446744073709551616 : Nat) : Int) == 0) then decide (((a * b % 18446744073709551616 : Nat) : Int) < 1000000000000) else false) = false := by
      cases hq : (((a * b / 18446744073709551616 : Nat) : Int) == 0) with
      | false => rfl
      | true =>
        have hq' := eq_of_beq hq
        rw [cond_true]
        exact decide_eq_false (by omega)
    rw [this]; rfl
theorem ok_R01_Mul (L a b : Nat) (ha : a ≤ mxN) (hb : b ≤ mxN) : F_R01_Mul L a b = some ((min (a * b) mxN : Nat) : Int) := by
  unfold mxN at *
  have e1 : ∀ n : Nat, n ≤ 1000000000000 → decide ((n : Int) > 1000000000000) = false := fun n h => decide_eq_false (by omega)
  have e2 : ∀ n : Nat, decide ((n : Int) < -1000000000000) = false := fun n => decide_eq_false (by omega)
  have e3 : ∀ n : Nat, decide ((n : Int) < 0) = false := fun n => decide_eq_false (by omega)
  have hle : a * b ≤ 1000000000000 * 1000000000000 := Nat.mul_le_mul ha hb
  simp only [T_R01_Mul, F_R01_Mul, T_R01_Clip, F_R01_Clip, T_R01_Abs, F_R01_Abs, anO_bd, anO_fl, anO_cn, anO_gd, anO_fk, anO_sl, anO_lf, anO_jb, anO_jp, anO_ap, anO_nj, e1 a ha, e1 b hb, e2, e3, cond_false, Option.bind_some, beq_self_eq_true, Bool.not_true, bor_c]
  by_cases h : a = 0
  · subst h; simp
  by_cases h' : b = 0
  · subst h'; simp
  have z1 : ((a : Int) == 0) = false := by simpa using h
  have z2 : ((b : Int) == 0) = false := by simpa using h'
  have z3 : decide ((a : Int) = 0) = false := decide_eq_false (by omega)
  have hd : Int.tdiv 1000000000000 (a : Int) = ((1000000000000 / a : Nat) : Int) := by rw [show (1000000000000 : Int) = ((1000000000000 : Nat) : Int) from rfl, Int.ofNat_tdiv]
  have hdl : 1000000000000 / a ≤ 1000000000000 := Nat.div_le_self _ _
  have hiff : b ≤ 1000000000000 / a ↔ a * b ≤ 1000000000000 := by rw [Nat.le_div_iff_mul_le (by omega), Nat.mul_comm]
  rw [z1, z2, z3, hd]
  generalize 1000000000000 / a = q at hdl hiff
  rw [w64_id (n := (q : Int)) (by omega) (by omega)]
  simp only [Bool.or_self, cond_false, Bool.not_false, cond_true]
  by_cases hc : b ≤ q
  · have h1 := hiff.1 hc
    rw [show decide ((b : Int) ≤ (q : Int)) = true from decide_eq_true (by omega), cond_true, Nat.min_eq_left h1, mulNN, w64_id (by omega) (by omega)]
  · have h1 : ¬ a * b ≤ 1000000000000 := fun h2 => hc (hiff.2 h2)
    rw [show decide ((b : Int) ≤ (q : Int)) = false from decide_eq_false (by omega), cond_false, Nat.min_eq_right (by omega)]
    rfl
end Go.Proofs.YtaaiehkfndibkaaGreat.Ev
