/-  codec.zigzag, codec.encoded, by hand: the walks. -/
import Derived.Test.YtpdlcbmnmeihoaaGreatDoorProg
import Derived.OwnWalk
import Derived.Laws.CopyOwn
import Derived.Laws.Slices
import Derived.Lib.Hide
import Derived.Laws.BitsAllLaws
import Derived.Laws.Bits64
set_option maxRecDepth 1000000
set_option maxHeartbeats 4000000
set_option linter.unusedVariables false
set_option linter.unusedSimpArgs false
set_option linter.unnecessarySimpa false
namespace Go.Proofs.YtpdlcbmnmeihoaaGreatDoor.Ev
open Go Go.RowKit Go.Lib Go.Proofs
theorem xor_ones (x : Nat) (h : x < 18446744073709551616) : x ^^^ 18446744073709551615 = 18446744073709551615 - x := by
  have e : (BitVec.ofNat 64 x ^^^ BitVec.allOnes 64).toNat = 18446744073709551615 - x := by
    rw [BitVec.xor_allOnes, BitVec.toNat_not, BitVec.toNat_ofNat, Nat.mod_eq_of_lt (by simpa using h)]
  rw [BitVec.toNat_xor, BitVec.toNat_ofNat, Nat.mod_eq_of_lt (by simpa using h)] at e
  simpa using e
theorem zz (n : Int) (h1 : -9223372036854775808 ≤ n) (h2 : n ≤ 9223372036854775807) :
    bits BinOp.xor .u64 (IntKind.u64.wrap (IntKind.u64.wrap n * 2)) (IntKind.u64.wrap (n / 9223372036854775808)) = ((if n < 0 then (2 * (-(n + 1)) + 1).toNat else (2 * n).toNat : Nat) : Int) := by
  rw [IntKind.wrap_u64, IntKind.wrap_u64, IntKind.wrap_u64]
  by_cases h : n < 0
  · rw [if_pos h]
    have e1 : n % 18446744073709551616 * 2 % 18446744073709551616 = (((2 * n + 18446744073709551616).toNat : Nat) : Int) := by omega
    have e2 : n / 9223372036854775808 % 18446744073709551616 = ((18446744073709551615 : Nat) : Int) := by omega
    rw [e1, e2, bits_xor_u64_nat _ _ (by omega) (by omega), xor_ones _ (by omega)]
    omega
  · rw [if_neg h]
    have e1 : n % 18446744073709551616 * 2 % 18446744073709551616 = (((2 * n).toNat : Nat) : Int) := by omega
    have e2 : n / 9223372036854775808 % 18446744073709551616 = ((0 : Nat) : Int) := by omega
    rw [e1, e2, bits_xor_u64_nat _ _ (by omega) (by omega), Nat.xor_zero]
theorem zigzag_run (n : Int) (w : World) :
    Calls Tryz.prog 200 #[.int .i64 n] w fun e w' => e = .returned (.int .u64 (bits BinOp.xor .u64 (IntKind.u64.wrap (IntKind.u64.wrap n * 2)) (IntKind.u64.wrap (n / 9223372036854775808)))) ∧ w' = w := by
  go_enter Tryz.func200, Tryz.ntmps200
  go_wp2
  go_ret
  exact ⟨rfl, rfl⟩
theorem zigzag_ok (n : Int) (h1 : -9223372036854775808 ≤ n) (h2 : n ≤ 9223372036854775807) (w : World) :
    Calls Tryz.prog 200 #[.int .i64 n] w fun e w' => e = .returned (.int .u64 ((if n < 0 then (2 * (-(n + 1)) + 1).toNat else (2 * n).toNat : Nat) : Int)) ∧ w' = w :=
  (zigzag_run n w).mono fun e w' ⟨h, hw⟩ => ⟨by rw [h, zz n h1 h2], hw⟩
/-- groups of seven bits, the last one below 128 -/
def encV : Nat → Nat → List Int
  | 0, u => [(u : Int)]
  | k + 1, u => if u < 128 then [(u : Int)] else ((u % 128 + 128 : Nat) : Int) :: encV k (u / 128)
theorem or128' (u : Nat) (h : u < 256) : u ||| 128 = u % 128 + 128 := by
  have : ∀ x : Fin 256, x.val ||| 128 = x.val % 128 + 128 := by decide
  exact this ⟨u, h⟩
/-- where the loop of codec.encoded stands -/
def ERel (w wr : World) (u : Nat) (uv kv : Value) : Prop := ∃ (k x : Nat) (cs : Array Value), kv = .int .i64 k ∧ uv = .int .u64 x ∧ k ≤ 9 ∧ x < 2 * 128 ^ (9 - k) ∧ wr.heap[w.heap.size]? = some (.cells cs 284 (0, 0)) ∧ cs.size = 10 ∧
  cs.toList.take k ++ (encV (9 - k) x).map (Value.int .u8) = (encV 9 u).map (Value.int .u8) ∧ Below w.heap.size w wr
theorem ERel.start (w : World) (u : Nat) (hu : u < 18446744073709551616) (cs : Array Value) (hs : cs.size = 10) : ERel w (w.alloc (.cells cs 284)) u (.int .u64 u) (.int .i64 0) :=
  ⟨0, u, cs, rfl, rfl, by omega, by simpa using hu, heap_alloc_new w _, hs, by simp, (Below.refl _ w).alloc (Nat.le_refl _) _⟩
theorem ERel.step {w wr : World} {u k x : Nat} {cs : Array Value} (hk : k ≤ 9) (hx : x < 2 * 128 ^ (9 - k)) (hge : ¬ x < 128) (hh : wr.heap[w.heap.size]? = some (.cells cs 284 (0, 0))) (hsz : cs.size = 10)
    (hcs : cs.toList.take k ++ (encV (9 - k) x).map (Value.int .u8) = (encV 9 u).map (Value.int .u8)) (hbel : Below w.heap.size w wr) (wr' : World) (v : Int) (hv : v = ((x % 128 + 128 : Nat) : Int))
    (hh' : wr'.heap[w.heap.size]? = some (.cells (cs.set! k (.int .u8 v)) 284 (0, 0))) (hb' : Below w.heap.size w wr') (y : Int) (hy : y = ((x / 128 : Nat) : Int)) (z : Int) (hz : z = ((k + 1 : Nat) : Int)) : ERel w wr' u (.int .u64 y) (.int .i64 z) := by
  have h9 : k < 9 := by
    rcases Nat.lt_or_ge k 9 with h | h
    · exact h
    · obtain rfl : k = 9 := by omega
      simp at hx; omega
  obtain ⟨j, hj⟩ : ∃ j, 9 - k = j + 1 := ⟨9 - k - 1, by omega⟩
  have hj2 : 9 - (k + 1) = j := by omega
  subst hv; subst hy; subst hz
  refine ⟨k + 1, x / 128, _, rfl, rfl, by omega, ?_, hh', by simp [hsz], ?_, hb'⟩
  · rw [hj2]
    rw [hj, Nat.pow_succ] at hx
    exact Nat.div_lt_of_lt_mul (by omega)
  · rw [hj] at hcs
    rw [hj2, ← hcs]
    have e1 : encV (j + 1) x = ((x % 128 + 128 : Nat) : Int) :: encV j (x / 128) := by rw [encV, if_neg hge]
    rw [e1]
    have hl : cs.toList.length = 10 := by simpa using hsz
    have e2 : ((cs.set! k (Value.int .u8 ((x % 128 + 128 : Nat) : Int))).toList).take (k + 1) = cs.toList.take k ++ [Value.int .u8 ((x % 128 + 128 : Nat) : Int)] := by
      rw [Array.set!_eq_setIfInBounds, Array.toList_setIfInBounds]
      rw [List.take_set, List.take_succ_eq_append_getElem (by omega), List.set_append_right _ _ (by simp; omega)]
      simp [Nat.min_eq_left (show k ≤ cs.toList.length by omega), hl, Nat.min_def, show k ≤ 10 by omega]
    rw [e2]
    simp
theorem encV_small {x : Nat} (h : x < 128) : ∀ j, encV j x = [(x : Int)]
  | 0 => rfl
  | j + 1 => by rw [encV, if_pos h]
theorem encV_end {u k x : Nat} {cs : Array Value} (hk : k ≤ 9) (hlt : x < 128) (hsz : cs.size = 10)
    (hcs : cs.toList.take k ++ (encV (9 - k) x).map (Value.int .u8) = (encV 9 u).map (Value.int .u8)) :
    k + 1 = (encV 9 u).length ∧ (cs.setIfInBounds k (Value.int .u8 (x : Int))).toList.take (k + 1) = (encV 9 u).map (Value.int .u8) := by
  rw [encV_small hlt] at hcs
  have hl : cs.toList.length = 10 := by simpa using hsz
  constructor
  · have := congrArg List.length hcs
    simp only [List.length_append, List.length_take, List.length_map, List.length_singleton, hl, List.map_cons, List.map_nil] at this
    omega
  · rw [← hcs, Array.toList_setIfInBounds]
    rw [List.take_set, List.take_succ_eq_append_getElem (by omega), List.set_append_right _ _ (by simp; omega)]
    simp [Nat.min_eq_left (show k ≤ cs.toList.length by omega), hl, Nat.min_def, show k ≤ 10 by omega]
set_option maxHeartbeats 8000000 in
theorem encoded_walk (n : Int) (h1 : -9223372036854775808 ≤ n) (h2 : n ≤ 9223372036854775807) (w : World) (u : Nat) (hu : u = (if n < 0 then (2 * (-(n + 1)) + 1).toNat else (2 * n).toNat : Nat)) :
    Calls Tryz.prog 144 #[.int .i64 n] w fun e w' => ∃ l cs, e = .returned (.slice (some ⟨w.heap.size, 0, none⟩) l l) ∧ w'.heap[w.heap.size]? = some (.cells cs 284 (0, 0)) ∧ l = (encV 9 u).length ∧ cs.toList.take l = (encV 9 u).map (Value.int .u8) ∧ Below w.heap.size w w' := by
  have mixed : Tryz.prog.follows .mixedOrders = true := by kernel_rfl
  have hz : ∀ W, Calls Tryz.prog 200 #[.int .i64 n] W fun e w' => e = .returned (.int .u64 (u : Int)) ∧ w' = W := fun W => (zigzag_ok n h1 h2 W).mono fun e w' ⟨h, hw⟩ => ⟨by rw [h, hu], hw⟩
  have hul : u < 18446744073709551616 := by rw [hu]; split <;> omega
  have HZ := Lib.hid hz
  clear hz hu
  go_enter Tryz.func144, Tryz.ntmps144
  go_wp2_with (go_at_call 200; refine (HZ.out _).mono ?_; rintro e w' ⟨rfl, rfl⟩)
  go_loopw [4, 5] (fun uv kv wr => ERel w wr u uv kv) (fun uv kv _ => (RowKit.intOf uv).toNat)
  case atStart => exact ERel.start w u hul _ rfl
  case round =>
    obtain ⟨k, x, cs, rfl, rfl, hk, hx, hh, hsz, hcs, hbel⟩ := hrel
    have hc : wr.cell? ⟨w.heap.size, k, none⟩ = some (cs.getD k undef) := by
      simp [World.cell?, hh, Array.getD, hsz, show k < 10 by omega]
    have hfz : wr.frozen? ⟨w.heap.size, k, none⟩ = false := by
      simp [World.frozen?, hh]
    have hHeap : ∀ v, (wr.setCell ⟨w.heap.size, k, none⟩ v).heap[w.heap.size]? = some (.cells (cs.set! k v) 284 (0, 0)) := fun v => heap_setCell_same wr w.heap.size k cs 284 v hh
    have HS := Lib.hid hHeap
    have HX := Lib.hid hx
    have HH := Lib.hid hh
    have HC := Lib.hid hcs
    have HB := Lib.hid hbel
    have ha : Tryz.prog.underlying 284 = some (.array (Tryz.prog.arrayLen 284) (Tryz.prog.elem 284)) := by kernel_rfl
    have hl : Tryz.prog.arrayLen 284 = 10 := by kernel_rfl
    have q1 : ∀ w', (Instr.sliceAt 284 (.pointer (some ⟨w.heap.size, 0, none⟩)) none (some (.int .i64 (((k : Int) + 1 + 9223372036854775808) % 18446744073709551616 - 9223372036854775808))) (some (.int .i64 (((k : Int) + 1 + 9223372036854775808) % 18446744073709551616 - 9223372036854775808)))).run Tryz.prog w' = .ok (.slice (some ⟨w.heap.size, 0, none⟩) (k + 1) (k + 1)) w' := fun w' => by
      rw [run_sliceAt_array_hm w' 284 _ ha _ _ _ _ (by omega) (by omega) (by rw [hl]; omega)]
      have hz : (sizeOf (Tryz.prog.elem 284)).run Tryz.prog w' = .ok 1 w' := by
        obtain ⟨i0, hi, hz0, hz1, hz2⟩ := info_parts (show (Tryz.prog.info? 5).map (fun i => (i.zero, i.size, i.bytes)) = some (some (Value.int .u8 0), 1, 1) by kernel_rfl)
        rw [show Tryz.prog.elem 284 = 5 by kernel_rfl]; simp [sizeOf, typeInfo, hi, hz1]
      rw [hz]
      have e : (((k : Int) + 1 + 9223372036854775808) % 18446744073709551616 - 9223372036854775808).toNat = k + 1 := by omega
      simp only [Result.andThen, slicedAt, e, Nat.zero_mul, Nat.sub_zero]
      congr 2
    clear hx hh hcs hbel hHeap ha hl
    by_cases hlt : x < 128
    · have hi : ¬ (128 : Int) ≤ (x : Int) := by omega
      go_wp2
      go_ret
      have HV := encV_end (show k ≤ 9 from hk) hlt hsz HC.out
      exact ⟨k + 1, rfl, _, HS.out _, HV.1, by rw [show ((x : Int) % 256) = (x : Int) by omega]; exact HV.2, HB.out.setCell (Nat.le_refl _) _⟩
    · have hi : (128 : Int) ≤ (x : Int) := by omega
      go_wp2
      go_roundw
      case rel =>
        refine ERel.step hk HX.out hlt HH.out hsz HC.out HB.out _ _ ?_ (HS.out _) (HB.out.setCell (Nat.le_refl _) _) _ (by omega) _ (by omega)
        rw [show ((x : Int) % 256) = ((x % 256 : Nat) : Int) by omega, show (128 : Int) = ((128 : Nat) : Int) from rfl, u8_or_nat _ _ (by omega) (by omega), or128' _ (by omega)]
        omega
      case measure => simp [RowKit.intOf]; omega
end Go.Proofs.YtpdlcbmnmeihoaaGreatDoor.Ev
