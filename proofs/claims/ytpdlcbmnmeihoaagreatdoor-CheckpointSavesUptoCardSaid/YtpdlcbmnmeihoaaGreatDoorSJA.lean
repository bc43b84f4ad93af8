/-  codec.joined, by hand: the walk. -/
import Derived.Test.YtpdlcbmnmeihoaaGreatDoorProg
import Derived.OwnWalk
import Derived.Laws.CopyOwn
import Derived.Laws.Slices
import Derived.Lib.Hide
import Derived.Laws.BitsAllLaws
import Derived.Laws.Bits64
import Derived.Test.YtpdlcbmnmeihoaaGreatDoorSFW
import Derived.ArgAppend
import Derived.Maps.AppendAt
set_option maxRecDepth 1000000
set_option maxHeartbeats 8000000
set_option linter.unusedVariables false
set_option linter.unusedSimpArgs false
set_option linter.unnecessarySimpa false
namespace Go.Proofs.YtpdlcbmnmeihoaaGreatDoor.Ev
open Go Go.RowKit Go.Lib Go.Proofs
theorem block_add' (a : Addr) (n : Nat) : (a.add n).block = a.block := by unfold Addr.add; split <;> rfl
theorem add_lit' (g k : Nat) : (⟨g, 0, none⟩ : Addr).add k = ⟨g, k, none⟩ := by unfold Addr.add; split <;> simp_all
theorem joined_ok (a b : Option Addr) (n m c d : Nat) (xs ys : List Value) (w : World) (hx : xs.length = n) (hy : ys.length = m) (hnm : n + m ≤ 1099511627776)
    (h1 : ∀ v ∈ xs, v.oneCell' = true) (h2 : ∀ v ∈ ys, v.oneCell' = true)
    (ha : 0 < n → ∃ ad, a = some ad ∧ ad.block < w.heap.size ∧ ∀ j v, xs[j]? = some v → w.cell? (ad.add j) = some v)
    (hb : 0 < m → ∃ ad, b = some ad ∧ ad.block < w.heap.size ∧ ∀ j v, ys[j]? = some v → w.cell? (ad.add j) = some v) :
    Calls Tryz.prog 143 #[.slice a n c, .slice b m d] w fun e w' => e = .returned (.slice (some ⟨w.heap.size, 0, none⟩) (n + m) (n + m)) ∧
      w'.heap[w.heap.size]? = some (.cells (xs ++ ys).toArray 5 (0, 0)) ∧ Below w.heap.size w w' := by
  have mixed : Tryz.prog.follows .mixedOrders = true := by kernel_rfl
  have t39 := Tryz.underlying39
  obtain ⟨i0, hi, hz0, hz1, hz2⟩ := info_parts (show (Tryz.prog.info? 5).map (fun i => (i.zero, i.size, i.bytes)) = some (some (Value.int .u8 0), 1, 1) by kernel_rfl)
  have HA := Lib.hid ha
  have HB := Lib.hid hb
  clear ha hb
  go_enter Tryz.func143, Tryz.ntmps143
  go_wp2_with (at_make; refine wpList_make_full _ rfl _ _ 39 rfl w.heap.size 5 i0 (.int .u8 0) 1 t39 hi hz0 hz1 _ _ _ _ (n + m) rfl rfl ?L ?C ?b2 ?b3 (Nat.le_refl _) ?_)
  case L => omega
  case C => omega
  case b2 => rw [hz2]; omega
  case b3 => unfold maxLen; omega
  intro w1 hown hgrow
  obtain ⟨hlen0, hown⟩ := hown
  rcases hown with ⟨e, _⟩ | ⟨g, cap, cur, e1, hbase, hg, hcap, hmx, hsz, htk⟩
  · cases e
  injection e1 with e1 e2 e3
  injection e1 with e1
  injection e1 with e1
  subst e1
  subst e3
  have hbel : Below w.heap.size w w1 := (Below.refl _ _).grown hgrow (Nat.le_refl _) (fun k h => by cases h)
  obtain ⟨L, hL⟩ : ∃ L, L = cur.toList := ⟨_, rfl⟩
  have hgL : w1.heap[w.heap.size]? = some (.cells L.toArray 5 (0, 0)) := by rw [hL]; simpa using hg
  have hLl : L.length = n + m := by rw [hL]; simpa using hsz
  clear hlen0 hbase hg hcap hmx hsz htk hL hgrow
  have hs1 : (Tryz.prog.info? 5).map (·.size) = some 1 := by rw [hi, Option.map_some, hz1]
  have HX := Lib.hid hx
  have HY := Lib.hid hy
  have hu : Tryz.prog.underlying 39 = some (.slice (Tryz.prog.elem 39)) := by kernel_rfl
  have hz : ∀ w', (sizeOf (Tryz.prog.elem 39)).run Tryz.prog w' = .ok 1 w' := fun w' => by rw [show Tryz.prog.elem 39 = 5 by kernel_rfl]; simp [sizeOf, typeInfo, hi, hz1]
  obtain ⟨dp, hdp⟩ : ∃ dp : Option Addr, dp = if n + m = n then some ⟨w.heap.size, 0, none⟩ else some ⟨w.heap.size, n, none⟩ := ⟨_, rfl⟩
  have q1 : ∀ w', (Instr.sliceAt 39 (.slice (some ⟨w.heap.size, 0, none⟩) (n + m) (n + m)) (some (.int .i64 (n : Int))) none none).run Tryz.prog w' = .ok (.slice dp m m) w' := fun w' => by
    rw [run_sliceAt_slice _ _ _ _ _ _ hu, run_slice_l _ _ _ _ _ hu _ _ (by omega) (by omega), hz]
    simp only [Result.andThen, sliced, Int.toNat_natCast, Nat.mul_one, Nat.add_sub_cancel_left, hdp, Option.map_some]
    congr 2
    split
    · rfl
    · rw [add_lit']
  have q2 : ∀ w', (Instr.sliceAt 39 (.slice (some ⟨w.heap.size, 0, none⟩) (n + m) (n + m)) none (some (.int .i64 ((n : Int) + m))) (some (.int .i64 ((n : Int) + m)))).run Tryz.prog w' = .ok (.slice (some ⟨w.heap.size, 0, none⟩) (n + m) (n + m)) w' := fun w' => by
    rw [run_sliceAt_slice _ _ _ _ _ _ hu, run_slice_hm _ _ _ _ _ hu _ _ _ _ (by omega) (by omega) (by omega), hz]
    have e : ((n : Int) + m).toNat = n + m := by omega
    simp only [Result.andThen, sliced, e, Nat.zero_mul, Nat.sub_zero, Option.map_some]
    congr 2
    split
    · rfl
    · rw [add_lit']
  have hdp2 : 0 < m → dp = some ⟨w.heap.size, n, none⟩ := fun h => by rw [hdp, if_neg (by omega)]
  have HD := Lib.hid hdp2
  clear hdp hdp2 hu
  go_wp2_with (first
    | (with_reducible refine wpList_copy_splice rfl (.tmp 13) (.tmp 14) 39 39 rfl 5 t39 hs1 _ _ _ _ _ _ rfl rfl w.heap.size 0 L 5 hgL xs (by rw [hx]; simp [Nat.min_def]) (fun h0 => ⟨rfl, by obtain ⟨ad, e, hlt, hc⟩ := HA.out (by omega); exact ⟨ad, e, fun j v hj => (hbel.cell (by rw [block_add']; exact hlt)).trans (hc j v hj)⟩⟩) (by rw [hx, hLl]; omega) h1 w.heap.size w hbel (Nat.le_refl _) ?_; intro w2 HG2 hbel2)
    | (with_reducible refine wpList_copy_splice rfl (.tmp 18) (.tmp 19) 39 39 rfl 5 t39 hs1 _ _ _ _ _ _ rfl rfl w.heap.size n (splice L 0 xs) 5 HG2.out ys (by rw [hy]; simp [Nat.min_def]) (fun h0 => ⟨HD.out (by omega), by obtain ⟨ad, e, hlt, hc⟩ := HB.out (by omega); exact ⟨ad, e, fun j v hj => (hbel2.cell (by rw [block_add']; exact hlt)).trans (hc j v hj)⟩⟩) (by rw [hy, length_splice _ _ _ (by rw [hx, hLl]; omega), hLl]; omega) h2 w.heap.size w hbel2 (Nat.le_refl _) ?_; intro w3 HG3 hbel3))
  go_ret
  refine ⟨rfl, ?_, hbel3⟩
  rw [HG3.out]
  congr 3
  have e1 : splice L 0 xs = xs ++ L.drop n := by simp [splice, hx]
  rw [e1]
  have e2 : splice (xs ++ L.drop n) n ys = xs ++ ys := by
    unfold splice
    rw [List.take_append_of_le_length (by omega), List.take_of_length_le (by omega), List.drop_of_length_le (by simp; omega), List.append_nil]
  rw [e2]
end Go.Proofs.YtpdlcbmnmeihoaaGreatDoor.Ev
namespace Go.Proofs.YtpdlcbmnmeihoaaGreatDoor.Ev
open Go Go.RowKit Go.Lib Go.Proofs
theorem xor_ones (x : Nat) (h : x < 18446744073709551616) : x ^^^ 18446744073709551615 = 18446744073709551615 - x := by
  have e : (BitVec.ofNat 64 x ^^^ BitVec.allOnes 64).toNat = 18446744073709551615 - x := by
    rw [BitVec.xor_allOnes, BitVec.toNat_not, BitVec.toNat_ofNat, Nat.mod_eq_of_lt (by simpa using h)]
  rw [BitVec.toNat_xor, BitVec.toNat_ofNat, Nat.mod_eq_of_lt (by simpa using h)] at e
  simpa using e
theorem zz (n : Int) (h1 : -9223372036854775808 ≤ n) (h2 : n ≤ 9223372036854775807) :
    bits BinOp.xor .u64 (IntKind.u64.wrap (IntKind.u64.wrap n * 2)) (IntKind.u64.wrap (n / 9223372036854775808)) = ((if n < 0 then (2 * (-(n + 1)) + 1).toNat else (2 * n).toNat : Nat) : Int) := by
  rw [IntKind.wrap_u64, IntKind.wrap_u64, IntKind.wrap_u64]
  by_cases h : n < 0
  · rw [if_pos h]
    have e1 : n % 18446744073709551616 * 2 % 18446744073709551616 = (((2 * n + 18446744073709551616).toNat : Nat) : Int) := by omega
    have e2 : n / 9223372036854775808 % 18446744073709551616 = ((18446744073709551615 : Nat) : Int) := by omega
    rw [e1, e2, bits_xor_u64_nat _ _ (by omega) (by omega), xor_ones _ (by omega)]
    omega
  · rw [if_neg h]
    have e1 : n % 18446744073709551616 * 2 % 18446744073709551616 = (((2 * n).toNat : Nat) : Int) := by omega
    have e2 : n / 9223372036854775808 % 18446744073709551616 = ((0 : Nat) : Int) := by omega
    rw [e1, e2, bits_xor_u64_nat _ _ (by omega) (by omega), Nat.xor_zero]
theorem zigzag_run (n : Int) (w : World) :
    Calls Tryz.prog 200 #[.int .i64 n] w fun e w' => e = .returned (.int .u64 (bits BinOp.xor .u64 (IntKind.u64.wrap (IntKind.u64.wrap n * 2)) (IntKind.u64.wrap (n / 9223372036854775808)))) ∧ w' = w := by
  go_enter Tryz.func200, Tryz.ntmps200
  go_wp2
  go_ret
  exact ⟨rfl, rfl⟩
theorem zigzag_ok (n : Int) (h1 : -9223372036854775808 ≤ n) (h2 : n ≤ 9223372036854775807) (w : World) :
    Calls Tryz.prog 200 #[.int .i64 n] w fun e w' => e = .returned (.int .u64 ((if n < 0 then (2 * (-(n + 1)) + 1).toNat else (2 * n).toNat : Nat) : Int)) ∧ w' = w :=
  (zigzag_run n w).mono fun e w' ⟨h, hw⟩ => ⟨by rw [h, zz n h1 h2], hw⟩
/-- groups of seven bits, the last one below 128 -/
def encV : Nat → Nat → List Int
  | 0, u => [(u : Int)]
  | k + 1, u => if u < 128 then [(u : Int)] else ((u % 128 + 128 : Nat) : Int) :: encV k (u / 128)
theorem or128' (u : Nat) (h : u < 256) : u ||| 128 = u % 128 + 128 := by
  have : ∀ x : Fin 256, x.val ||| 128 = x.val % 128 + 128 := by decide
  exact this ⟨u, h⟩
/-- where the loop of codec.encoded stands -/
def ERel (w wr : World) (u : Nat) (uv kv : Value) : Prop := ∃ (k x : Nat) (cs : Array Value), kv = .int .i64 k ∧ uv = .int .u64 x ∧ k ≤ 9 ∧ x < 2 * 128 ^ (9 - k) ∧ wr.heap[w.heap.size]? = some (.cells cs 284 (0, 0)) ∧ cs.size = 10 ∧
  cs.toList.take k ++ (encV (9 - k) x).map (Value.int .u8) = (encV 9 u).map (Value.int .u8) ∧ Below w.heap.size w wr
theorem ERel.start (w : World) (u : Nat) (hu : u < 18446744073709551616) (cs : Array Value) (hs : cs.size = 10) : ERel w (w.alloc (.cells cs 284)) u (.int .u64 u) (.int .i64 0) :=
  ⟨0, u, cs, rfl, rfl, by omega, by simpa using hu, heap_alloc_new w _, hs, by simp, (Below.refl _ w).alloc (Nat.le_refl _) _⟩
theorem ERel.step {w wr : World} {u k x : Nat} {cs : Array Value} (hk : k ≤ 9) (hx : x < 2 * 128 ^ (9 - k)) (hge : ¬ x < 128) (hh : wr.heap[w.heap.size]? = some (.cells cs 284 (0, 0))) (hsz : cs.size = 10)
    (hcs : cs.toList.take k ++ (encV (9 - k) x).map (Value.int .u8) = (encV 9 u).map (Value.int .u8)) (hbel : Below w.heap.size w wr) (wr' : World) (v : Int) (hv : v = ((x % 128 + 128 : Nat) : Int))
    (hh' : wr'.heap[w.heap.size]? = some (.cells (cs.set! k (.int .u8 v)) 284 (0, 0))) (hb' : Below w.heap.size w wr') (y : Int) (hy : y = ((x / 128 : Nat) : Int)) (z : Int) (hz : z = ((k + 1 : Nat) : Int)) : ERel w wr' u (.int .u64 y) (.int .i64 z) := by
  have h9 : k < 9 := by
    rcases Nat.lt_or_ge k 9 with h | h
    · exact h
    · obtain rfl : k = 9 := by omega
      simp at hx; omega
  obtain ⟨j, hj⟩ : ∃ j, 9 - k = j + 1 := ⟨9 - k - 1, by omega⟩
  have hj2 : 9 - (k + 1) = j := by omega
  subst hv; subst hy; subst hz
  refine ⟨k + 1, x / 128, _, rfl, rfl, by omega, ?_, hh', by simp [hsz], ?_, hb'⟩
  · rw [hj2]
    rw [hj, Nat.pow_succ] at hx
    exact Nat.div_lt_of_lt_mul (by omega)
  · rw [hj] at hcs
    rw [hj2, ← hcs]
    have e1 : encV (j + 1) x = ((x % 128 + 128 : Nat) : Int) :: encV j (x / 128) := by rw [encV, if_neg hge]
    rw [e1]
    have hl : cs.toList.length = 10 := by simpa using hsz
    have e2 : ((cs.set! k (Value.int .u8 ((x % 128 + 128 : Nat) : Int))).toList).take (k + 1) = cs.toList.take k ++ [Value.int .u8 ((x % 128 + 128 : Nat) : Int)] := by
      rw [Array.set!_eq_setIfInBounds, Array.toList_setIfInBounds]
      rw [List.take_set, List.take_succ_eq_append_getElem (by omega), List.set_append_right _ _ (by simp; omega)]
      simp [Nat.min_eq_left (show k ≤ cs.toList.length by omega), hl, Nat.min_def, show k ≤ 10 by omega]
    rw [e2]
    simp
theorem encV_small {x : Nat} (h : x < 128) : ∀ j, encV j x = [(x : Int)]
  | 0 => rfl
  | j + 1 => by rw [encV, if_pos h]
theorem encV_end {u k x : Nat} {cs : Array Value} (hk : k ≤ 9) (hlt : x < 128) (hsz : cs.size = 10)
    (hcs : cs.toList.take k ++ (encV (9 - k) x).map (Value.int .u8) = (encV 9 u).map (Value.int .u8)) :
    k + 1 = (encV 9 u).length ∧ (cs.setIfInBounds k (Value.int .u8 (x : Int))).toList.take (k + 1) = (encV 9 u).map (Value.int .u8) := by
  rw [encV_small hlt] at hcs
  have hl : cs.toList.length = 10 := by simpa using hsz
  constructor
  · have := congrArg List.length hcs
    simp only [List.length_append, List.length_take, List.length_map, List.length_singleton, hl, List.map_cons, List.map_nil] at this
    omega
  · rw [← hcs, Array.toList_setIfInBounds]
    rw [List.take_set, List.take_succ_eq_append_getElem (by omega), List.set_append_right _ _ (by simp; omega)]
    simp [Nat.min_eq_left (show k ≤ cs.toList.length by omega), hl, Nat.min_def, show k ≤ 10 by omega]
set_option maxHeartbeats 8000000 in
theorem encoded_walk (n : Int) (h1 : -9223372036854775808 ≤ n) (h2 : n ≤ 9223372036854775807) (w : World) (u : Nat) (hu : u = (if n < 0 then (2 * (-(n + 1)) + 1).toNat else (2 * n).toNat : Nat)) :
    Calls Tryz.prog 144 #[.int .i64 n] w fun e w' => ∃ l cs, e = .returned (.slice (some ⟨w.heap.size, 0, none⟩) l l) ∧ w'.heap[w.heap.size]? = some (.cells cs 284 (0, 0)) ∧ l = (encV 9 u).length ∧ cs.toList.take l = (encV 9 u).map (Value.int .u8) ∧ Below w.heap.size w w' := by
  have mixed : Tryz.prog.follows .mixedOrders = true := by kernel_rfl
  have hz : ∀ W, Calls Tryz.prog 200 #[.int .i64 n] W fun e w' => e = .returned (.int .u64 (u : Int)) ∧ w' = W := fun W => (zigzag_ok n h1 h2 W).mono fun e w' ⟨h, hw⟩ => ⟨by rw [h, hu], hw⟩
  have hul : u < 18446744073709551616 := by rw [hu]; split <;> omega
  have HZ := Lib.hid hz
  clear hz hu
  go_enter Tryz.func144, Tryz.ntmps144
  go_wp2_with (go_at_call 200; refine (HZ.out _).mono ?_; rintro e w' ⟨rfl, rfl⟩)
  go_loopw [4, 5] (fun uv kv wr => ERel w wr u uv kv) (fun uv kv _ => (RowKit.intOf uv).toNat)
  case atStart => exact ERel.start w u hul _ rfl
  case round =>
    obtain ⟨k, x, cs, rfl, rfl, hk, hx, hh, hsz, hcs, hbel⟩ := hrel
    have hc : wr.cell? ⟨w.heap.size, k, none⟩ = some (cs.getD k undef) := by
      simp [World.cell?, hh, Array.getD, hsz, show k < 10 by omega]
    have hfz : wr.frozen? ⟨w.heap.size, k, none⟩ = false := by
      simp [World.frozen?, hh]
    have hHeap : ∀ v, (wr.setCell ⟨w.heap.size, k, none⟩ v).heap[w.heap.size]? = some (.cells (cs.set! k v) 284 (0, 0)) := fun v => heap_setCell_same wr w.heap.size k cs 284 v hh
    have HS := Lib.hid hHeap
    have HX := Lib.hid hx
    have HH := Lib.hid hh
    have HC := Lib.hid hcs
    have HB := Lib.hid hbel
    have ha : Tryz.prog.underlying 284 = some (.array (Tryz.prog.arrayLen 284) (Tryz.prog.elem 284)) := by kernel_rfl
    have hl : Tryz.prog.arrayLen 284 = 10 := by kernel_rfl
    have q1 : ∀ w', (Instr.sliceAt 284 (.pointer (some ⟨w.heap.size, 0, none⟩)) none (some (.int .i64 (((k : Int) + 1 + 9223372036854775808) % 18446744073709551616 - 9223372036854775808))) (some (.int .i64 (((k : Int) + 1 + 9223372036854775808) % 18446744073709551616 - 9223372036854775808)))).run Tryz.prog w' = .ok (.slice (some ⟨w.heap.size, 0, none⟩) (k + 1) (k + 1)) w' := fun w' => by
      rw [run_sliceAt_array_hm w' 284 _ ha _ _ _ _ (by omega) (by omega) (by rw [hl]; omega)]
      have hz : (sizeOf (Tryz.prog.elem 284)).run Tryz.prog w' = .ok 1 w' := by
        obtain ⟨i0, hi, hz0, hz1, hz2⟩ := info_parts (show (Tryz.prog.info? 5).map (fun i => (i.zero, i.size, i.bytes)) = some (some (Value.int .u8 0), 1, 1) by kernel_rfl)
        rw [show Tryz.prog.elem 284 = 5 by kernel_rfl]; simp [sizeOf, typeInfo, hi, hz1]
      rw [hz]
      have e : (((k : Int) + 1 + 9223372036854775808) % 18446744073709551616 - 9223372036854775808).toNat = k + 1 := by omega
      simp only [Result.andThen, slicedAt, e, Nat.zero_mul, Nat.sub_zero]
      congr 2
    clear hx hh hcs hbel hHeap ha hl
    by_cases hlt : x < 128
    · have hi : ¬ (128 : Int) ≤ (x : Int) := by omega
      go_wp2
      go_ret
      have HV := encV_end (show k ≤ 9 from hk) hlt hsz HC.out
      exact ⟨k + 1, rfl, _, HS.out _, HV.1, by rw [show ((x : Int) % 256) = (x : Int) by omega]; exact HV.2, HB.out.setCell (Nat.le_refl _) _⟩
    · have hi : (128 : Int) ≤ (x : Int) := by omega
      go_wp2
      go_roundw
      case rel =>
        refine ERel.step hk HX.out hlt HH.out hsz HC.out HB.out _ _ ?_ (HS.out _) (HB.out.setCell (Nat.le_refl _) _) _ (by omega) _ (by omega)
        rw [show ((x : Int) % 256) = ((x % 256 : Nat) : Int) by omega, show (128 : Int) = ((128 : Nat) : Int) from rfl, u8_or_nat _ _ (by omega) (by omega), or128' _ (by omega)]
        omega
      case measure => simp [RowKit.intOf]; omega
end Go.Proofs.YtpdlcbmnmeihoaaGreatDoor.Ev
namespace Go.Proofs.YtpdlcbmnmeihoaaGreatDoor.Ev
open Go Go.RowKit
theorem bytes_rel {w : World} {M : Mut} {β : Loc} {B : Nat → Prop} {o : Bool} {a : List Int} {v : Value} (h : Rel w M β B (.lst o (.t5 a)) v) :
    ∃ A c, v = .slice A a.length c ∧ (0 < a.length → ∃ ad, A = some ad ∧ ad.block < w.heap.size ∧ ∀ j u, (a.map (Value.int .u8))[j]? = some u → w.cell? (ad.add j) = some u) := by
  cases h with
  | row p s hs A c vs hc hsz ha hm hr =>
    injection hs with hs
    subst hs
    refine ⟨A, c, rfl, fun h0 => ?_⟩
    obtain ⟨ad, hA⟩ := ha 0 h0
    have hcell : ∀ j u, (a.map (Value.int .u8))[j]? = some u → w.cell? (ad.add j) = some u := fun j u hj => by
      rw [List.getElem?_map] at hj
      cases hx : a[j]? with
      | none => rw [hx] at hj; cases hj
      | some x =>
        rw [hx] at hj
        injection hj with hj
        subst hj
        obtain ⟨hl, hx2⟩ := List.getElem?_eq_some_iff.1 hx
        have hrow : ((LX.t5 a).row j)[0]? = some (.val (.int .u8 x)) := by
          show some (PV.val (.int .u8 (a.getD j default))) = _
          rw [List.getD, hx]; rfl
        have h1 := hm ad j 0 _ hA hl hrow
        have h2 := hr j 0 _ hl hrow
        have e : vs j 0 = .int .u8 x := h2.val_eq
        have h3 := h1.2.1
        rw [e] at h3
        have e2 : j * (LX.t5 a).sz + 0 = j := by show j * 1 + 0 = j; omega
        rw [e2] at h3
        exact h3
    refine ⟨ad, hA, ?_, hcell⟩
    have h4 := hcell 0 (.int .u8 a[0]) (by rw [List.getElem?_map, List.getElem?_eq_getElem h0]; rfl)
    have := cell_lt h4
    rwa [block_add] at this
theorem oneByte (a : List Int) : ∀ v ∈ a.map (Value.int .u8), v.oneCell' = true := fun v h => by
  obtain ⟨x, _, rfl⟩ := List.mem_map.1 h; rfl
theorem row5 (a : List Int) (i j : Nat) (q : PV) (hi : i < a.length) (h : ((LX.t5 a).row i)[j]? = some q) : j = 0 ∧ q = .val (.int .u8 a[i]) := by
  have h' : [PV.val (.int .u8 (a.getD i default))][j]? = some q := h
  cases j with
  | zero =>
    refine ⟨rfl, ?_⟩
    injection h' with h'
    rw [← h', List.getD, List.getElem?_eq_getElem hi]; rfl
  | succ j => simp at h'
theorem joined_own (a b : List Int) (h : a.length + b.length ≤ 1099511627776) : HoldsO Tryz.prog 143 [.lst false (.t5 a), .lst false (.t5 b)] (.lst false (.t5 (a ++ b))) := by
  refine holdsO_of_calls rfl ?_
  intro w N vs hl hr hN hgl
  match vs, hl with
  | [v1, v2], _ =>
    obtain ⟨A, c, rfl, hA⟩ := bytes_rel (hr 0 _ v1 rfl rfl)
    obtain ⟨B, d, rfl, hB⟩ := bytes_rel (hr 1 _ v2 rfl rfl)
    refine (joined_ok A B a.length b.length c d (a.map (Value.int .u8)) (b.map (Value.int .u8)) w (by simp) (by simp) h (oneByte a) (oneByte b) hA hB).mono ?_
    rintro e w' ⟨rfl, hh, hb⟩
    refine ⟨_, rfl, ?_, hb⟩
    by_cases h0 : a.length + b.length = 0
    · refine .inl ⟨some ⟨w.heap.size, 0, none⟩, by rw [h0], ?_⟩
      show (a ++ b).length = 0
      rw [List.length_append]; exact h0
    · obtain ⟨k, hk⟩ : ∃ k, a.length + b.length = k + 1 := ⟨a.length + b.length - 1, by omega⟩
      have hlen : (LX.t5 (a ++ b)).len = k + 1 := by show (a ++ b).length = k + 1; rw [List.length_append]; exact hk
      refine .inr ⟨w.heap.size, k, _, by rw [hlen, hk], Nat.le_refl _, hh, by rw [hlen]; exact Nat.le_refl _, by unfold maxLen; omega, ?_, fun i j q hi hq => ?_⟩
      · show _ = (k + 1) * 1
        simp; omega
      · have hi' : i < (a ++ b).length := hi
        obtain ⟨rfl, rfl⟩ := row5 (a ++ b) i j q hi' hq
        refine ⟨_, rfl, ?_, rfl⟩
        show _[i * 1 + 0]? = _
        rw [Nat.mul_one, Nat.add_zero, List.getElem?_toArray, ← List.map_append, List.getElem?_map, List.getElem?_eq_getElem hi']
        rfl
theorem encoded_holds (n : Int) (h1 : -9223372036854775808 ≤ n) (h2 : n ≤ 9223372036854775807) : Holds Tryz.prog 144 [.val (.int .i64 n)] (.lst false (.t5 (encV 9 (if n < 0 then (2 * (-(n + 1)) + 1).toNat else (2 * n).toNat)))) := by
  intro w N vs hl hr hN hgl
  match vs, hl with
  | [v1], _ =>
    have e1 : v1 = .int .i64 n := (hr 0 _ v1 rfl rfl).val_eq
    subst e1
    generalize hu : (if n < 0 then (2 * (-(n + 1)) + 1).toNat else (2 * n).toNat) = u
    refine (encoded_walk n h1 h2 w u hu.symm).mono ?_
    rintro e w' ⟨l, cs, rfl, hh, hlen, htk, hb⟩
    subst hlen
    refine ⟨_, rfl, ?_, hb⟩
    have hle : (encV 9 u).length ≤ cs.size := by
      have := congrArg List.length htk
      simp only [List.length_take, List.length_map, Array.length_toList] at this
      omega
    refine Rel_row (s := ⟨false, 5, 1, (encV 9 u).length, (LX.t5 (encV 9 u)).row⟩) rfl rfl hh (Nat.le_refl _) (fun i _ => rfl) (fun i hi m hm => ?_) (fun i j q hi hq => ?_)
    · have := hN _ _ hm
      exact absurd this (Nat.lt_irrefl _)
    · obtain ⟨rfl, rfl⟩ := row5 (encV 9 u) i j q hi hq
      refine ⟨_, ?_, .val _ rfl, rfl⟩
      show cs[i * 1 + 0]? = _
      have h3 := congrArg (fun l => l[i]?) htk
      simp only [List.getElem?_take, List.getElem?_map, hi, if_true, List.getElem?_eq_getElem hi, Option.map_some, Array.getElem?_toList] at h3
      rw [Nat.mul_one, Nat.add_zero]
      exact h3
end Go.Proofs.YtpdlcbmnmeihoaaGreatDoor.Ev
namespace Go.Proofs.YtpdlcbmnmeihoaaGreatDoor.Ev
open Go Go.RowKit Go.Lib Go.Proofs
def eB (n : Int) : List Int := encV 9 (if n < 0 then (2 * (-(n + 1)) + 1).toNat else (2 * n).toNat)
theorem encV_len : ∀ k u, 1 ≤ (encV k u).length ∧ (encV k u).length ≤ k + 1
  | 0, u => by simp [encV]
  | k + 1, u => by
    unfold encV
    split
    · simp
    · have := encV_len k (u / 128)
      simp only [List.length_cons]; omega
theorem eB_len (n : Int) : 1 ≤ (eB n).length ∧ (eB n).length ≤ 10 := encV_len 9 _
def zB (ls : List Int) (k : Nat) : List Int := eB (ls.length : Int) ++ (ls.take k).flatMap eB
theorem zB_succ (ls : List Int) (k : Nat) (h : k < ls.length) : zB ls (k + 1) = zB ls k ++ eB (ls.getD k 0) := by
  unfold zB
  rw [List.take_succ_eq_append_getElem h, List.flatMap_append, List.append_assoc]
  simp [List.getD, h]
theorem zB_len (ls : List Int) : ∀ k, k ≤ ls.length → 1 ≤ (zB ls k).length ∧ (zB ls k).length ≤ 10 * (k + 1)
  | 0, _ => by have := eB_len (ls.length : Int); simp [zB]; omega
  | k + 1, h => by
    have ih := zB_len ls k (by omega)
    have := eB_len (ls.getD k 0)
    rw [zB_succ ls k (by omega), List.length_append]; omega
theorem enc_call (n : Int) (h1 : -9223372036854775808 ≤ n) (h2 : n ≤ 9223372036854775807) (w : World) :
    Calls Tryz.prog 144 #[.int .i64 n] w fun e w' => e = .returned (.slice (some ⟨w.heap.size, 0, none⟩) (eB n).length (eB n).length) ∧ w.heap.size < w'.heap.size ∧
      (∀ j u, ((eB n).map (Value.int .u8))[j]? = some u → w'.cell? ((⟨w.heap.size, 0, none⟩ : Addr).add j) = some u) ∧ Below w.heap.size w w' := by
  obtain ⟨u, hu⟩ : ∃ u, u = (if n < 0 then (2 * (-(n + 1)) + 1).toNat else (2 * n).toNat) := ⟨_, rfl⟩
  have e : eB n = encV 9 u := by rw [hu]; rfl
  rw [e]
  refine (encoded_walk n h1 h2 w u hu).mono ?_
  rintro e w' ⟨l, cs, rfl, hh, rfl, htk, hb⟩
  refine ⟨rfl, (Array.getElem?_eq_some_iff.1 hh).1, fun j v hj => ?_, hb⟩
  rw [add_lit']
  rw [← htk, List.getElem?_take] at hj
  split at hj
  · simp only [World.cell?, hh]
    simpa using hj
  · cases hj
/-- where the loop of codec.PutInts stands -/
def TRel (w wr : World) (ls : List Int) (tv iv : Value) : Prop := ∃ k : Nat, iv = .int .i64 k ∧ k ≤ ls.length ∧ Below w.heap.size w wr ∧
  ((k = 0 ∧ ∃ g, tv = .slice (some ⟨g, 0, none⟩) (zB ls 0).length (zB ls 0).length ∧ ∀ j u, ((zB ls 0).map (Value.int .u8))[j]? = some u → wr.cell? ((⟨g, 0, none⟩ : Addr).add j) = some u) ∨
   wr.ownsRow w.heap.size 5 1 tv (zB ls k).length ((zB ls k).map (Value.int .u8)))
theorem grown_of {B : Nat} {w w' : World} (h : Below B w w') (hB : B = w.heap.size) : w.grownBy w' none := ⟨h.os, h.tape, h.output, h.size, fun k hk _ => h.block k (by omega)⟩
theorem w64_succJ (k : Nat) (h : k ≤ 1099511627776) : Value.int .i64 (((k : Int) + 1 + 9223372036854775808) % 18446744073709551616 - 9223372036854775808) = Value.int .i64 ((k + 1 : Nat) : Int) := by
  have e : ((k : Int) + 1 + 9223372036854775808) % 18446744073709551616 - 9223372036854775808 = ((k + 1 : Nat) : Int) := by omega
  rw [e]
theorem w64_eq (k : Nat) (h : k ≤ 1099511627776) : ((k : Int) + 1 + 9223372036854775808) % 18446744073709551616 - 9223372036854775808 = ((k + 1 : Nat) : Int) := by omega
theorem meas {k n : Nat} (W : Int) (h : k < n) (X Y : Value) (hX : X = .int .i64 W) (hW : W = ((k + 1 : Nat) : Int)) (hY : Y = .int .i64 (k : Int)) : n - (RowKit.intOf X).toNat < n - (RowKit.intOf Y).toNat := by
  subst hX; subst hY; subst hW
  show n - ((k + 1 : Nat) : Int).toNat < n - (k : Int).toNat
  rw [Int.toNat_natCast, Int.toNat_natCast]
  omega
theorem ownsRow_base {w : World} {b1 b2 e size n : Nat} {v : Value} {xs : List Value} (h : w.ownsRow b1 e size v n xs) (hb : b2 ≤ b1) : w.ownsRow b2 e size v n xs := by
  obtain ⟨h1, h2 | ⟨g, cap, cur, q1, q2, q3⟩⟩ := h
  · exact ⟨h1, .inl h2⟩
  · exact ⟨h1, .inr ⟨g, cap, cur, q1, Nat.le_trans hb q2, q3⟩⟩
theorem own_or (o : Option Nat) : o = none ∨ o ≠ none := by cases o <;> simp
theorem tail_of {wr : World} {B k : Nat} {ls : List Int} {tv : Value} (h : (k = 0 ∧ ∃ g, tv = .slice (some ⟨g, 0, none⟩) (zB ls 0).length (zB ls 0).length ∧ ∀ j u, ((zB ls 0).map (Value.int .u8))[j]? = some u → wr.cell? ((⟨g, 0, none⟩ : Addr).add j) = some u) ∨
    wr.ownsRow B 5 1 tv (zB ls k).length ((zB ls k).map (Value.int .u8))) (hpos : 1 ≤ (zB ls k).length) : ∃ A cp, tv = .slice (some A) (zB ls k).length cp ∧ A.block < wr.heap.size ∧ ∀ j u, ((zB ls k).map (Value.int .u8))[j]? = some u → wr.cell? (A.add j) = some u := by
  rcases h with ⟨rfl, g, rfl, hc⟩ | hown
  · refine ⟨_, _, rfl, ?_, hc⟩
    have h0 := hc 0 (.int .u8 (zB ls 0)[0]) (by rw [List.getElem?_map, List.getElem?_eq_getElem (by omega)]; rfl)
    have := World.block_lt_of_cell? _ _ h0
    rwa [block_add'] at this
  · have hcell := fun g (hg : tv.ownBlock = some g) => hown.cells hg
    obtain ⟨h1, ⟨_, h0⟩ | ⟨g, cap, cur, rfl, q2, q3, _⟩⟩ := hown
    · omega
    · exact ⟨_, _, rfl, (Array.getElem?_eq_some_iff.1 q3).1, hcell g rfl⟩
theorem PutInts_walk (b lA : Option Addr) (n c lc : Nat) (xs : List Value) (ls : List Int) (w : World) (hx : xs.length = n) (hn : n + 10 * (ls.length + 1) ≤ 1099511627776)
    (h1 : ∀ v ∈ xs, v.oneCell' = true) (hb : 0 < n → ∃ ad, b = some ad ∧ ad.block < w.heap.size ∧ ∀ j v, xs[j]? = some v → w.cell? (ad.add j) = some v)
    (hr : ∀ x ∈ ls, -9223372036854775808 ≤ x ∧ x ≤ 9223372036854775807)
    (hl : ∀ k, k < ls.length → ∃ ad, lA = some ad ∧ ad.block < w.heap.size ∧ w.cell? (ad.add k) = some (.int .i64 (ls.getD k 0))) :
    Calls Tryz.prog 145 #[.slice b n c, .slice lA ls.length lc] w fun e w' => ∃ g, e = .returned (.slice (some ⟨g, 0, none⟩) (n + (zB ls ls.length).length) (n + (zB ls ls.length).length)) ∧ w.heap.size ≤ g ∧
      w'.heap[g]? = some (.cells (xs ++ (zB ls ls.length).map (Value.int .u8)).toArray 5 (0, 0)) ∧ Below w.heap.size w w' := by
  have mixed : Tryz.prog.follows .mixedOrders = true := by kernel_rfl
  have t39 := Tryz.underlying39
  have t29 := Tryz.underlying29
  obtain ⟨i0, hi, hz0, hz1, hz2⟩ := info_parts (show (Tryz.prog.info? 5).map (fun i => (i.zero, i.size, i.bytes)) = some (some (Value.int .u8 0), 1, 1) by kernel_rfl)
  have E0 := Lib.hid (fun W => enc_call (ls.length : Int) (by omega) (by omega) W)
  have HN := Lib.hid hn
  have HR := Lib.hid hr
  have HL := Lib.hid hl
  have HB := Lib.hid hb
  have H1 := Lib.hid h1
  clear hn hr hl hb h1
  go_enter Tryz.func145, Tryz.ntmps145
  go_wp2_with (go_at_call 144; refine (E0.out _).mono ?_; rintro e w1 ⟨rfl, hg1, hc1, hbel1⟩)
  have HC1 := Lib.hid hc1
  have HB1 := Lib.hid hbel1
  clear hc1 hbel1
  go_wp2
  go_loopw [5, 13] (fun tv iv wr => TRel w wr ls tv iv) (fun tv iv _ => ls.length - (RowKit.intOf iv).toNat)
  case atStart =>
    refine ⟨0, rfl, Nat.zero_le _, HB1.out, .inl ⟨rfl, w.heap.size, ?_, ?_⟩⟩
    · simp [zB]
    · simpa [zB] using HC1.out
  case round =>
    obtain ⟨k, rfl, hk, hbel, ht⟩ := hrel
    have HT := Lib.hid ht
    have HBk := Lib.hid hbel
    clear ht hbel
    by_cases hlt : k < ls.length
    · obtain ⟨ad, rfl, hlt2, hcl⟩ := HL.out k hlt
      have hc : wr.cell? (ad.add k) = some (.int .i64 (ls.getD k 0)) := (HBk.out.cell (by rw [block_add']; exact hlt2)).trans hcl
      have hrk := HR.out (ls.getD k 0) (by rw [List.getD, List.getElem?_eq_getElem hlt]; exact List.getElem_mem _)
      have EK := Lib.hid (fun W => enc_call (ls.getD k 0) hrk.1 hrk.2 W)
      have HZ := Lib.hid (zB_succ ls k hlt)
      have HZl := Lib.hid (zB_len ls k hk)
      have HEl := Lib.hid (eB_len (ls.getD k 0))
      clear hcl hlt2 hrk
      generalize ls.getD k 0 = x at *
      rcases HT.out with ⟨rfl, g, rfl, hcg⟩ | hown
      · have HG := Lib.hid hcg
        clear hcg
        have hc0 : wr.cell? ad = some (.int .i64 x) := by
          have e0 : ad.add 0 = ad := by unfold Addr.add; simp
          rw [e0] at hc; exact hc
        go_wp2_with (first
          | (go_at_call 144; refine (EK.out _).mono ?_; rintro e w2 ⟨rfl, hg2, hc2, hb2⟩; have HC2 := Lib.hid hc2; have HB2 := Lib.hid hb2; clear hc2 hb2)
          | (at_builtin; go_loud (refine wpList_append_grows _ rfl (.tmp 17) (.tmp 19) 39 rfl 5 i0 _ 1 1 t39 hi hz0 hz1 hz2 rfl (by decide) (some ⟨g, 0, none⟩) (zB ls 0).length (zB ls 0).length ((zB ls 0).map (Value.int .u8)) rfl (by intro h; cases h) (by simp) (by intro b0 hb0 j u hj; injection hb0 with hb0; subst hb0; have hq := HG.out j u hj; exact (HB2.out.cell (World.block_lt_of_cell? _ _ hq)).trans hq) ⟨wr.heap.size, 0, none⟩ (eB x).length (eB x).length ((eB x).map (Value.int .u8)) rfl (by simp) HC2.out (by intro u hu; obtain ⟨y, _, rfl⟩ := List.mem_map.1 hu; rfl) (by have := HEl.out; omega) (by have := HEl.out; have := HZl.out; have := HN.out; unfold maxLen; omega) (by have := HEl.out; have := HZl.out; have := HN.out; omega) ?_); intro v' w3 hown3 hgrow3))
        go_roundw
        case rel =>
          refine ⟨1, rfl, hlt, (HBk.out.trans (HB2.out.mono HBk.out.size)).grown hgrow3 (Nat.le_trans HBk.out.size HB2.out.size) (fun k h => by cases h), .inr ?_⟩
          have hZ := HZ.out
          rw [Nat.zero_add] at hZ
          rw [hZ, List.length_append, List.map_append]
          exact ownsRow_base hown3 (Nat.le_trans HBk.out.size HB2.out.size)
        case measure => simp [RowKit.intOf]; omega
      · have HO := Lib.hid hown
        clear hown
        go_wp2_with (first
          | (go_at_call 144; refine (EK.out _).mono ?_; rintro e w2 ⟨rfl, hg2, hc2, hb2⟩; have HC2 := Lib.hid hc2; have HB2 := Lib.hid hb2; clear hc2 hb2)
          | (at_builtin; go_loud (refine wpList_append_own_at _ rfl (.tmp 17) (.tmp 19) 39 rfl w.heap.size 5 i0 _ 1 1 t39 hi hz0 hz1 hz2 rfl (by decide) _ (zB ls k).length ((zB ls k).map (Value.int .u8)) rfl (HO.out.kept (grown_of HB2.out rfl) (own_or _)) ⟨wr.heap.size, 0, none⟩ (eB x).length (eB x).length ((eB x).map (Value.int .u8)) rfl (by simp) HC2.out (by intro u hu; obtain ⟨y, _, rfl⟩ := List.mem_map.1 hu; rfl) (by have := HEl.out; have := HZl.out; have := HN.out; unfold maxLen; omega) (by have := HEl.out; have := HZl.out; have := HN.out; omega) (Nat.le_trans HBk.out.size HB2.out.size) ?_); intro v' w3 hown3 hgrow3 hnil3 hblk3))
        go_roundw
        case rel =>
          refine ⟨k + 1, w64_succJ k (by have := HN.out; omega), hlt, (HBk.out.trans (HB2.out.mono HBk.out.size)).grown hgrow3 (Nat.le_trans HBk.out.size HB2.out.size) (fun j h => (HO.out.lt j h).1), .inr ?_⟩
          rw [HZ.out, List.length_append, List.map_append]
          exact hown3
        case measure =>
          have hk2 : k ≤ 1099511627776 := by have := HN.out; omega
          exact meas (((k : Int) + 1 + 9223372036854775808) % 18446744073709551616 - 9223372036854775808) hlt _ _ rfl (w64_eq k hk2) rfl
    · obtain rfl : k = ls.length := Nat.le_antisymm hk (Nat.le_of_not_lt hlt)
      obtain ⟨A, cp, hA, hcA⟩ := tail_of HT.out (zB_len ls _ (Nat.le_refl _)).1
      subst hA
      have HCA := Lib.hid hcA
      clear hcA HT
      go_wp2_with (go_at_call 143; go_loud (refine (joined_ok b (some A) n (zB ls ls.length).length c cp xs ((zB ls ls.length).map (Value.int .u8)) wr hx (by simp) (by have := zB_len ls _ (Nat.le_refl ls.length); have := HN.out; omega) H1.out (by intro u hu; obtain ⟨y, _, rfl⟩ := List.mem_map.1 hu; rfl) (by intro h0; obtain ⟨ad, e, h2, h3⟩ := HB.out h0; exact ⟨ad, e, Nat.lt_of_lt_of_le h2 HBk.out.size, fun j v hj => (HBk.out.cell (by rw [block_add']; exact h2)).trans (h3 j v hj)⟩) (by intro h0; exact ⟨A, rfl, HCA.out⟩)).mono ?_); rintro e w2 ⟨rfl, hh2, hb2⟩)
      go_ret
      exact ⟨wr.heap.size, rfl, HBk.out.size, hh2, HBk.out.trans (hb2.mono HBk.out.size)⟩
end Go.Proofs.YtpdlcbmnmeihoaaGreatDoor.Ev
namespace Go.Proofs.YtpdlcbmnmeihoaaGreatDoor.Ev
open Go Go.RowKit
theorem ints_rel {w : World} {M : Mut} {β : Loc} {B : Nat → Prop} {o : Bool} {a : List Int} {v : Value} (h : Rel w M β B (.lst o (.t3 a)) v) :
    ∃ A c, v = .slice A a.length c ∧ ∀ k, k < a.length → ∃ ad, A = some ad ∧ ad.block < w.heap.size ∧ w.cell? (ad.add k) = some (.int .i64 (a.getD k 0)) := by
  cases h with
  | row p s hs A c vs hc hsz ha hm hr =>
    injection hs with hs
    subst hs
    refine ⟨A, c, rfl, fun k hk => ?_⟩
    obtain ⟨ad, hA⟩ := ha k hk
    have hrow : ((LX.t3 a).row k)[0]? = some (.val (.int .i64 (a.getD k 0))) := rfl
    have h1 := hm ad k 0 _ hA hk hrow
    have e : vs k 0 = .int .i64 (a.getD k 0) := (hr k 0 _ hk hrow).val_eq
    have h3 := h1.2.1
    rw [e] at h3
    have e2 : k * (LX.t3 a).sz + 0 = k := by show k * 1 + 0 = k; omega
    rw [e2] at h3
    have := cell_lt h3
    rw [block_add] at this
    exact ⟨ad, hA, this, h3⟩
theorem PutInts_own (b ls : List Int) (h : b.length + 10 * (ls.length + 1) ≤ 1099511627776) (hr : ∀ x ∈ ls, -9223372036854775808 ≤ x ∧ x ≤ 9223372036854775807) :
    HoldsO Tryz.prog 145 [.lst false (.t5 b), .lst false (.t3 ls)] (.lst false (.t5 (b ++ zB ls ls.length))) := by
  refine holdsO_of_calls rfl ?_
  intro w N vs hl hrr hN hgl
  match vs, hl with
  | [v1, v2], _ =>
    obtain ⟨A, c, rfl, hA⟩ := bytes_rel (hrr 0 _ v1 rfl rfl)
    obtain ⟨B, d, rfl, hB⟩ := ints_rel (hrr 1 _ v2 rfl rfl)
    refine (PutInts_walk A B b.length c d (b.map (Value.int .u8)) ls w (by simp) h (oneByte b) hA hr hB).mono ?_
    rintro e w' ⟨g, rfl, hg, hh, hb⟩
    have hz := zB_len ls ls.length (Nat.le_refl _)
    refine ⟨_, rfl, ?_, hb⟩
    obtain ⟨k, hk⟩ : ∃ k, b.length + (zB ls ls.length).length = k + 1 := ⟨b.length + (zB ls ls.length).length - 1, by omega⟩
    have hlen : (LX.t5 (b ++ zB ls ls.length)).len = k + 1 := by show (b ++ zB ls ls.length).length = k + 1; rw [List.length_append]; exact hk
    refine .inr ⟨g, k, _, by rw [hlen, hk], hg, hh, by rw [hlen]; exact Nat.le_refl _, by unfold maxLen; omega, ?_, fun i j q hi hq => ?_⟩
    · show _ = (k + 1) * 1
      simp; omega
    · have hi' : i < (b ++ zB ls ls.length).length := hi
      obtain ⟨rfl, rfl⟩ := row5 (b ++ zB ls ls.length) i j q hi' hq
      refine ⟨_, rfl, ?_, rfl⟩
      show _[i * 1 + 0]? = _
      rw [Nat.mul_one, Nat.add_zero, List.getElem?_toArray, ← List.map_append, List.getElem?_map, List.getElem?_eq_getElem hi']
      rfl
end Go.Proofs.YtpdlcbmnmeihoaaGreatDoor.Ev
