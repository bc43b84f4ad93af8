/-  codec.joined, by hand: the walk. -/
import Derived.Test.YtpdlcbmnmeihoaaGreatDoorProg
import Derived.OwnWalk
import Derived.Laws.CopyOwn
import Derived.Laws.Slices
import Derived.Lib.Hide
set_option maxRecDepth 100000
set_option maxHeartbeats 4000000
set_option linter.unusedVariables false
set_option linter.unusedSimpArgs false
set_option linter.unnecessarySimpa false
namespace Go.Proofs.YtpdlcbmnmeihoaaGreatDoor.Ev
open Go Go.RowKit Go.Lib Go.Proofs
theorem block_add' (a : Addr) (n : Nat) : (a.add n).block = a.block := by unfold Addr.add; split <;> rfl
theorem add_lit' (g k : Nat) : (⟨g, 0, none⟩ : Addr).add k = ⟨g, k, none⟩ := by unfold Addr.add; split <;> simp_all
theorem joined_ok (a b : Option Addr) (n m c d : Nat) (xs ys : List Value) (w : World) (hx : xs.length = n) (hy : ys.length = m) (hnm : n + m ≤ 1099511627776)
    (h1 : ∀ v ∈ xs, v.oneCell' = true) (h2 : ∀ v ∈ ys, v.oneCell' = true)
    (ha : 0 < n → ∃ ad, a = some ad ∧ ad.block < w.heap.size ∧ ∀ j v, xs[j]? = some v → w.cell? (ad.add j) = some v)
    (hb : 0 < m → ∃ ad, b = some ad ∧ ad.block < w.heap.size ∧ ∀ j v, ys[j]? = some v → w.cell? (ad.add j) = some v) :
    Calls Tryz.prog 143 #[.slice a n c, .slice b m d] w fun e w' => e = .returned (.slice (some ⟨w.heap.size, 0, none⟩) (n + m) (n + m)) ∧
      w'.heap[w.heap.size]? = some (.cells (xs ++ ys).toArray 5 (0, 0)) ∧ Below w.heap.size w w' := by
  have mixed : Tryz.prog.follows .mixedOrders = true := by kernel_rfl
  have t39 := Tryz.underlying39
  obtain ⟨i0, hi, hz0, hz1, hz2⟩ := info_parts (show (Tryz.prog.info? 5).map (fun i => (i.zero, i.size, i.bytes)) = some (some (Value.int .u8 0), 1, 1) by kernel_rfl)
  have HA := Lib.hid ha
  have HB := Lib.hid hb
  clear ha hb
  go_enter Tryz.func143, Tryz.ntmps143
  go_wp2_with (at_make; refine wpList_make_full _ rfl _ _ 39 rfl w.heap.size 5 i0 (.int .u8 0) 1 t39 hi hz0 hz1 _ _ _ _ (n + m) rfl rfl ?L ?C ?b2 ?b3 (Nat.le_refl _) ?_)
  case L => omega
  case C => omega
  case b2 => rw [hz2]; omega
  case b3 => unfold maxLen; omega
  intro w1 hown hgrow
  obtain ⟨hlen0, hown⟩ := hown
  rcases hown with ⟨e, _⟩ | ⟨g, cap, cur, e1, hbase, hg, hcap, hmx, hsz, htk⟩
  · cases e
  injection e1 with e1 e2 e3
  injection e1 with e1
  injection e1 with e1
  subst e1
  subst e3
  have hbel : Below w.heap.size w w1 := (Below.refl _ _).grown hgrow (Nat.le_refl _) (fun k h => by cases h)
  obtain ⟨L, hL⟩ : ∃ L, L = cur.toList := ⟨_, rfl⟩
  have hgL : w1.heap[w.heap.size]? = some (.cells L.toArray 5 (0, 0)) := by rw [hL]; simpa using hg
  have hLl : L.length = n + m := by rw [hL]; simpa using hsz
  clear hlen0 hbase hg hcap hmx hsz htk hL hgrow
  have hs1 : (Tryz.prog.info? 5).map (·.size) = some 1 := by rw [hi, Option.map_some, hz1]
  have HX := Lib.hid hx
  have HY := Lib.hid hy
  have hu : Tryz.prog.underlying 39 = some (.slice (Tryz.prog.elem 39)) := by kernel_rfl
  have hz : ∀ w', (sizeOf (Tryz.prog.elem 39)).run Tryz.prog w' = .ok 1 w' := fun w' => by rw [show Tryz.prog.elem 39 = 5 by kernel_rfl]; simp [sizeOf, typeInfo, hi, hz1]
  obtain ⟨dp, hdp⟩ : ∃ dp : Option Addr, dp = if n + m = n then some ⟨w.heap.size, 0, none⟩ else some ⟨w.heap.size, n, none⟩ := ⟨_, rfl⟩
  have q1 : ∀ w', (Instr.sliceAt 39 (.slice (some ⟨w.heap.size, 0, none⟩) (n + m) (n + m)) (some (.int .i64 (n : Int))) none none).run Tryz.prog w' = .ok (.slice dp m m) w' := fun w' => by
    rw [run_sliceAt_slice _ _ _ _ _ _ hu, run_slice_l _ _ _ _ _ hu _ _ (by omega) (by omega), hz]
    simp only [Result.andThen, sliced, Int.toNat_natCast, Nat.mul_one, Nat.add_sub_cancel_left, hdp, Option.map_some]
    congr 2
    split
    · rfl
    · rw [add_lit']
  have q2 : ∀ w', (Instr.sliceAt 39 (.slice (some ⟨w.heap.size, 0, none⟩) (n + m) (n + m)) none (some (.int .i64 ((n : Int) + m))) (some (.int .i64 ((n : Int) + m)))).run Tryz.prog w' = .ok (.slice (some ⟨w.heap.size, 0, none⟩) (n + m) (n + m)) w' := fun w' => by
    rw [run_sliceAt_slice _ _ _ _ _ _ hu, run_slice_hm _ _ _ _ _ hu _ _ _ _ (by omega) (by omega) (by omega), hz]
    have e : ((n : Int) + m).toNat = n + m := by omega
    simp only [Result.andThen, sliced, e, Nat.zero_mul, Nat.sub_zero, Option.map_some]
    congr 2
    split
    · rfl
    · rw [add_lit']
  have hdp2 : 0 < m → dp = some ⟨w.heap.size, n, none⟩ := fun h => by rw [hdp, if_neg (by omega)]
  have HD := Lib.hid hdp2
  clear hdp hdp2 hu
  go_wp2_with (first
    | (with_reducible refine wpList_copy_splice rfl (.tmp 13) (.tmp 14) 39 39 rfl 5 t39 hs1 _ _ _ _ _ _ rfl rfl w.heap.size 0 L 5 hgL xs (by rw [hx]; simp [Nat.min_def]) (fun h0 => ⟨rfl, by obtain ⟨ad, e, hlt, hc⟩ := HA.out (by omega); exact ⟨ad, e, fun j v hj => (hbel.cell (by rw [block_add']; exact hlt)).trans (hc j v hj)⟩⟩) (by rw [hx, hLl]; omega) h1 w.heap.size w hbel (Nat.le_refl _) ?_; intro w2 HG2 hbel2)
    | (with_reducible refine wpList_copy_splice rfl (.tmp 18) (.tmp 19) 39 39 rfl 5 t39 hs1 _ _ _ _ _ _ rfl rfl w.heap.size n (splice L 0 xs) 5 HG2.out ys (by rw [hy]; simp [Nat.min_def]) (fun h0 => ⟨HD.out (by omega), by obtain ⟨ad, e, hlt, hc⟩ := HB.out (by omega); exact ⟨ad, e, fun j v hj => (hbel2.cell (by rw [block_add']; exact hlt)).trans (hc j v hj)⟩⟩) (by rw [hy, length_splice _ _ _ (by rw [hx, hLl]; omega), hLl]; omega) h2 w.heap.size w hbel2 (Nat.le_refl _) ?_; intro w3 HG3 hbel3))
  go_ret
  refine ⟨rfl, ?_, hbel3⟩
  rw [HG3.out]
  congr 3
  have e1 : splice L 0 xs = xs ++ L.drop n := by simp [splice, hx]
  rw [e1]
  have e2 : splice (xs ++ L.drop n) n ys = xs ++ ys := by
    unfold splice
    rw [List.take_append_of_le_length (by omega), List.take_of_length_le (by omega), List.drop_of_length_le (by simp; omega), List.append_nil]
  rw [e2]
end Go.Proofs.YtpdlcbmnmeihoaaGreatDoor.Ev
