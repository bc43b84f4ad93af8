/-  codec.PutInts, by hand: the walk. -/
import Derived.Test.YtpdlcbmnmeihoaaGreatDoorBJa
import Derived.Test.YtpdlcbmnmeihoaaGreatDoorBJb
import Derived.ArgAppend
import Derived.Maps.AppendAt
set_option maxRecDepth 1000000
set_option maxHeartbeats 8000000
set_option linter.unusedVariables false
set_option linter.unusedSimpArgs false
set_option linter.unnecessarySimpa false
namespace Go.Proofs.YtpdlcbmnmeihoaaGreatDoor.Ev
open Go Go.RowKit Go.Lib Go.Proofs
def eB (n : Int) : List Int := encV 9 (if n < 0 then (2 * (-(n + 1)) + 1).toNat else (2 * n).toNat)
theorem encV_len : ∀ k u, 1 ≤ (encV k u).length ∧ (encV k u).length ≤ k + 1
  | 0, u => by simp [encV]
  | k + 1, u => by
    unfold encV
    split
    · simp
    · have := encV_len k (u / 128)
      simp only [List.length_cons]; omega
theorem eB_len (n : Int) : 1 ≤ (eB n).length ∧ (eB n).length ≤ 10 := encV_len 9 _
def zB (ls : List Int) (k : Nat) : List Int := eB (ls.length : Int) ++ (ls.take k).flatMap eB
theorem zB_succ (ls : List Int) (k : Nat) (h : k < ls.length) : zB ls (k + 1) = zB ls k ++ eB (ls.getD k 0) := by
  unfold zB
  rw [List.take_succ_eq_append_getElem h, List.flatMap_append, List.append_assoc]
  simp [List.getD, h]
theorem zB_len (ls : List Int) : ∀ k, k ≤ ls.length → 1 ≤ (zB ls k).length ∧ (zB ls k).length ≤ 10 * (k + 1)
  | 0, _ => by have := eB_len (ls.length : Int); simp [zB]; omega
  | k + 1, h => by
    have ih := zB_len ls k (by omega)
    have := eB_len (ls.getD k 0)
    rw [zB_succ ls k (by omega), List.length_append]; omega
theorem enc_call (n : Int) (h1 : -9223372036854775808 ≤ n) (h2 : n ≤ 9223372036854775807) (w : World) :
    Calls Tryz.prog 144 #[.int .i64 n] w fun e w' => e = .returned (.slice (some ⟨w.heap.size, 0, none⟩) (eB n).length (eB n).length) ∧ w.heap.size < w'.heap.size ∧
      (∀ j u, ((eB n).map (Value.int .u8))[j]? = some u → w'.cell? ((⟨w.heap.size, 0, none⟩ : Addr).add j) = some u) ∧ Below w.heap.size w w' := by
  obtain ⟨u, hu⟩ : ∃ u, u = (if n < 0 then (2 * (-(n + 1)) + 1).toNat else (2 * n).toNat) := ⟨_, rfl⟩
  have e : eB n = encV 9 u := by rw [hu]; rfl
  rw [e]
  refine (encoded_walk n h1 h2 w u hu).mono ?_
  rintro e w' ⟨l, cs, rfl, hh, rfl, htk, hb⟩
  refine ⟨rfl, (Array.getElem?_eq_some_iff.1 hh).1, fun j v hj => ?_, hb⟩
  rw [add_lit']
  rw [← htk, List.getElem?_take] at hj
  split at hj
  · simp only [World.cell?, hh]
    simpa using hj
  · cases hj
/-- where the loop of codec.PutInts stands -/
def TRel (w wr : World) (ls : List Int) (tv iv : Value) : Prop := ∃ k : Nat, iv = .int .i64 k ∧ k ≤ ls.length ∧ Below w.heap.size w wr ∧
  ((k = 0 ∧ ∃ g, tv = .slice (some ⟨g, 0, none⟩) (zB ls 0).length (zB ls 0).length ∧ ∀ j u, ((zB ls 0).map (Value.int .u8))[j]? = some u → wr.cell? ((⟨g, 0, none⟩ : Addr).add j) = some u) ∨
   wr.ownsRow w.heap.size 5 1 tv (zB ls k).length ((zB ls k).map (Value.int .u8)))
theorem grown_of {B : Nat} {w w' : World} (h : Below B w w') (hB : B = w.heap.size) : w.grownBy w' none := ⟨h.os, h.tape, h.output, h.size, fun k hk _ => h.block k (by omega)⟩
theorem w64_succJ (k : Nat) (h : k ≤ 1099511627776) : Value.int .i64 (((k : Int) + 1 + 9223372036854775808) % 18446744073709551616 - 9223372036854775808) = Value.int .i64 ((k + 1 : Nat) : Int) := by
  have e : ((k : Int) + 1 + 9223372036854775808) % 18446744073709551616 - 9223372036854775808 = ((k + 1 : Nat) : Int) := by omega
  rw [e]
theorem w64_eq (k : Nat) (h : k ≤ 1099511627776) : ((k : Int) + 1 + 9223372036854775808) % 18446744073709551616 - 9223372036854775808 = ((k + 1 : Nat) : Int) := by omega
theorem meas {k n : Nat} (W : Int) (h : k < n) (X Y : Value) (hX : X = .int .i64 W) (hW : W = ((k + 1 : Nat) : Int)) (hY : Y = .int .i64 (k : Int)) : n - (RowKit.intOf X).toNat < n - (RowKit.intOf Y).toNat := by
  subst hX; subst hY; subst hW
  show n - ((k + 1 : Nat) : Int).toNat < n - (k : Int).toNat
  rw [Int.toNat_natCast, Int.toNat_natCast]
  omega
theorem ownsRow_base {w : World} {b1 b2 e size n : Nat} {v : Value} {xs : List Value} (h : w.ownsRow b1 e size v n xs) (hb : b2 ≤ b1) : w.ownsRow b2 e size v n xs := by
  obtain ⟨h1, h2 | ⟨g, cap, cur, q1, q2, q3⟩⟩ := h
  · exact ⟨h1, .inl h2⟩
  · exact ⟨h1, .inr ⟨g, cap, cur, q1, Nat.le_trans hb q2, q3⟩⟩
theorem own_or (o : Option Nat) : o = none ∨ o ≠ none := by cases o <;> simp
theorem tail_of {wr : World} {B k : Nat} {ls : List Int} {tv : Value} (h : (k = 0 ∧ ∃ g, tv = .slice (some ⟨g, 0, none⟩) (zB ls 0).length (zB ls 0).length ∧ ∀ j u, ((zB ls 0).map (Value.int .u8))[j]? = some u → wr.cell? ((⟨g, 0, none⟩ : Addr).add j) = some u) ∨
    wr.ownsRow B 5 1 tv (zB ls k).length ((zB ls k).map (Value.int .u8))) (hpos : 1 ≤ (zB ls k).length) : ∃ A cp, tv = .slice (some A) (zB ls k).length cp ∧ A.block < wr.heap.size ∧ ∀ j u, ((zB ls k).map (Value.int .u8))[j]? = some u → wr.cell? (A.add j) = some u := by
  rcases h with ⟨rfl, g, rfl, hc⟩ | hown
  · refine ⟨_, _, rfl, ?_, hc⟩
    have h0 := hc 0 (.int .u8 (zB ls 0)[0]) (by rw [List.getElem?_map, List.getElem?_eq_getElem (by omega)]; rfl)
    have := World.block_lt_of_cell? _ _ h0
    rwa [block_add'] at this
  · have hcell := fun g (hg : tv.ownBlock = some g) => hown.cells hg
    obtain ⟨h1, ⟨_, h0⟩ | ⟨g, cap, cur, rfl, q2, q3, _⟩⟩ := hown
    · omega
    · exact ⟨_, _, rfl, (Array.getElem?_eq_some_iff.1 q3).1, hcell g rfl⟩
theorem PutInts_walk (b lA : Option Addr) (n c lc : Nat) (xs : List Value) (ls : List Int) (w : World) (hx : xs.length = n) (hn : n + 10 * (ls.length + 1) ≤ 1099511627776)
    (h1 : ∀ v ∈ xs, v.oneCell' = true) (hb : 0 < n → ∃ ad, b = some ad ∧ ad.block < w.heap.size ∧ ∀ j v, xs[j]? = some v → w.cell? (ad.add j) = some v)
    (hr : ∀ x ∈ ls, -9223372036854775808 ≤ x ∧ x ≤ 9223372036854775807)
    (hl : ∀ k, k < ls.length → ∃ ad, lA = some ad ∧ ad.block < w.heap.size ∧ w.cell? (ad.add k) = some (.int .i64 (ls.getD k 0))) :
    Calls Tryz.prog 145 #[.slice b n c, .slice lA ls.length lc] w fun e w' => ∃ g, e = .returned (.slice (some ⟨g, 0, none⟩) (n + (zB ls ls.length).length) (n + (zB ls ls.length).length)) ∧ w.heap.size ≤ g ∧
      w'.heap[g]? = some (.cells (xs ++ (zB ls ls.length).map (Value.int .u8)).toArray 5 (0, 0)) ∧ Below w.heap.size w w' := by
  have mixed : Tryz.prog.follows .mixedOrders = true := by kernel_rfl
  have t39 := Tryz.underlying39
  have t29 := Tryz.underlying29
  obtain ⟨i0, hi, hz0, hz1, hz2⟩ := info_parts (show (Tryz.prog.info? 5).map (fun i => (i.zero, i.size, i.bytes)) = some (some (Value.int .u8 0), 1, 1) by kernel_rfl)
  have E0 := Lib.hid (fun W => enc_call (ls.length : Int) (by omega) (by omega) W)
  have HN := Lib.hid hn
  have HR := Lib.hid hr
  have HL := Lib.hid hl
  have HB := Lib.hid hb
  have H1 := Lib.hid h1
  clear hn hr hl hb h1
  go_enter Tryz.func145, Tryz.ntmps145
  go_wp2_with (go_at_call 144; refine (E0.out _).mono ?_; rintro e w1 ⟨rfl, hg1, hc1, hbel1⟩)
  have HC1 := Lib.hid hc1
  have HB1 := Lib.hid hbel1
  clear hc1 hbel1
  go_wp2
  go_loopw [5, 13] (fun tv iv wr => TRel w wr ls tv iv) (fun tv iv _ => ls.length - (RowKit.intOf iv).toNat)
  case atStart =>
    refine ⟨0, rfl, Nat.zero_le _, HB1.out, .inl ⟨rfl, w.heap.size, ?_, ?_⟩⟩
    · simp [zB]
    · simpa [zB] using HC1.out
  case round =>
    obtain ⟨k, rfl, hk, hbel, ht⟩ := hrel
    have HT := Lib.hid ht
    have HBk := Lib.hid hbel
    clear ht hbel
    by_cases hlt : k < ls.length
    · obtain ⟨ad, rfl, hlt2, hcl⟩ := HL.out k hlt
      have hc : wr.cell? (ad.add k) = some (.int .i64 (ls.getD k 0)) := (HBk.out.cell (by rw [block_add']; exact hlt2)).trans hcl
      have hrk := HR.out (ls.getD k 0) (by rw [List.getD, List.getElem?_eq_getElem hlt]; exact List.getElem_mem _)
      have EK := Lib.hid (fun W => enc_call (ls.getD k 0) hrk.1 hrk.2 W)
      have HZ := Lib.hid (zB_succ ls k hlt)
      have HZl := Lib.hid (zB_len ls k hk)
      have HEl := Lib.hid (eB_len (ls.getD k 0))
      clear hcl hlt2 hrk
      generalize ls.getD k 0 = x at *
      rcases HT.out with ⟨rfl, g, rfl, hcg⟩ | hown
      · have HG := Lib.hid hcg
        clear hcg
        have hc0 : wr.cell? ad = some (.int .i64 x) := by
          have e0 : ad.add 0 = ad := by unfold Addr.add; simp
          rw [e0] at hc; exact hc
        go_wp2_with (first
          | (go_at_call 144; refine (EK.out _).mono ?_; rintro e w2 ⟨rfl, hg2, hc2, hb2⟩; have HC2 := Lib.hid hc2; have HB2 := Lib.hid hb2; clear hc2 hb2)
          | (at_builtin; go_loud (refine wpList_append_grows _ rfl (.tmp 17) (.tmp 19) 39 rfl 5 i0 _ 1 1 t39 hi hz0 hz1 hz2 rfl (by decide) (some ⟨g, 0, none⟩) (zB ls 0).length (zB ls 0).length ((zB ls 0).map (Value.int .u8)) rfl (by intro h; cases h) (by simp) (by intro b0 hb0 j u hj; injection hb0 with hb0; subst hb0; have hq := HG.out j u hj; exact (HB2.out.cell (World.block_lt_of_cell? _ _ hq)).trans hq) ⟨wr.heap.size, 0, none⟩ (eB x).length (eB x).length ((eB x).map (Value.int .u8)) rfl (by simp) HC2.out (by intro u hu; obtain ⟨y, _, rfl⟩ := List.mem_map.1 hu; rfl) (by have := HEl.out; omega) (by have := HEl.out; have := HZl.out; have := HN.out; unfold maxLen; omega) (by have := HEl.out; have := HZl.out; have := HN.out; omega) ?_); intro v' w3 hown3 hgrow3))
        go_roundw
        case rel =>
          refine ⟨1, rfl, hlt, (HBk.out.trans (HB2.out.mono HBk.out.size)).grown hgrow3 (Nat.le_trans HBk.out.size HB2.out.size) (fun k h => by cases h), .inr ?_⟩
          have hZ := HZ.out
          rw [Nat.zero_add] at hZ
          rw [hZ, List.length_append, List.map_append]
          exact ownsRow_base hown3 (Nat.le_trans HBk.out.size HB2.out.size)
        case measure => simp [RowKit.intOf]; omega
      · have HO := Lib.hid hown
        clear hown
        go_wp2_with (first
          | (go_at_call 144; refine (EK.out _).mono ?_; rintro e w2 ⟨rfl, hg2, hc2, hb2⟩; have HC2 := Lib.hid hc2; have HB2 := Lib.hid hb2; clear hc2 hb2)
          | (at_builtin; go_loud (refine wpList_append_own_at _ rfl (.tmp 17) (.tmp 19) 39 rfl w.heap.size 5 i0 _ 1 1 t39 hi hz0 hz1 hz2 rfl (by decide) _ (zB ls k).length ((zB ls k).map (Value.int .u8)) rfl (HO.out.kept (grown_of HB2.out rfl) (own_or _)) ⟨wr.heap.size, 0, none⟩ (eB x).length (eB x).length ((eB x).map (Value.int .u8)) rfl (by simp) HC2.out (by intro u hu; obtain ⟨y, _, rfl⟩ := List.mem_map.1 hu; rfl) (by have := HEl.out; have := HZl.out; have := HN.out; unfold maxLen; omega) (by have := HEl.out; have := HZl.out; have := HN.out; omega) (Nat.le_trans HBk.out.size HB2.out.size) ?_); intro v' w3 hown3 hgrow3 hnil3 hblk3))
        go_roundw
        case rel =>
          refine ⟨k + 1, w64_succJ k (by have := HN.out; omega), hlt, (HBk.out.trans (HB2.out.mono HBk.out.size)).grown hgrow3 (Nat.le_trans HBk.out.size HB2.out.size) (fun j h => (HO.out.lt j h).1), .inr ?_⟩
          rw [HZ.out, List.length_append, List.map_append]
          exact hown3
        case measure =>
          have hk2 : k ≤ 1099511627776 := by have := HN.out; omega
          exact meas (((k : Int) + 1 + 9223372036854775808) % 18446744073709551616 - 9223372036854775808) hlt _ _ rfl (w64_eq k hk2) rfl
    · obtain rfl : k = ls.length := Nat.le_antisymm hk (Nat.le_of_not_lt hlt)
      obtain ⟨A, cp, hA, hcA⟩ := tail_of HT.out (zB_len ls _ (Nat.le_refl _)).1
      subst hA
      have HCA := Lib.hid hcA
      clear hcA HT
      go_wp2_with (go_at_call 143; go_loud (refine (joined_ok b (some A) n (zB ls ls.length).length c cp xs ((zB ls ls.length).map (Value.int .u8)) wr hx (by simp) (by have := zB_len ls _ (Nat.le_refl ls.length); have := HN.out; omega) H1.out (by intro u hu; obtain ⟨y, _, rfl⟩ := List.mem_map.1 hu; rfl) (by intro h0; obtain ⟨ad, e, h2, h3⟩ := HB.out h0; exact ⟨ad, e, Nat.lt_of_lt_of_le h2 HBk.out.size, fun j v hj => (HBk.out.cell (by rw [block_add']; exact h2)).trans (h3 j v hj)⟩) (by intro h0; exact ⟨A, rfl, HCA.out⟩)).mono ?_); rintro e w2 ⟨rfl, hh2, hb2⟩)
      go_ret
      exact ⟨wr.heap.size, rfl, HBk.out.size, hh2, HBk.out.trans (hb2.mono HBk.out.size)⟩
end Go.Proofs.YtpdlcbmnmeihoaaGreatDoor.Ev
