/-  codec.PutInts, by hand: the contract. -/
import Derived.Test.YtpdlcbmnmeihoaaGreatDoorBJc
import Derived.Test.YtpdlcbmnmeihoaaGreatDoorBJd
set_option maxRecDepth 100000
set_option maxHeartbeats 4000000
set_option linter.unusedVariables false
set_option linter.unusedSimpArgs false
set_option linter.unnecessarySimpa false
namespace Go.Proofs.YtpdlcbmnmeihoaaGreatDoor.Ev
open Go Go.RowKit
theorem ints_rel {w : World} {M : Mut} {β : Loc} {B : Nat → Prop} {o : Bool} {a : List Int} {v : Value} (h : Rel w M β B (.lst o (.t3 a)) v) :
    ∃ A c, v = .slice A a.length c ∧ ∀ k, k < a.length → ∃ ad, A = some ad ∧ ad.block < w.heap.size ∧ w.cell? (ad.add k) = some (.int .i64 (a.getD k 0)) := by
  cases h with
  | row p s hs A c vs hc hsz ha hm hr =>
    injection hs with hs
    subst hs
    refine ⟨A, c, rfl, fun k hk => ?_⟩
    obtain ⟨ad, hA⟩ := ha k hk
    have hrow : ((LX.t3 a).row k)[0]? = some (.val (.int .i64 (a.getD k 0))) := rfl
    have h1 := hm ad k 0 _ hA hk hrow
    have e : vs k 0 = .int .i64 (a.getD k 0) := (hr k 0 _ hk hrow).val_eq
    have h3 := h1.2.1
    rw [e] at h3
    have e2 : k * (LX.t3 a).sz + 0 = k := by show k * 1 + 0 = k; omega
    rw [e2] at h3
    have := cell_lt h3
    rw [block_add] at this
    exact ⟨ad, hA, this, h3⟩
theorem PutInts_own (b ls : List Int) (h : b.length + 10 * (ls.length + 1) ≤ 1099511627776) (hr : ∀ x ∈ ls, -9223372036854775808 ≤ x ∧ x ≤ 9223372036854775807) :
    HoldsO Tryz.prog 145 [.lst false (.t5 b), .lst false (.t3 ls)] (.lst false (.t5 (b ++ zB ls ls.length))) := by
  refine holdsO_of_calls rfl ?_
  intro w N vs hl hrr hN hgl
  match vs, hl with
  | [v1, v2], _ =>
    obtain ⟨A, c, rfl, hA⟩ := bytes_rel (hrr 0 _ v1 rfl rfl)
    obtain ⟨B, d, rfl, hB⟩ := ints_rel (hrr 1 _ v2 rfl rfl)
    refine (PutInts_walk A B b.length c d (b.map (Value.int .u8)) ls w (by simp) h (oneByte b) hA hr hB).mono ?_
    rintro e w' ⟨g, rfl, hg, hh, hb⟩
    have hz := zB_len ls ls.length (Nat.le_refl _)
    refine ⟨_, rfl, ?_, hb⟩
    obtain ⟨k, hk⟩ : ∃ k, b.length + (zB ls ls.length).length = k + 1 := ⟨b.length + (zB ls ls.length).length - 1, by omega⟩
    have hlen : (LX.t5 (b ++ zB ls ls.length)).len = k + 1 := by show (b ++ zB ls ls.length).length = k + 1; rw [List.length_append]; exact hk
    refine .inr ⟨g, k, _, by rw [hlen, hk], hg, hh, by rw [hlen]; exact Nat.le_refl _, by unfold maxLen; omega, ?_, fun i j q hi hq => ?_⟩
    · show _ = (k + 1) * 1
      simp; omega
    · have hi' : i < (b ++ zB ls ls.length).length := hi
      obtain ⟨rfl, rfl⟩ := row5 (b ++ zB ls ls.length) i j q hi' hq
      refine ⟨_, rfl, ?_, rfl⟩
      show _[i * 1 + 0]? = _
      rw [Nat.mul_one, Nat.add_zero, List.getElem?_toArray, ← List.map_append, List.getElem?_map, List.getElem?_eq_getElem hi']
      rfl
end Go.Proofs.YtpdlcbmnmeihoaaGreatDoor.Ev
