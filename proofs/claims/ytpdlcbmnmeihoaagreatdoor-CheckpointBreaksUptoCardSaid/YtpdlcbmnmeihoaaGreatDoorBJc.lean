/-  codec.joined and codec.encoded, by hand: the contracts. -/
import Derived.Test.YtpdlcbmnmeihoaaGreatDoorBFW
import Derived.Test.YtpdlcbmnmeihoaaGreatDoorBJa
import Derived.Test.YtpdlcbmnmeihoaaGreatDoorBJb
set_option maxRecDepth 100000
set_option maxHeartbeats 4000000
set_option linter.unusedVariables false
set_option linter.unusedSimpArgs false
set_option linter.unnecessarySimpa false
namespace Go.Proofs.YtpdlcbmnmeihoaaGreatDoor.Ev
open Go Go.RowKit
theorem bytes_rel {w : World} {M : Mut} {β : Loc} {B : Nat → Prop} {o : Bool} {a : List Int} {v : Value} (h : Rel w M β B (.lst o (.t5 a)) v) :
    ∃ A c, v = .slice A a.length c ∧ (0 < a.length → ∃ ad, A = some ad ∧ ad.block < w.heap.size ∧ ∀ j u, (a.map (Value.int .u8))[j]? = some u → w.cell? (ad.add j) = some u) := by
  cases h with
  | row p s hs A c vs hc hsz ha hm hr =>
    injection hs with hs
    subst hs
    refine ⟨A, c, rfl, fun h0 => ?_⟩
    obtain ⟨ad, hA⟩ := ha 0 h0
    have hcell : ∀ j u, (a.map (Value.int .u8))[j]? = some u → w.cell? (ad.add j) = some u := fun j u hj => by
      rw [List.getElem?_map] at hj
      cases hx : a[j]? with
      | none => rw [hx] at hj; cases hj
      | some x =>
        rw [hx] at hj
        injection hj with hj
        subst hj
        obtain ⟨hl, hx2⟩ := List.getElem?_eq_some_iff.1 hx
        have hrow : ((LX.t5 a).row j)[0]? = some (.val (.int .u8 x)) := by
          show some (PV.val (.int .u8 (a.getD j default))) = _
          rw [List.getD, hx]; rfl
        have h1 := hm ad j 0 _ hA hl hrow
        have h2 := hr j 0 _ hl hrow
        have e : vs j 0 = .int .u8 x := h2.val_eq
        have h3 := h1.2.1
        rw [e] at h3
        have e2 : j * (LX.t5 a).sz + 0 = j := by show j * 1 + 0 = j; omega
        rw [e2] at h3
        exact h3
    refine ⟨ad, hA, ?_, hcell⟩
    have h4 := hcell 0 (.int .u8 a[0]) (by rw [List.getElem?_map, List.getElem?_eq_getElem h0]; rfl)
    have := cell_lt h4
    rwa [block_add] at this
theorem oneByte (a : List Int) : ∀ v ∈ a.map (Value.int .u8), v.oneCell' = true := fun v h => by
  obtain ⟨x, _, rfl⟩ := List.mem_map.1 h; rfl
theorem row5 (a : List Int) (i j : Nat) (q : PV) (hi : i < a.length) (h : ((LX.t5 a).row i)[j]? = some q) : j = 0 ∧ q = .val (.int .u8 a[i]) := by
  have h' : [PV.val (.int .u8 (a.getD i default))][j]? = some q := h
  cases j with
  | zero =>
    refine ⟨rfl, ?_⟩
    injection h' with h'
    rw [← h', List.getD, List.getElem?_eq_getElem hi]; rfl
  | succ j => simp at h'
theorem joined_own (a b : List Int) (h : a.length + b.length ≤ 1099511627776) : HoldsO Tryz.prog 143 [.lst false (.t5 a), .lst false (.t5 b)] (.lst false (.t5 (a ++ b))) := by
  refine holdsO_of_calls rfl ?_
  intro w N vs hl hr hN hgl
  match vs, hl with
  | [v1, v2], _ =>
    obtain ⟨A, c, rfl, hA⟩ := bytes_rel (hr 0 _ v1 rfl rfl)
    obtain ⟨B, d, rfl, hB⟩ := bytes_rel (hr 1 _ v2 rfl rfl)
    refine (joined_ok A B a.length b.length c d (a.map (Value.int .u8)) (b.map (Value.int .u8)) w (by simp) (by simp) h (oneByte a) (oneByte b) hA hB).mono ?_
    rintro e w' ⟨rfl, hh, hb⟩
    refine ⟨_, rfl, ?_, hb⟩
    by_cases h0 : a.length + b.length = 0
    · refine .inl ⟨some ⟨w.heap.size, 0, none⟩, by rw [h0], ?_⟩
      show (a ++ b).length = 0
      rw [List.length_append]; exact h0
    · obtain ⟨k, hk⟩ : ∃ k, a.length + b.length = k + 1 := ⟨a.length + b.length - 1, by omega⟩
      have hlen : (LX.t5 (a ++ b)).len = k + 1 := by show (a ++ b).length = k + 1; rw [List.length_append]; exact hk
      refine .inr ⟨w.heap.size, k, _, by rw [hlen, hk], Nat.le_refl _, hh, by rw [hlen]; exact Nat.le_refl _, by unfold maxLen; omega, ?_, fun i j q hi hq => ?_⟩
      · show _ = (k + 1) * 1
        simp; omega
      · have hi' : i < (a ++ b).length := hi
        obtain ⟨rfl, rfl⟩ := row5 (a ++ b) i j q hi' hq
        refine ⟨_, rfl, ?_, rfl⟩
        show _[i * 1 + 0]? = _
        rw [Nat.mul_one, Nat.add_zero, List.getElem?_toArray, ← List.map_append, List.getElem?_map, List.getElem?_eq_getElem hi']
        rfl
theorem encoded_holds (n : Int) (h1 : -9223372036854775808 ≤ n) (h2 : n ≤ 9223372036854775807) : Holds Tryz.prog 144 [.val (.int .i64 n)] (.lst false (.t5 (encV 9 (if n < 0 then (2 * (-(n + 1)) + 1).toNat else (2 * n).toNat)))) := by
  intro w N vs hl hr hN hgl
  match vs, hl with
  | [v1], _ =>
    have e1 : v1 = .int .i64 n := (hr 0 _ v1 rfl rfl).val_eq
    subst e1
    generalize hu : (if n < 0 then (2 * (-(n + 1)) + 1).toNat else (2 * n).toNat) = u
    refine (encoded_walk n h1 h2 w u hu.symm).mono ?_
    rintro e w' ⟨l, cs, rfl, hh, hlen, htk, hb⟩
    subst hlen
    refine ⟨_, rfl, ?_, hb⟩
    have hle : (encV 9 u).length ≤ cs.size := by
      have := congrArg List.length htk
      simp only [List.length_take, List.length_map, Array.length_toList] at this
      omega
    refine Rel_row (s := ⟨false, 5, 1, (encV 9 u).length, (LX.t5 (encV 9 u)).row⟩) rfl rfl hh (Nat.le_refl _) (fun i _ => rfl) (fun i hi m hm => ?_) (fun i j q hi hq => ?_)
    · have := hN _ _ hm
      exact absurd this (Nat.lt_irrefl _)
    · obtain ⟨rfl, rfl⟩ := row5 (encV 9 u) i j q hi hq
      refine ⟨_, ?_, .val _ rfl, rfl⟩
      show cs[i * 1 + 0]? = _
      have h3 := congrArg (fun l => l[i]?) htk
      simp only [List.getElem?_take, List.getElem?_map, hi, if_true, List.getElem?_eq_getElem hi, Option.map_some, Array.getElem?_toList] at h3
      rw [Nat.mul_one, Nat.add_zero]
      exact h3
end Go.Proofs.YtpdlcbmnmeihoaaGreatDoor.Ev
