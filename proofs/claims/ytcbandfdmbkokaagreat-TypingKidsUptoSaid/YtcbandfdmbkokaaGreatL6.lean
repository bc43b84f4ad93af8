/-  TypingKids, plainly. -/
import Derived.Test.YtcbandfdmbkokaaGreatPh
namespace Go.Proofs.YtcbandfdmbkokaaGreat.Ev
open Go
set_option linter.unusedVariables false
set_option linter.unusedSimpArgs false
set_option linter.unnecessarySimpa false

theorem q_L14_TypingKids_1 (L : Nat) (r3 : Int × Int) (v : api_Env) (a1 : api_Expr) : ∀ (k : List api_Expr) (i : Nat) (v0 : Bool) (acc : List Int), acc.length + k.length ≤ 1099511627776 → (∀ x ∈ k, F_typing_Expr L v x = some (tyE v x) ∧ (tyE v x).2 = 0) →
    ∃ j, lq_L14_TypingKids_1 L r3 v a1 k i v0 acc = some (1, (v0, acc ++ k.map fun x => (tyE v x).1, j)) := by
  intro k
  induction k with
  | nil => intro i v0 acc _ _; exact ⟨i, by rw [lq_L14_TypingKids_1, List.map_nil, List.append_nil]⟩
  | cons x k ih =>
    intro i v0 acc hlen h
    rw [List.length_cons] at hlen
    obtain ⟨j, hj⟩ := ih (i + 1) v0 (acc ++ [(tyE v x).1]) (by simp only [List.length_append, List.length_cons, List.length_nil]; omega) fun z hz => h z (by simp [hz])
    have hM := maxLen_eq
    obtain ⟨h1, h2⟩ := h x (by simp)
    refine ⟨j, ?_⟩
    rw [lq_L14_TypingKids_1, h1, Option.bind_some, h2]
    simp only [List.length_cons, List.length_nil]
    rw [ifp (show (acc.length + (0 + 1)) * 8 ≤ 140737488355328 by omega), ifp (show acc.length + (0 + 1) ≤ maxLen by omega), hj, List.append_assoc]
    rfl
theorem bin9 {op a b : Int} (hz : binT op a b ≠ 0) (h : op = 9 ∨ op = 10 ∨ op = 13 ∨ op = 20 ∨ op = 21) : a = binT op a b ∧ b = binT op a b ∧ binT op a b ≠ 2 := by
  unfold binT meas at hz ⊢
  rw [if_pos h] at hz ⊢
  by_cases hc : a = b ∧ (a == 1 || a == 3) = true
  · rw [if_pos hc]
    obtain ⟨rfl, h2⟩ := hc
    simp at h2
    omega
  · rw [if_neg hc] at hz; exact absurd rfl hz
theorem bin14 {op a b : Int} (hz : binT op a b ≠ 0) (h1 : 14 ≤ op) (h2 : op ≤ 19) : binT op a b = 2 := by
  unfold binT at hz ⊢
  grind
theorem bin11 {a b : Int} (hz : binT 11 a b ≠ 0) : (binT 11 a b = 1 ↔ a = 1 ∧ b = 1) ∧ binT 11 a b ≠ 2 := by
  unfold binT meas at hz ⊢
  simp at hz ⊢
  grind
theorem bin12 {a b : Int} (hz : binT 12 a b ≠ 0) : (binT 12 a b = 1 ↔ a = b) ∧ b ≠ 2 := by
  unfold binT meas at hz ⊢
  simp at hz ⊢
  grind
theorem law_TypingKids (v : api_Env) (e : api_Expr) (hv : Ok_api_Env v) (he : Ok_api_Expr e) (hb : bk_api_Env v + bk_api_Expr e ≤ 1048576) : ∃ L, F_L14_TypingKids L v e = some true := by
  refine ⟨maxLen + dE e + 100, ?_⟩
  generalize hLd : maxLen + dE e + 100 = L
  have hl := ok_L14_light L v (by omega)
  simp only [F_L14_TypingKids, T_L14_TypingKids, anO_bd, anO_fl, anO_cn, anO_gd, anO_fk, anO_sl, anO_lf, anO_jb, anO_jp, anO_ap, anO_nj, api_Expr.cp_eq, hl, awake_ok L (by omega), ok_typing_Expr he v hv L (by omega), Option.bind_some]
  cases lightE v with
  | false => rfl
  | true =>
    simp only [Bool.not_true, cond_false]
    by_cases h1 : (exprT v e).2 = 0
    · obtain ⟨hc, he1⟩ := exprT_ok h1
      rw [he1] at h1 ⊢
      obtain ⟨hn0, hk0, hkids⟩ := okE he
      cases e with
      | mk op nm n k =>
        simp only [api_Expr.cp_eq, api_Expr.Op, api_Expr.Name, api_Expr.N, api_Expr.Kids, api_Expr.eta] at hn0 hk0 hkids ⊢
        obtain ⟨h2, h3⟩ := tyE_ok h1
        obtain ⟨h4, h5⟩ := tyL_mem h2
        obtain ⟨hlen, hop1, hop2⟩ := node_len (chk_node (check_chk hc)).1
        have har := arity_le op
        have hkid : ∀ x ∈ k, F_typing_Expr L v x = some (tyE v x) ∧ (tyE v x).2 = 0 := by
          intro x hx
          refine ⟨?_, h4 x hx⟩
          rw [ok_typing_Expr (hkids x hx) v hv L (by rw [dE] at hLd; have := dEs_mem hx; omega)]
          have := check_kid (by omega) hc x hx
          unfold exprT
          simp [this]
        obtain ⟨j, hj⟩ := q_L14_TypingKids_1 L (tyE v (.mk op nm n k)) v (.mk op nm n k) k 0 false [] (by simp; omega) hkid
        have hM := maxLen_eq
        simp only [lq0_L14_TypingKids_1 L _ _ (.mk op nm n k) L hk0 (show k.length < L by omega), api_Expr.cp_eq, api_Expr.Op, api_Expr.Name, api_Expr.N, api_Expr.Kids, api_Expr.eta, hj, h1, Option.bind_some, sel1, List.nil_append, ← h5]
        rw [h3] at h1 ⊢
        have hl2 := tyL_len v k h2
        generalize (tyL v k).1 = l at h1 hl2 ⊢
        clear hj hkid h4 h5 hkids he hc h3 he1
        simp only [bor_c, band_c]
        have hl3 : l.length ≤ 2 := by omega
        have hla : (l.length : Int) = arity op := by omega
        clear hlen hl2 hk0 hM har hl hn0 h2 hLd hb hv
        have hnode : op ≠ 3 → ¬ 22 ≤ op → kidT op l ≠ 0 ∧ nodeT v op nm l = (kidT op l, 0) := by
          intro e3 e22
          unfold nodeT at h1 ⊢
          by_cases hz : kidT op l = 0
          · simp [e3, e22, hz] at h1
          · exact ⟨hz, by simp [e3, e22, hz]⟩
        by_cases e3 : op = 3
        · subst e3; simp
        by_cases e22 : 22 ≤ op
        · have q1 : decide (op ≤ 19) = false := decide_eq_false (by omega)
          simp [show ¬ op ≤ 19 by omega, beq_false_of_ne (show op ≠ 6 by omega), beq_false_of_ne (show op ≠ 2 by omega), beq_false_of_ne (show op ≠ 9 by omega), beq_false_of_ne (show op ≠ 10 by omega), beq_false_of_ne (show op ≠ 13 by omega), beq_false_of_ne (show op ≠ 20 by omega), beq_false_of_ne (show op ≠ 21 by omega), beq_false_of_ne (show op ≠ 11 by omega), beq_false_of_ne (show op ≠ 12 by omega)]
        obtain ⟨hz, hnt⟩ := hnode e3 e22
        rw [hnt]
        clear hnt hnode h1
        have hl0 : arity op = 0 → l = [] := fun h => by
          rw [h] at hla
          exact List.length_eq_zero_iff.1 (by omega)
        have hl1 : arity op = 1 → ∃ a, l = [a] := fun h => by
          rw [h] at hla
          rcases two_lists hl3 with rfl | ⟨a, rfl⟩ | ⟨a, b, rfl⟩
          · simp at hla
          · exact ⟨a, rfl⟩
          · simp at hla
        have hl2 : arity op = 2 → ∃ a b, l = [a, b] := fun h => by
          rw [h] at hla
          rcases two_lists hl3 with rfl | ⟨a, rfl⟩ | ⟨a, b, rfl⟩
          · simp at hla
          · simp at hla
          · exact ⟨a, b, rfl⟩
        clear hla hl3
        have bins : arity op = 2 → (op = 9 ∨ op = 10 ∨ op = 13 ∨ op = 20 ∨ op = 21 ∨ op = 11 ∨ op = 12 ∨ (14 ≤ op ∧ op ≤ 19)) := by
          unfold arity; grind
        rcases opCases op with rfl | rfl | rfl | rfl | rfl | rfl | rfl | rfl | rfl | rfl | rfl | rfl | rfl | rfl | rfl | rfl | rfl | rfl | rfl | rfl | rfl | rfl | rfl | rfl | rfl | rfl | hop | hop
        all_goals first | (exfalso; omega) | skip
        · have := hl0 (by decide); subst this; simp [kidT, leafT]
        · have := hl0 (by decide); subst this; simp [kidT, leafT]
        · have := hl0 (by decide); subst this; simp [kidT, leafT]
        · obtain ⟨a, rfl⟩ := hl1 (by decide); clear hl0 hl1 hl2 bins; simp only [kidT] at hz ⊢; unfold unT at hz ⊢; simp at hz ⊢
        · obtain ⟨a, rfl⟩ := hl1 (by decide); clear hl0 hl1 hl2 bins; simp only [kidT] at hz ⊢; unfold unT at hz ⊢; simp at hz ⊢; simp [hz]
        · obtain ⟨a, rfl⟩ := hl1 (by decide); clear hl0 hl1 hl2 bins; simp only [kidT] at hz ⊢; unfold unT at hz ⊢; simp at hz ⊢
        · obtain ⟨a, rfl⟩ := hl1 (by decide); clear hl0 hl1 hl2 bins; simp only [kidT] at hz ⊢; unfold unT at hz ⊢; simp at hz ⊢
        · obtain ⟨a, b, rfl⟩ := hl2 (by decide); clear hl0 hl1 hl2 bins; simp only [kidT] at hz ⊢; obtain ⟨r1, r2, r3⟩ := bin9 hz (by decide); generalize binT _ a b = t at r1 r2 r3 hz ⊢; subst r1; subst r2; simp [ne0' r3]
        · obtain ⟨a, b, rfl⟩ := hl2 (by decide); clear hl0 hl1 hl2 bins; simp only [kidT] at hz ⊢; obtain ⟨r1, r2, r3⟩ := bin9 hz (by decide); generalize binT _ a b = t at r1 r2 r3 hz ⊢; subst r1; subst r2; simp [ne0' r3]
        · obtain ⟨a, b, rfl⟩ := hl2 (by decide); clear hl0 hl1 hl2 bins; simp only [kidT] at hz ⊢; obtain ⟨r1, r2⟩ := bin11 hz; generalize binT _ a b = t at r1 r2 hz ⊢; have tb : (t == 1) = (a == 1 && b == 1) := by { rw [Bool.eq_iff_iff]; simp [r1] }; by_cases ha : a = 1 <;> simp [ha, tb, ne0' r2, beq_false_of_ne]
        · obtain ⟨a, b, rfl⟩ := hl2 (by decide); clear hl0 hl1 hl2 bins; simp only [kidT] at hz ⊢; obtain ⟨r1, r2⟩ := bin12 hz; generalize binT _ a b = t at r1 r2 hz ⊢; have tb : (t == 1) = (a == b) := by { rw [Bool.eq_iff_iff]; simp [r1] }; simp [tb, ne0' r2]
        · obtain ⟨a, b, rfl⟩ := hl2 (by decide); clear hl0 hl1 hl2 bins; simp only [kidT] at hz ⊢; obtain ⟨r1, r2, r3⟩ := bin9 hz (by decide); generalize binT _ a b = t at r1 r2 r3 hz ⊢; subst r1; subst r2; simp [ne0' r3]
        · obtain ⟨a, b, rfl⟩ := hl2 (by decide); clear hl0 hl1 hl2 bins; simp only [kidT] at hz ⊢; simp [bin14 hz (by decide) (by decide)]
        · obtain ⟨a, b, rfl⟩ := hl2 (by decide); clear hl0 hl1 hl2 bins; simp only [kidT] at hz ⊢; simp [bin14 hz (by decide) (by decide)]
        · obtain ⟨a, b, rfl⟩ := hl2 (by decide); clear hl0 hl1 hl2 bins; simp only [kidT] at hz ⊢; simp [bin14 hz (by decide) (by decide)]
        · obtain ⟨a, b, rfl⟩ := hl2 (by decide); clear hl0 hl1 hl2 bins; simp only [kidT] at hz ⊢; simp [bin14 hz (by decide) (by decide)]
        · obtain ⟨a, b, rfl⟩ := hl2 (by decide); clear hl0 hl1 hl2 bins; simp only [kidT] at hz ⊢; simp [bin14 hz (by decide) (by decide)]
        · obtain ⟨a, b, rfl⟩ := hl2 (by decide); clear hl0 hl1 hl2 bins; simp only [kidT] at hz ⊢; simp [bin14 hz (by decide) (by decide)]
        · obtain ⟨a, b, rfl⟩ := hl2 (by decide); clear hl0 hl1 hl2 bins; simp only [kidT] at hz ⊢; obtain ⟨r1, r2, r3⟩ := bin9 hz (by decide); generalize binT _ a b = t at r1 r2 r3 hz ⊢; subst r1; subst r2; simp [ne0' r3]
        · obtain ⟨a, b, rfl⟩ := hl2 (by decide); clear hl0 hl1 hl2 bins; simp only [kidT] at hz ⊢; obtain ⟨r1, r2, r3⟩ := bin9 hz (by decide); generalize binT _ a b = t at r1 r2 r3 hz ⊢; subst r1; subst r2; simp [ne0' r3]
    · have := exprT_err h1
      simp [ne0 h1, this]
end Go.Proofs.YtcbandfdmbkokaaGreat.Ev
