import Derived.Test.YtflfeikkcpcdiaaLi
namespace Go.Proofs.Ytflfeikkcpcdiaa.Ev
open Go
set_option maxRecDepth 100000
set_option linter.unusedVariables false
set_option linter.unusedSimpArgs false
set_option linter.unnecessarySimpa false
/-! ### simulator/simulatorref02.common -/
noncomputable def c34 : EC := (cFn Try.prog Try.f34).getD .skip
def A35 : List PV → (PV → Prop) → Prop := fun args k => match args with
  | [.agg [.val (.int .u64 x1), .val (.int .u64 x2)], .agg [.val (.int .u64 x3), .val (.int .u64 x4)]] => ob (F35 (⟨x1, x2⟩ : T56) (⟨x3, x4⟩ : T56)) fun r => k (.tup [.agg [V .u64 r.1.Hi, V .u64 r.1.Lo], .agg [V .u64 r.2.Hi, V .u64 r.2.Lo]])
  | _ => False
theorem a35 (args : List PV) (k : PV → Prop) (h : A35 args k) : ∃ r, Holds Try.prog 35 args r ∧ k r := by
  unfold A35 at h
  split at h
  · obtain ⟨r, h1, h2⟩ := ob_elim h
    exact ⟨_, h35 (T56.mk _ _) (T56.mk _ _) _ h1, h2⟩
  · exact h.elim
def O34 : Oracle := (orc 35 A35 noC)
theorem s34 : SoundC Try.prog O34 := (orc_sound a35 (noC_sound Try.prog))
def sh34_1 (v1_0 : Int) (v1_1 : Int) (v1_2 : Int) (v1_3 : Int) (v1_8 : Int) (v1_9 : Int) (v1_4 : Int) (v1_5 : Int) (v1_6 : Int) (v1_7 : Int) : St := ({ fr := [(0, .agg [V .u64 v1_0, V .u64 v1_1]), (1, .agg [V .u64 v1_2, V .u64 v1_3]), (2, .loc 2 0), (3, .loc 3 0), (4, .loc 4 0)], ob := [(2, [V .u64 v1_4, V .u64 v1_5]), (3, [V .u64 v1_6, V .u64 v1_7]), (4, [V .u64 v1_8, V .u64 v1_9])] } : St)
def bd34_1 (v1_0 : Int) (v1_1 : Int) (v1_2 : Int) (v1_3 : Int) (v1_8 : Int) (v1_9 : Int) (kn : Int → Int → Int → Int → Prop) (kx0 : Int → Int → Int → Int → Prop) (v1_4 : Int) (v1_5 : Int) (v1_6 : Int) (v1_7 : Int) : Prop :=
 (br ((!((v1_6 == 0) && ((v1_7 == 0) && true))))
 (ob (F35 (⟨v1_4, v1_5⟩ : T56) (⟨v1_6, v1_7⟩ : T56)) fun r2 =>
 (kn v1_6 v1_7 r2.2.Hi r2.2.Lo))
 (kx0 v1_4 v1_5 v1_6 v1_7))
def lp34_1 (v1_0 : Int) (v1_1 : Int) (v1_2 : Int) (v1_3 : Int) (v1_8 : Int) (v1_9 : Int) (kx0 : Int → Int → Int → Int → Prop) : Nat → Int → Int → Int → Int → Prop
  | 0, _, _, _, _ => False
  | n + 1, v1_4, v1_5, v1_6, v1_7 => bd34_1 v1_0 v1_1 v1_2 v1_3 v1_8 v1_9 (lp34_1 v1_0 v1_1 v1_2 v1_3 v1_8 v1_9 kx0 n) kx0 v1_4 v1_5 v1_6 v1_7
theorem be34_1 (L : Nat) (v1_0 : Int) (v1_1 : Int) (v1_2 : Int) (v1_3 : Int) (v1_8 : Int) (v1_9 : Int) (v1_4 : Int) (v1_5 : Int) (v1_6 : Int) (v1_7 : Int) (n : Nat) (K : Ex → St → Prop) : loopN (evC Try.prog O34 L c34.r.l.l.l) [0, 1, 2, 3, 4] [5, 6] (n + 1) (sh34_1 v1_0 v1_1 v1_2 v1_3 v1_8 v1_9 v1_4 v1_5 v1_6 v1_7) K = bd34_1 v1_0 v1_1 v1_2 v1_3 v1_8 v1_9 (fun v1_4 v1_5 v1_6 v1_7 => loopN (evC Try.prog O34 L c34.r.l.l.l) [0, 1, 2, 3, 4] [5, 6] n (sh34_1 v1_0 v1_1 v1_2 v1_3 v1_8 v1_9 v1_4 v1_5 v1_6 v1_7) K) (fun v1_4 v1_5 v1_6 v1_7 => K (.exit 0) (sh34_1 v1_0 v1_1 v1_2 v1_3 v1_8 v1_9 v1_4 v1_5 v1_6 v1_7)) v1_4 v1_5 v1_6 v1_7 := by
  kernel_rfl
theorem le34_1 (L : Nat) (v1_0 : Int) (v1_1 : Int) (v1_2 : Int) (v1_3 : Int) (v1_8 : Int) (v1_9 : Int) (n : Nat) (v1_4 : Int) (v1_5 : Int) (v1_6 : Int) (v1_7 : Int) (K : Ex → St → Prop) : loopN (evC Try.prog O34 L c34.r.l.l.l) [0, 1, 2, 3, 4] [5, 6] n (sh34_1 v1_0 v1_1 v1_2 v1_3 v1_8 v1_9 v1_4 v1_5 v1_6 v1_7) K = lp34_1 v1_0 v1_1 v1_2 v1_3 v1_8 v1_9 (fun v1_4 v1_5 v1_6 v1_7 => K (.exit 0) (sh34_1 v1_0 v1_1 v1_2 v1_3 v1_8 v1_9 v1_4 v1_5 v1_6 v1_7)) n v1_4 v1_5 v1_6 v1_7 := by
  induction n generalizing v1_4 v1_5 v1_6 v1_7 with
  | zero => rfl
  | succ n ih =>
    rw [be34_1]
    simp only [ih]
    rfl
def T34t (L : Nat) (a0 : T56) (a1 : T56) (k : T56 → Prop) : Prop :=
 (lp34_1 a0.Hi a0.Lo a1.Hi a1.Lo 0 0 (fun u1_4 u1_5 u1_6 u1_7 =>
 (k ((⟨u1_4, u1_5⟩ : T56)))) L a0.Hi a0.Lo a1.Hi a1.Lo)
theorem tree34 (L : Nat) (a0 : T56) (a1 : T56) (kk : PV → Prop) : evFn Try.prog O34 L Try.f34.results.toList c34 [.agg [V .u64 a0.Hi, V .u64 a0.Lo], .agg [V .u64 a1.Hi, V .u64 a1.Lo]] kk = T34t L a0 a1 (fun x => kk (.agg [V .u64 x.Hi, V .u64 x.Lo])) := by
  have h : evFn Try.prog O34 L Try.f34.results.toList c34 [.agg [V .u64 a0.Hi, V .u64 a0.Lo], .agg [V .u64 a1.Hi, V .u64 a1.Lo]] kk = ((fun (k : T56 → Prop) => (loopN (evC Try.prog O34 L c34.r.l.l.l) [0, 1, 2, 3, 4] [5, 6] L (sh34_1 a0.Hi a0.Lo a1.Hi a1.Lo 0 0 a0.Hi a0.Lo a1.Hi a1.Lo) (kBlock 0 (kSeq (evC Try.prog O34 L c34.r.r) (kEnd Try.prog Try.f34.results.toList kk))))) (fun x => kk (.agg [V .u64 x.Hi, V .u64 x.Lo]))) := by kernel_rfl
  rw [h]
  simp only [le34_1]
  show _ = _
  kernel_rfl
theorem g34 (L : Nat) (a0 : T56) (a1 : T56) (r : T56) (h : T34t L a0 a1 (fun x => x = r)) (hm : ∀ p q : T56 → Prop, (∀ x, p x → q x) → T34t L a0 a1 p → T34t L a0 a1 q) : Holds Try.prog 34 [.agg [V .u64 a0.Hi, V .u64 a0.Lo], .agg [V .u64 a1.Hi, V .u64 a1.Lo]] (.agg [V .u64 r.Hi, V .u64 r.Lo]) := by
  refine holds_of_ev s34 mixed L Try.func34 (by kernel_rfl : cFn Try.prog Try.f34 = some c34) _ _ (by kernel_rfl) ?_
  rw [tree34]
  exact hm _ _ (fun x e => by rw [e]) h
/-- the greatest common divisor, by long division -/
def F34 (a b : T56) : Option T56 :=
  if a.Hi = 0 ∧ b.Hi = 0 ∧ 0 ≤ a.Lo ∧ a.Lo < 4611686018427387904 ∧ 0 ≤ b.Lo ∧ b.Lo < 4611686018427387904 then some ⟨0, (Nat.gcd a.Lo.toNat b.Lo.toNat : Int)⟩ else none

theorem div_small {x y : Int} (h3 : 0 ≤ x) (h4 : x < 4611686018427387904) (h5 : 0 < y) (h6 : y < 4611686018427387904) : F35 ⟨0, x⟩ ⟨0, y⟩ = some (⟨0, x / y⟩, ⟨0, x % y⟩) := by
  unfold F35
  exact if_pos ⟨rfl, rfl, h3, h4, h5, h6⟩

theorem lp34 {p0 p1 p2 p3 p8 p9 : Int} {kx : Int → Int → Int → Int → Prop} : ∀ (n : Nat) (a b : Int), 0 ≤ a → a < 4611686018427387904 → 0 ≤ b → b < 4611686018427387904 → b.toNat < n →
    kx 0 (Nat.gcd a.toNat b.toNat : Int) 0 0 → lp34_1 p0 p1 p2 p3 p8 p9 kx n 0 a 0 b
  | 0, _, _, _, _, _, _, h, _ => absurd h (by omega)
  | n + 1, a, b, ha, ha2, hb, hb2, h, hk => by
    unfold lp34_1 bd34_1
    by_cases e : b = 0
    · subst e
      refine br_false (by simp) ?_
      have : ((Nat.gcd a.toNat (0 : Int).toNat : Nat) : Int) = a := by simp; omega
      rw [this] at hk
      exact hk
    · refine br_true (by simpa using e) (ob_some (div_small ha ha2 (by omega) hb2) ?_)
      have h1 : a % b = ((a.toNat % b.toNat : Nat) : Int) := by
        have h2 : (a.toNat : Int) = a := by omega
        have h3 : (b.toNat : Int) = b := by omega
        rw [← h2, ← h3]; simp
      have hlt : a.toNat % b.toNat < b.toNat := Nat.mod_lt _ (by omega)
      show lp34_1 p0 p1 p2 p3 p8 p9 kx n 0 b 0 (a % b)
      refine lp34 n b _ hb hb2 (by rw [h1]; omega) (by rw [h1]; omega) (by rw [h1]; omega) ?_
      rw [h1]
      have : Nat.gcd b.toNat ((a.toNat % b.toNat : Nat) : Int).toNat = Nat.gcd a.toNat b.toNat := by
        rw [Int.toNat_natCast, Nat.gcd_comm a.toNat b.toNat, Nat.gcd_rec b.toNat a.toNat, Nat.gcd_comm]
      rw [this]; exact hk

theorem h34 (a b : T56) (r : T56) (h : F34 a b = some r) : Holds Try.prog 34 [.agg [V .u64 a.Hi, V .u64 a.Lo], .agg [V .u64 b.Hi, V .u64 b.Lo]] (.agg [V .u64 r.Hi, V .u64 r.Lo]) := by
  unfold F34 at h
  split at h
  · rename_i hh
    injection h with h
    subst h
    obtain ⟨aH, aL⟩ := a
    obtain ⟨bH, bL⟩ := b
    obtain ⟨h1, h2, h3, h4, h5, h6⟩ := hh
    simp only at h1 h2 h3 h4 h5 h6
    subst h1; subst h2
    refine holds_of_ev s34 mixed (bL.toNat + 1) Try.func34 (by kernel_rfl : cFn Try.prog Try.f34 = some c34) _ _ (by kernel_rfl) ?_
    rw [tree34]
    exact lp34 _ aL bL h3 h4 h5 h6 (by omega) rfl
  · cases h

/-! ### simulator/simulatorref02.Made -/
noncomputable def c32 : EC := (cFn Try.prog Try.f32).getD .skip
def A34 : List PV → (PV → Prop) → Prop := fun args k => match args with
  | [.agg [.val (.int .u64 x1), .val (.int .u64 x2)], .agg [.val (.int .u64 x3), .val (.int .u64 x4)]] => ob (F34 (⟨x1, x2⟩ : T56) (⟨x3, x4⟩ : T56)) fun r => k (.agg [V .u64 r.Hi, V .u64 r.Lo])
  | _ => False
theorem a34 (args : List PV) (k : PV → Prop) (h : A34 args k) : ∃ r, Holds Try.prog 34 args r ∧ k r := by
  unfold A34 at h
  split at h
  · obtain ⟨r, h1, h2⟩ := ob_elim h
    exact ⟨_, h34 (T56.mk _ _) (T56.mk _ _) _ h1, h2⟩
  · exact h.elim
def O32 : Oracle := (orc 34 A34 (orc 35 A35 noC))
theorem s32 : SoundC Try.prog O32 := (orc_sound a34 (orc_sound a35 (noC_sound Try.prog)))
def T32t (a0 : T58) (a1 : T56) (k : (T37 × Bool) → Prop) : Prop :=
 (ob (F34 a0.Abs a1) fun r1 =>
 (ob (F35 a0.Abs r1) fun r2 =>
 (ob (F35 a1 r1) fun r3 =>
 (br ((r2.1.Hi != 0))
 (k (((⟨0, 0⟩ : T37), false)))
 (br (decide (r2.1.Lo > 4611686018427387904))
 (k (((⟨0, 0⟩ : T37), false)))
 (br ((r3.1.Hi != 0))
 (k (((⟨0, 0⟩ : T37), false)))
 (br (decide (r3.1.Lo > 1000000000000000))
 (k (((⟨0, 0⟩ : T37), false)))
 (br (a0.Minus)
 (k (((⟨(w64 (0 - (w64 (r2.1.Lo)))), (w64 (r3.1.Lo))⟩ : T37), true)))
 (k (((⟨(w64 (r2.1.Lo)), (w64 (r3.1.Lo))⟩ : T37), true)))))))))))
theorem tree32 (L : Nat) (a0 : T58) (a1 : T56) (kk : PV → Prop) : evFn Try.prog O32 L Try.f32.results.toList c32 [.agg [B a0.Minus, V .u64 a0.Abs.Hi, V .u64 a0.Abs.Lo], .agg [V .u64 a1.Hi, V .u64 a1.Lo]] kk = T32t a0 a1 (fun x => kk (.tup [.agg [I x.1.N, I x.1.D], B x.2])) := by
  kernel_rfl
def F32 (a0 : T58) (a1 : T56) : Option (T37 × Bool) :=
 (Option.bind (F34 a0.Abs a1) fun r1 =>
 (Option.bind (F35 a0.Abs r1) fun r2 =>
 (Option.bind (F35 a1 r1) fun r3 =>
 (bif (r2.1.Hi != 0) then some (((⟨0, 0⟩ : T37), false))
 else (bif decide (r2.1.Lo > 4611686018427387904) then some (((⟨0, 0⟩ : T37), false))
 else (bif (r3.1.Hi != 0) then some (((⟨0, 0⟩ : T37), false))
 else (bif decide (r3.1.Lo > 1000000000000000) then some (((⟨0, 0⟩ : T37), false))
 else (bif a0.Minus then some (((⟨(w64 (0 - (w64 (r2.1.Lo)))), (w64 (r3.1.Lo))⟩ : T37), true))
 else some (((⟨(w64 (r2.1.Lo)), (w64 (r3.1.Lo))⟩ : T37), true))))))))))
theorem T32e (a0 : T58) (a1 : T56) (k : (T37 × Bool) → Prop) : T32t a0 a1 k = ob (F32 a0 a1) k := by
  unfold T32t F32
  simp only [leaf_ob k, false_ob k, br_ob k, ob_ob k, and_ob k]
theorem h32 (a0 : T58) (a1 : T56) (r : (T37 × Bool)) (h : F32 a0 a1 = some r) : Holds Try.prog 32 [.agg [B a0.Minus, V .u64 a0.Abs.Hi, V .u64 a0.Abs.Lo], .agg [V .u64 a1.Hi, V .u64 a1.Lo]] (.tup [.agg [I r.1.N, I r.1.D], B r.2]) := by
  refine holds_of_ev s32 mixed 0 Try.func32 (by kernel_rfl : cFn Try.prog Try.f32 = some c32) _ _ (by kernel_rfl) ?_
  rw [tree32, T32e]
  exact ob_some h rfl

/-! ### simulator/simulatorref02.Of -/
noncomputable def c28 : EC := (cFn Try.prog Try.f28).getD .skip
def A33 : List PV → (PV → Prop) → Prop := fun args k => match args with
  | [.val (.int .i64 x1)] => k (V .u64 (F33 x1))
  | _ => False
theorem a33 (args : List PV) (k : PV → Prop) (h : A33 args k) : ∃ r, Holds Try.prog 33 args r ∧ k r := by
  unfold A33 at h
  split at h
  · exact ⟨_, h33 _, h⟩
  · exact h.elim
def A32 : List PV → (PV → Prop) → Prop := fun args k => match args with
  | [.agg [.val (.bool x1), .val (.int .u64 x2), .val (.int .u64 x3)], .agg [.val (.int .u64 x4), .val (.int .u64 x5)]] => ob (F32 (⟨x1, (⟨x2, x3⟩ : T56)⟩ : T58) (⟨x4, x5⟩ : T56)) fun r => k (.tup [.agg [I r.1.N, I r.1.D], B r.2])
  | _ => False
theorem a32 (args : List PV) (k : PV → Prop) (h : A32 args k) : ∃ r, Holds Try.prog 32 args r ∧ k r := by
  unfold A32 at h
  split at h
  · obtain ⟨r, h1, h2⟩ := ob_elim h
    exact ⟨_, h32 (T58.mk _ (T56.mk _ _)) (T56.mk _ _) _ h1, h2⟩
  · exact h.elim
def O28 : Oracle := (orc 33 A33 (orc 32 A32 noC))
theorem s28 : SoundC Try.prog O28 := (orc_sound a33 (orc_sound a32 (noC_sound Try.prog)))
def T28t (a0 : Int) (a1 : Int) (k : (T37 × Bool) → Prop) : Prop :=
 (br ((a1 == 0))
 (k (((⟨0, 0⟩ : T37), false)))
 (ob (F32 (⟨(!(decide (a0 < 0) == decide (a1 < 0))), (⟨0, (F33 a0)⟩ : T56)⟩ : T58) (⟨0, (F33 a1)⟩ : T56)) fun r1 =>
 (k ((r1.1, r1.2)))))
theorem tree28 (L : Nat) (a0 : Int) (a1 : Int) (kk : PV → Prop) : evFn Try.prog O28 L Try.f28.results.toList c28 [I a0, I a1] kk = T28t a0 a1 (fun x => kk (.tup [.agg [I x.1.N, I x.1.D], B x.2])) := by
  kernel_rfl
def F28 (a0 : Int) (a1 : Int) : Option (T37 × Bool) :=
 (bif (a1 == 0) then some (((⟨0, 0⟩ : T37), false))
 else (Option.bind (F32 (⟨(!(decide (a0 < 0) == decide (a1 < 0))), (⟨0, (F33 a0)⟩ : T56)⟩ : T58) (⟨0, (F33 a1)⟩ : T56)) fun r1 =>
 some ((r1.1, r1.2))))
theorem T28e (a0 : Int) (a1 : Int) (k : (T37 × Bool) → Prop) : T28t a0 a1 k = ob (F28 a0 a1) k := by
  unfold T28t F28
  simp only [leaf_ob k, false_ob k, br_ob k, ob_ob k, and_ob k]
theorem h28 (a0 : Int) (a1 : Int) (r : (T37 × Bool)) (h : F28 a0 a1 = some r) : Holds Try.prog 28 [I a0, I a1] (.tup [.agg [I r.1.N, I r.1.D], B r.2]) := by
  refine holds_of_ev s28 mixed 0 Try.func28 (by kernel_rfl : cFn Try.prog Try.f28 = some c28) _ _ (by kernel_rfl) ?_
  rw [tree28, T28e]
  exact ob_some h rfl

/-! ### simulator/simulatorref28.Mean -/
noncomputable def c20 : EC := (cFn Try.prog Try.f20).getD .skip
def A19 : List PV → (PV → Prop) → Prop := fun args k => match args with
  | [.agg [.val (.int .i64 x1), .val (.int .i64 x2), .val (.int .i64 x3), .val (.int .i64 x4), .val (.int .i64 x5), .val (.int .i64 x6)], .val (.int .i64 x7)] => k (.tup [I (F19 (⟨x1, x2, x3, x4, x5, x6⟩ : T26) x7).1, B (F19 (⟨x1, x2, x3, x4, x5, x6⟩ : T26) x7).2])
  | _ => False
theorem a19 (args : List PV) (k : PV → Prop) (h : A19 args k) : ∃ r, Holds Try.prog 19 args r ∧ k r := by
  unfold A19 at h
  split at h
  · exact ⟨_, h19 (T26.mk _ _ _ _ _ _) _, h⟩
  · exact h.elim
def A28 : List PV → (PV → Prop) → Prop := fun args k => match args with
  | [.val (.int .i64 x1), .val (.int .i64 x2)] => ob (F28 x1 x2) fun r => k (.tup [.agg [I r.1.N, I r.1.D], B r.2])
  | _ => False
theorem a28 (args : List PV) (k : PV → Prop) (h : A28 args k) : ∃ r, Holds Try.prog 28 args r ∧ k r := by
  unfold A28 at h
  split at h
  · obtain ⟨r, h1, h2⟩ := ob_elim h
    exact ⟨_, h28 _ _ _ h1, h2⟩
  · exact h.elim
def O20 : Oracle := (orc 19 A19 (orc 28 A28 noC))
theorem s20 : SoundC Try.prog O20 := (orc_sound a19 (orc_sound a28 (noC_sound Try.prog)))
def T20t (a0 : T26) (a1 : Int) (k : (T37 × Bool) → Prop) : Prop :=
 (br ((!((F19 a0 a1).2)))
 (k (((⟨0, 0⟩ : T37), false)))
 (br ((a1 == a0.Begin))
 (k (((⟨0, 0⟩ : T37), false)))
 (ob (F28 ((F19 a0 a1).1) (w64 (a1 - a0.Begin))) fun r1 =>
 (k ((r1.1, r1.2))))))
theorem tree20 (L : Nat) (a0 : T26) (a1 : Int) (kk : PV → Prop) : evFn Try.prog O20 L Try.f20.results.toList c20 [.agg [I a0.Value, I a0.Since, I a0.Begin, I a0.Area, I a0.Min, I a0.Max], I a1] kk = T20t a0 a1 (fun x => kk (.tup [.agg [I x.1.N, I x.1.D], B x.2])) := by
  kernel_rfl
def F20 (a0 : T26) (a1 : Int) : Option (T37 × Bool) :=
 (bif (!((F19 a0 a1).2)) then some (((⟨0, 0⟩ : T37), false))
 else (bif (a1 == a0.Begin) then some (((⟨0, 0⟩ : T37), false))
 else (Option.bind (F28 ((F19 a0 a1).1) (w64 (a1 - a0.Begin))) fun r1 =>
 some ((r1.1, r1.2)))))
theorem T20e (a0 : T26) (a1 : Int) (k : (T37 × Bool) → Prop) : T20t a0 a1 k = ob (F20 a0 a1) k := by
  unfold T20t F20
  simp only [leaf_ob k, false_ob k, br_ob k, ob_ob k, and_ob k]
theorem h20 (a0 : T26) (a1 : Int) (r : (T37 × Bool)) (h : F20 a0 a1 = some r) : Holds Try.prog 20 [.agg [I a0.Value, I a0.Since, I a0.Begin, I a0.Area, I a0.Min, I a0.Max], I a1] (.tup [.agg [I r.1.N, I r.1.D], B r.2]) := by
  refine holds_of_ev s20 mixed 0 Try.func20 (by kernel_rfl : cFn Try.prog Try.f20 = some c20) _ _ (by kernel_rfl) ?_
  rw [tree20, T20e]
  exact ob_some h rfl
/-! ### simulator/simulatorlaw28.LevelExact -/
noncomputable def c5 : EC := (cFn Try.prog Try.f5).getD .skip
def A15 : List PV → (PV → Prop) → Prop := fun args k => match args with
  | [.agg [.val (.int .i64 x1), .val (.int .i64 x2), .val (.int .i64 x3), .val (.int .i64 x4), .val (.int .i64 x5), .val (.int .i64 x6)], .val (.int .i64 x7), .val (.int .i64 x8)] => k (.tup [.agg [I (F15 (⟨x1, x2, x3, x4, x5, x6⟩ : T26) x7 x8).1.Value, I (F15 (⟨x1, x2, x3, x4, x5, x6⟩ : T26) x7 x8).1.Since, I (F15 (⟨x1, x2, x3, x4, x5, x6⟩ : T26) x7 x8).1.Begin, I (F15 (⟨x1, x2, x3, x4, x5, x6⟩ : T26) x7 x8).1.Area, I (F15 (⟨x1, x2, x3, x4, x5, x6⟩ : T26) x7 x8).1.Min, I (F15 (⟨x1, x2, x3, x4, x5, x6⟩ : T26) x7 x8).1.Max], I (F15 (⟨x1, x2, x3, x4, x5, x6⟩ : T26) x7 x8).2])
  | _ => False
theorem a15 (args : List PV) (k : PV → Prop) (h : A15 args k) : ∃ r, Holds Try.prog 15 args r ∧ k r := by
  unfold A15 at h
  split at h
  · exact ⟨_, h15 (T26.mk _ _ _ _ _ _) _ _, h⟩
  · exact h.elim
def A17 : List PV → (PV → Prop) → Prop := fun args k => match args with
  | [.agg [.val (.int .i64 x1), .val (.int .i64 x2), .val (.int .i64 x3), .val (.int .i64 x4), .val (.int .i64 x5), .val (.int .i64 x6)], .val (.int .i64 x7)] => k (.tup [.agg [I (F17 (⟨x1, x2, x3, x4, x5, x6⟩ : T26) x7).1.Value, I (F17 (⟨x1, x2, x3, x4, x5, x6⟩ : T26) x7).1.Since, I (F17 (⟨x1, x2, x3, x4, x5, x6⟩ : T26) x7).1.Begin, I (F17 (⟨x1, x2, x3, x4, x5, x6⟩ : T26) x7).1.Area, I (F17 (⟨x1, x2, x3, x4, x5, x6⟩ : T26) x7).1.Min, I (F17 (⟨x1, x2, x3, x4, x5, x6⟩ : T26) x7).1.Max], I (F17 (⟨x1, x2, x3, x4, x5, x6⟩ : T26) x7).2])
  | _ => False
theorem a17 (args : List PV) (k : PV → Prop) (h : A17 args k) : ∃ r, Holds Try.prog 17 args r ∧ k r := by
  unfold A17 at h
  split at h
  · exact ⟨_, h17 (T26.mk _ _ _ _ _ _) _, h⟩
  · exact h.elim
def A20 : List PV → (PV → Prop) → Prop := fun args k => match args with
  | [.agg [.val (.int .i64 x1), .val (.int .i64 x2), .val (.int .i64 x3), .val (.int .i64 x4), .val (.int .i64 x5), .val (.int .i64 x6)], .val (.int .i64 x7)] => ob (F20 (⟨x1, x2, x3, x4, x5, x6⟩ : T26) x7) fun r => k (.tup [.agg [I r.1.N, I r.1.D], B r.2])
  | _ => False
theorem a20 (args : List PV) (k : PV → Prop) (h : A20 args k) : ∃ r, Holds Try.prog 20 args r ∧ k r := by
  unfold A20 at h
  split at h
  · obtain ⟨r, h1, h2⟩ := ob_elim h
    exact ⟨_, h20 (T26.mk _ _ _ _ _ _) _ _ h1, h2⟩
  · exact h.elim
def O5 : Oracle := (orc 8 A8 (orc 14 A14 (orc 11 A11 (orc 15 A15 (orc 16 A16 (orc 17 A17 (orc 13 A13 (orc 18 A18 (orc 10 A10 (orc 19 A19 (orc 12 A12 (orc 20 A20 (orc 9 A9 noC)))))))))))))
theorem s5 : SoundC Try.prog O5 := (orc_sound a8 (orc_sound a14 (orc_sound a11 (orc_sound a15 (orc_sound a16 (orc_sound a17 (orc_sound a13 (orc_sound a18 (orc_sound a10 (orc_sound a19 (orc_sound a12 (orc_sound a20 (orc_sound a9 (noC_sound Try.prog))))))))))))))
def T5t (a0 : T26) (a1 : Int) (a2 : Int) (k : Bool → Prop) : Prop :=
 (br ((!(((F8 a1 a2).1.Value == (F14 a1 a2).1.Value) && (((F8 a1 a2).1.Since == (F14 a1 a2).1.Since) && (((F8 a1 a2).1.Begin == (F14 a1 a2).1.Begin) && (((F8 a1 a2).1.Area == (F14 a1 a2).1.Area) && (((F8 a1 a2).1.Min == (F14 a1 a2).1.Min) && (((F8 a1 a2).1.Max == (F14 a1 a2).1.Max) && true))))))))
 (k (false))
 (br (((F8 a1 a2).2 != (F14 a1 a2).2))
 (k (false))
 (br ((!(((F11 a0 a1 a2).1.Value == (F15 a0 a1 a2).1.Value) && (((F11 a0 a1 a2).1.Since == (F15 a0 a1 a2).1.Since) && (((F11 a0 a1 a2).1.Begin == (F15 a0 a1 a2).1.Begin) && (((F11 a0 a1 a2).1.Area == (F15 a0 a1 a2).1.Area) && (((F11 a0 a1 a2).1.Min == (F15 a0 a1 a2).1.Min) && (((F11 a0 a1 a2).1.Max == (F15 a0 a1 a2).1.Max) && true))))))))
 (k (false))
 (br (((F11 a0 a1 a2).2 != (F15 a0 a1 a2).2))
 (k (false))
 (br ((!(((F16 a0 a2).1.Value == (F17 a0 a2).1.Value) && (((F16 a0 a2).1.Since == (F17 a0 a2).1.Since) && (((F16 a0 a2).1.Begin == (F17 a0 a2).1.Begin) && (((F16 a0 a2).1.Area == (F17 a0 a2).1.Area) && (((F16 a0 a2).1.Min == (F17 a0 a2).1.Min) && (((F16 a0 a2).1.Max == (F17 a0 a2).1.Max) && true))))))))
 (k (false))
 (br (((F16 a0 a2).2 != (F17 a0 a2).2))
 (k (false))
 (br (((F13 a0) != (F18 a0)))
 (k (false))
 (ob (F12 a0 a2) fun r1 =>
 (ob (F20 a0 a2) fun r2 =>
 (br (((F10 a0 a2).1 == (F19 a0 a2).1))
 (br (((F10 a0 a2).2 == (F19 a0 a2).2))
 (br (((r1.1.N == r2.1.N) && ((r1.1.D == r2.1.D) && true)))
 (br ((r1.2 == r2.2))
 (k (true))
 (k (false)))
 (k (false)))
 (k (false)))
 (k (false))))))))))))
theorem tree5 (L : Nat) (a0 : T26) (a1 : Int) (a2 : Int) (kk : PV → Prop) : evFn Try.prog O5 L Try.f5.results.toList c5 [.agg [I a0.Value, I a0.Since, I a0.Begin, I a0.Area, I a0.Min, I a0.Max], I a1, I a2] kk = T5t a0 a1 a2 (fun x => kk (B x)) := by
  kernel_rfl
def F5 (a0 : T26) (a1 : Int) (a2 : Int) : Option Bool :=
 (bif (!(((F8 a1 a2).1.Value == (F14 a1 a2).1.Value) && (((F8 a1 a2).1.Since == (F14 a1 a2).1.Since) && (((F8 a1 a2).1.Begin == (F14 a1 a2).1.Begin) && (((F8 a1 a2).1.Area == (F14 a1 a2).1.Area) && (((F8 a1 a2).1.Min == (F14 a1 a2).1.Min) && (((F8 a1 a2).1.Max == (F14 a1 a2).1.Max) && true))))))) then some (false)
 else (bif ((F8 a1 a2).2 != (F14 a1 a2).2) then some (false)
 else (bif (!(((F11 a0 a1 a2).1.Value == (F15 a0 a1 a2).1.Value) && (((F11 a0 a1 a2).1.Since == (F15 a0 a1 a2).1.Since) && (((F11 a0 a1 a2).1.Begin == (F15 a0 a1 a2).1.Begin) && (((F11 a0 a1 a2).1.Area == (F15 a0 a1 a2).1.Area) && (((F11 a0 a1 a2).1.Min == (F15 a0 a1 a2).1.Min) && (((F11 a0 a1 a2).1.Max == (F15 a0 a1 a2).1.Max) && true))))))) then some (false)
 else (bif ((F11 a0 a1 a2).2 != (F15 a0 a1 a2).2) then some (false)
 else (bif (!(((F16 a0 a2).1.Value == (F17 a0 a2).1.Value) && (((F16 a0 a2).1.Since == (F17 a0 a2).1.Since) && (((F16 a0 a2).1.Begin == (F17 a0 a2).1.Begin) && (((F16 a0 a2).1.Area == (F17 a0 a2).1.Area) && (((F16 a0 a2).1.Min == (F17 a0 a2).1.Min) && (((F16 a0 a2).1.Max == (F17 a0 a2).1.Max) && true))))))) then some (false)
 else (bif ((F16 a0 a2).2 != (F17 a0 a2).2) then some (false)
 else (bif ((F13 a0) != (F18 a0)) then some (false)
 else (Option.bind (F12 a0 a2) fun r1 =>
 (Option.bind (F20 a0 a2) fun r2 =>
 (bif ((F10 a0 a2).1 == (F19 a0 a2).1) then (bif ((F10 a0 a2).2 == (F19 a0 a2).2) then (bif ((r1.1.N == r2.1.N) && ((r1.1.D == r2.1.D) && true)) then (bif (r1.2 == r2.2) then some (true)
 else some (false))
 else some (false))
 else some (false))
 else some (false)))))))))))
theorem T5e (a0 : T26) (a1 : Int) (a2 : Int) (k : Bool → Prop) : T5t a0 a1 a2 k = ob (F5 a0 a1 a2) k := by
  unfold T5t F5
  simp only [leaf_ob k, false_ob k, br_ob k, ob_ob k, and_ob k]
theorem h5 (a0 : T26) (a1 : Int) (a2 : Int) (r : Bool) (h : F5 a0 a1 a2 = some r) : Holds Try.prog 5 [.agg [I a0.Value, I a0.Since, I a0.Begin, I a0.Area, I a0.Min, I a0.Max], I a1, I a2] (B r) := by
  refine holds_of_ev s5 mixed 0 Try.func5 (by kernel_rfl : cFn Try.prog Try.f5 = some c5) _ _ (by kernel_rfl) ?_
  rw [tree5, T5e]
  exact ob_some h rfl
theorem size2_eq {n : Int} (h1 : -9223372036854775807 ≤ n) (h2 : n ≤ 9223372036854775806) : F33 n = (n.natAbs : Int) := by
  unfold F33
  by_cases h : n < 0
  · rw [yep (decide_eq_true h), w64_id (n := n + 1) (by omega) (by omega), w64_id (n := 0 - (n + 1)) (by omega) (by omega), wu64 (n := 0 - (n + 1)) (by omega) (by omega), wu64 (by omega) (by omega)]
    omega
  · rw [nope (decide_eq_false h), wu64 (by omega) (by omega)]
    omega

theorem F32_val {s : Bool} {x y g a b : Int} {r r' : T56} (hg : F34 ⟨0, x⟩ ⟨0, y⟩ = some ⟨0, g⟩) (hx : F35 ⟨0, x⟩ ⟨0, g⟩ = some (⟨0, a⟩, r)) (hy : F35 ⟨0, y⟩ ⟨0, g⟩ = some (⟨0, b⟩, r')) :
    F32 ⟨s, ⟨0, x⟩⟩ ⟨0, y⟩ = some (bif decide (a > 4611686018427387904) then (⟨0, 0⟩, false) else (bif decide (b > 1000000000000000) then (⟨0, 0⟩, false) else (bif s then (⟨w64 (0 - w64 a), w64 b⟩, true) else (⟨w64 a, w64 b⟩, true)))) := by
  have h1 : F32 ⟨s, ⟨0, x⟩⟩ ⟨0, y⟩ = (Option.bind (F34 ⟨0, x⟩ ⟨0, y⟩) fun r1 => Option.bind (F35 ⟨0, x⟩ r1) fun r2 => Option.bind (F35 ⟨0, y⟩ r1) fun r3 =>
      (bif (r2.1.Hi != 0) then some (⟨0, 0⟩, false) else (bif decide (r2.1.Lo > 4611686018427387904) then some (⟨0, 0⟩, false) else (bif (r3.1.Hi != 0) then some (⟨0, 0⟩, false)
        else (bif decide (r3.1.Lo > 1000000000000000) then some (⟨0, 0⟩, false) else (bif s then some (⟨w64 (0 - w64 r2.1.Lo), w64 r3.1.Lo⟩, true) else some (⟨w64 r2.1.Lo, w64 r3.1.Lo⟩, true))))))) := by
    unfold F32; rfl
  rw [h1, hg, Option.bind_some, hx, Option.bind_some, hy, Option.bind_some]
  cases decide (a > 4611686018427387904) <;> cases decide (b > 1000000000000000) <;> cases s <;> rfl

/-- both fractions are the same -/
theorem of_eq {n d : Int} (hn1 : -4000000000000000000 ≤ n) (hn2 : n ≤ 4000000000000000000) (hd0 : d ≠ 0) (hd1 : -4000000000000000000 ≤ d) (hd2 : d ≤ 4000000000000000000) : F28 n d = F25 n d := by
  have hg0 : 0 < Nat.gcd n.natAbs d.natAbs := Nat.gcd_pos_of_pos_right _ (by omega)
  have hgl : Nat.gcd n.natAbs d.natAbs ≤ d.natAbs := Nat.gcd_le_right _ (by omega)
  unfold F28 F25
  rw [nope (by simpa using hd0), nope (by simpa using hd0)]
  have e : F29 (F30 n) (F30 d) = some (Nat.gcd n.natAbs d.natAbs : Int) := by
    unfold F29
    rw [size_eq (by omega) (by omega), size_eq (by omega) (by omega), if_pos (by omega)]
    simp
  have e2 : F34 ⟨0, (n.natAbs : Int)⟩ ⟨0, (d.natAbs : Int)⟩ = some ⟨0, (Nat.gcd n.natAbs d.natAbs : Int)⟩ := by
    unfold F34
    rw [if_pos ⟨rfl, rfl, by show (0 : Int) ≤ n.natAbs; omega, by show (n.natAbs : Int) < _; omega, by show (0 : Int) ≤ d.natAbs; omega, by show (d.natAbs : Int) < _; omega⟩]
    simp
  have hx := div_small (x := (n.natAbs : Int)) (y := (Nat.gcd n.natAbs d.natAbs : Int)) (by omega) (by omega) (by omega) (by omega)
  have hy := div_small (x := (d.natAbs : Int)) (y := (Nat.gcd n.natAbs d.natAbs : Int)) (by omega) (by omega) (by omega) (by omega)
  rw [e, size_eq (by omega) (by omega), size_eq (by omega) (by omega), size2_eq (by omega) (by omega), size2_eq (by omega) (by omega), F32_val e2 hx hy, Option.bind_some, Option.bind_some]
  clear e e2 hx hy
  generalize Nat.gcd n.natAbs d.natAbs = g at hg0 hgl ⊢
  have hg' : (!decide ((g : Int) = 0)) = true := by
    rw [Bool.not_eq_true', decide_eq_false_iff_not]
    omega
  rw [yep hg', yep hg']
  have ha2 : n.natAbs / g ≤ n.natAbs := Nat.div_le_self _ _
  have hb2 : d.natAbs / g ≤ d.natAbs := Nat.div_le_self _ _
  have ta : Int.tdiv (n.natAbs : Int) (g : Int) = ((n.natAbs / g : Nat) : Int) := by simp
  have tb : Int.tdiv (d.natAbs : Int) (g : Int) = ((d.natAbs / g : Nat) : Int) := by simp
  have ua : (n.natAbs : Int) / (g : Int) = ((n.natAbs / g : Nat) : Int) := by simp
  have ub : (d.natAbs : Int) / (g : Int) = ((d.natAbs / g : Nat) : Int) := by simp
  rw [ta, tb, ua, ub]
  generalize n.natAbs / g = a at ha2 ⊢
  generalize d.natAbs / g = b at hb2 ⊢
  rw [wu64 (n := (a : Int)) (by omega) (by omega), wu64 (n := (b : Int)) (by omega) (by omega)]
  unfold F31
  generalize (!(decide (n < 0) == decide (d < 0))) = s
  generalize decide ((a : Int) > 4611686018427387904) = u
  generalize decide ((b : Int) > 1000000000000000) = v
  cases u <;> cases v <;> cases s <;> rfl

theorem chk_eq (l : T26) : F18 l = F13 l := rfl
theorem new_eq (v t : Int) : F14 v t = F8 v t := rfl
theorem set_eq (l : T26) (v t : Int) : F15 l v t = F11 l v t := by
  unfold F15 F11 F23 F24
  rw [chk_eq l]
  have e1 : F26 v = F21 v := rfl
  have e2 : F27 t = F22 t := rfl
  rw [e1, e2]
  by_cases h : F13 l = 0
  · rw [h]
    cases (!F21 v) <;> cases (!F22 t) <;> cases decide (t < l.Since) <;> rfl
  · have h' : (F13 l != 0) = true := by simpa using h
    simp [h']
theorem again_eq (l : T26) (t : Int) : F17 l t = F16 l t := by
  unfold F17 F16 F23
  rw [chk_eq l]
  have e1 : F21 0 = true := rfl
  have e2 : F27 t = F22 t := rfl
  rw [e1, e2]
  by_cases h : F13 l = 0
  · rw [h]
    cases (!F22 t) <;> cases decide (t < l.Since) <;> rfl
  · have h' : (F13 l != 0) = true := by simpa using h
    simp [h']
theorem area_eq (l : T26) (t : Int) : F19 l t = F10 l t := by
  by_cases h : F23 l 0 t = 0
  · obtain ⟨ok, _, _, h1, h2⟩ := ready_inv h
    rw [F10_ok ok h1 h2]
    unfold F19
    rw [chk_eq, (chk l).2 ok, nope (by rfl), nope (decide_eq_false (by omega)), nope (decide_eq_false (by omega))]
    have := integral_eq ok h1 h2
    unfold F24 at this
    rw [this]
  · have h10 : F10 l t = (0, false) := by
      unfold F10
      rw [yep (by simpa using h)]
    rw [h10]
    unfold F19
    rw [chk_eq]
    by_cases hc : F13 l = 0
    · have ok := (chk l).1 hc
      rw [hc, nope (by rfl)]
      by_cases h1 : t < l.Since
      · rw [yep (decide_eq_true h1)]
      · rw [nope (decide_eq_false h1)]
        by_cases h2 : t > 1000000000
        · rw [yep (decide_eq_true h2)]
        · exact absurd (ready_ok ok (by decide) (by decide) (by omega) (by omega)) h
    · rw [yep (by simpa using hc)]

theorem mean_eq (l : T26) (t : Int) : ∃ r, F12 l t = some r ∧ F20 l t = some r := by
  by_cases h : F23 l 0 t = 0
  · obtain ⟨ok, _, _, h1, h2⟩ := ready_inv h
    obtain ⟨r, e1, e2⟩ := mean_some ok h1 h2
    refine ⟨r, e1, ?_⟩
    have := ok.s1; have := ok.b1; have := ok.b2; have := ok.ord
    have b := area_bd ok h1 h2
    unfold F20
    rw [area_eq, F10_ok ok h1 h2, nope (by rfl), w64_id (by omega) (by omega)]
    by_cases hb : t = l.Begin
    · rw [yep (by simpa using hb)]
      subst hb
      rw [Int.sub_self] at e2
      have h3 : F25 (area l l.Begin) 0 = some (⟨0, 0⟩, false) := rfl
      rw [h3] at e2
      exact e2
    · rw [nope (by simpa using hb), of_eq (by omega) (by omega) (by omega) (by omega) (by omega), e2]
      rfl
  · have h10 : F10 l t = (0, false) := by
      unfold F10
      rw [yep (by simpa using h)]
    refine ⟨(⟨0, 0⟩, false), ?_, ?_⟩
    · unfold F12; rw [h10]; rfl
    · unfold F20; rw [area_eq, h10]; rfl

theorem exact_law (l : T26) (v t : Int) : F5 l v t = some true := by
  obtain ⟨r, e1, e2⟩ := mean_eq l t
  unfold F5
  rw [e1, e2, set_eq, again_eq, area_eq, chk_eq, new_eq]
  simp

end Go.Proofs.Ytflfeikkcpcdiaa.Ev
