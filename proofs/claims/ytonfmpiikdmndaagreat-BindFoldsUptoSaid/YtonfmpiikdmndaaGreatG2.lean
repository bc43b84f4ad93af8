import Derived.Test.YtonfmpiikdmndaaGreatG1
namespace Go.Proofs.YtonfmpiikdmndaaGreat.Ev
open Go
set_option maxRecDepth 100000
set_option linter.unusedVariables false
set_option linter.unusedSimpArgs false
set_option linter.unnecessarySimpa false
/-! ### simulator/typing.measures -/
noncomputable def c84 : EC := (cFn Tryz.prog inl Tryz.f84).getD .stop
def O84  (L : Nat) : Oracle := noC
theorem s84   (L : Nat) : SoundC Tryz.prog (O84 L) := (noC_sound Tryz.prog)
def T_typing_measures {A : Type} (an : An A)  (L : Nat) (a0 : Int) (out : Bool → A) : A :=
 (an.jp (bif (a0 == 1) then true
 else (a0 == 3)) (fun j => (an.cn (a0 == 1)
 (an.ap j true)
 (an.ap j (a0 == 3)))) (fun b1 =>
 (an.lf out b1)))
def F_typing_measures  (L : Nat) (a0 : Int) : Option Bool := T_typing_measures (anO _) L a0 some
theorem e84  (L : Nat) (a0 : Int) (kk : PV → Prop) : EW (O84 L) L 9 (RS Tryz.f84) c84 [I a0] kk = ob (F_typing_measures L a0) (fun (x : Bool) => kk (B x)) := by
  refine Eq.trans (b := T_typing_measures anP L a0 (fun (x : Bool) => kk (B x))) (by kernel_rfl) ?_
  generalize (fun (x : Bool) => kk (B x)) = Q
  unfold F_typing_measures T_typing_measures
  dsimp only [anP, anO]
  try simp only [y1, y2, y3, y4, y5 Q, y6, y7, y8 Q, y9, z1, z2, z3, z4]
theorem h84   (L : Nat) (a0 : Int) (r : Bool) (h : F_typing_measures L a0 = some r) : Holds Tryz.prog 84 [I a0] (B r) :=
  hE grwOK (s84  L) mixed Tryz.func84 (by kernel_rfl : cFn Tryz.prog inl Tryz.f84 = some c84) (er := fun (x : Bool) => B x) (by kernel_rfl) (e84 L a0) h
/-! ### simulator/typing.unary -/
noncomputable def c50 : EC := (cFn Tryz.prog inl Tryz.f50).getD .stop
def O50  (L : Nat) : Oracle := (orc 84 (A1 (fun (x : Bool) => B x) (cI .i64) (F_typing_measures L)) noC)
theorem s50   (L : Nat) : SoundC Tryz.prog (O50 L) := (orc_sound (a1 _ (h84 L)) (noC_sound Tryz.prog))
def T_typing_unary {A : Type} (an : An A)  (L : Nat) (a0 : Int) (a1 : Int) (out : Int → A) : A :=
 (an.jb (bif (a0 == 5) then (Option.bind (F_typing_measures L a1) fun r2 =>
 (some r2))
 else (some false)) (fun j => (an.cn (a0 == 5)
 (an.bd (F_typing_measures L a1) fun r3 =>
 (an.lf j r3))
 (an.lf j false))) (fun b1 =>
 (an.cn b1
 (an.cn b1
 (an.lf out a1)
 (an.jp (bif (a0 == 7) then (a1 == 1)
 else false) (fun j => (an.cn (a0 == 7)
 (an.ap j (a1 == 1))
 (an.ap j false))) (fun b4 =>
 (an.cn b4
 (an.lf out 3)
 (an.jp (bif (a0 == 8) then (a1 == 3)
 else false) (fun j => (an.cn (a0 == 8)
 (an.ap j (a1 == 3))
 (an.ap j false))) (fun b5 =>
 (an.cn b5
 (an.lf out 1)
 (an.lf out 0))))))))
 (an.jp (bif (a0 == 6) then (a1 == 2)
 else false) (fun j => (an.cn (a0 == 6)
 (an.ap j (a1 == 2))
 (an.ap j false))) (fun b6 =>
 (an.cn b6
 (an.lf out a1)
 (an.jp (bif (a0 == 7) then (a1 == 1)
 else false) (fun j => (an.cn (a0 == 7)
 (an.ap j (a1 == 1))
 (an.ap j false))) (fun b7 =>
 (an.cn b7
 (an.lf out 3)
 (an.jp (bif (a0 == 8) then (a1 == 3)
 else false) (fun j => (an.cn (a0 == 8)
 (an.ap j (a1 == 3))
 (an.ap j false))) (fun b8 =>
 (an.cn b8
 (an.lf out 1)
 (an.lf out 0)))))))))))))
def F_typing_unary  (L : Nat) (a0 : Int) (a1 : Int) : Option Int := T_typing_unary (anO _) L a0 a1 some
theorem e50  (L : Nat) (a0 : Int) (a1 : Int) (kk : PV → Prop) : EW (O50 L) L 9 (RS Tryz.f50) c50 [I a0, I a1] kk = ob (F_typing_unary L a0 a1) (fun (x : Int) => kk (I x)) := by
  refine Eq.trans (b := T_typing_unary anP L a0 a1 (fun (x : Int) => kk (I x))) (by kernel_rfl) ?_
  generalize (fun (x : Int) => kk (I x)) = Q
  unfold F_typing_unary T_typing_unary
  dsimp only [anP, anO]
  try simp only [y1, y2, y3, y4, y5 Q, y6, y7, y8 Q, y9, z1, z2, z3, z4]
theorem h50   (L : Nat) (a0 : Int) (a1 : Int) (r : Int) (h : F_typing_unary L a0 a1 = some r) : Holds Tryz.prog 50 [I a0, I a1] (I r) :=
  hE grwOK (s50  L) mixed Tryz.func50 (by kernel_rfl : cFn Tryz.prog inl Tryz.f50 = some c50) (er := fun (x : Int) => I x) (by kernel_rfl) (e50 L a0 a1) h
/-! ### simulator/typing.binary -/
noncomputable def c51 : EC := (cFn Tryz.prog inl Tryz.f51).getD .stop
def O51  (L : Nat) : Oracle := (orc 84 (A1 (fun (x : Bool) => B x) (cI .i64) (F_typing_measures L)) noC)
theorem s51   (L : Nat) : SoundC Tryz.prog (O51 L) := (orc_sound (a1 _ (h84 L)) (noC_sound Tryz.prog))
def sg51_2 (a1 : Int) (a2 : Int) (p802_3 : Bool) : St := ({ fr := [(1, I a1), (2, I a2), (6, I 0), (47, B p802_3)], ob := [], base := 0 } : St)
def kt51_2  (L : Nat) (e0 : EC) (kk : PV → Prop) : Ex → St → Prop := (kBlock 2 (kBlock 0 (kSeq (EV (O51 L) L 9 e0) (kEnd Tryz.prog (RS Tryz.f51) kk))))
def tx_typing_binary_2 {A : Type} (an : An A)  (L : Nat) (a1 : Int) (a2 : Int) (p802_3 : Bool) (out : Int → A) : A :=
 (an.cn p802_3
 (an.lf out 1)
 (an.jp (bif (a1 == 3) then (a2 == 1)
 else false) (fun j => (an.cn (a1 == 3)
 (an.ap j (a2 == 1))
 (an.ap j false))) (fun b11 =>
 (an.cn b11
 (an.lf out 3)
 (an.lf out 0)))))
theorem ee51_2  (L : Nat) (a1 : Int) (a2 : Int) (p802_3 : Bool) (kk : PV → Prop) : EV (O51 L) L 9 c51.r.r.r.r.l.r.r.l.r.r.r.r.r.r.r.r.l.l.r.r (sg51_2 a1 a2 p802_3) (kt51_2  L c51.r.r.r.r.r kk) = tx_typing_binary_2 anP  L a1 a2 p802_3 (fun (x : Int) => kk (I x)) := by kernel_rfl
theorem tf51_2  (L : Nat) (a1 : Int) (a2 : Int) (p802_3 : Bool) (Q : Int → Prop) : tx_typing_binary_2 anP  L a1 a2 p802_3 Q = ob (tx_typing_binary_2 (anO _)  L a1 a2 p802_3 some) Q := by
  unfold tx_typing_binary_2
  dsimp only [anP, anO]
  try simp only [y1, y2, y3, y4, y5 Q, y6, y7, y8 Q, y9, z1, z2, z3, z4]
def sg51_5 (a1 : Int) (a2 : Int) (p805_3 : Bool) : St := ({ fr := [(1, I a1), (2, I a2), (6, I 0), (78, B p805_3)], ob := [], base := 0 } : St)
def kt51_5  (L : Nat) (e0 : EC) (kk : PV → Prop) : Ex → St → Prop := (kBlock 0 (kSeq (EV (O51 L) L 9 e0) (kEnd Tryz.prog (RS Tryz.f51) kk)))
def tx_typing_binary_5 {A : Type} (an : An A)  (L : Nat) (a1 : Int) (a2 : Int) (p805_3 : Bool) (out : Int → A) : A :=
 (an.cn p805_3
 (an.jp (bif (a1 == 2) then (a2 == 2)
 else false) (fun j => (an.cn (a1 == 2)
 (an.ap j (a2 == 2))
 (an.ap j false))) (fun b15 =>
 (an.cn b15
 (an.lf out 2)
 (an.lf out 0))))
 (an.lf out 0))
theorem ee51_5  (L : Nat) (a1 : Int) (a2 : Int) (p805_3 : Bool) (kk : PV → Prop) : EV (O51 L) L 9 c51.r.r.r.r.l.r.r.l.r.r.r.r.r.r.r.r.r.r.r.r.r.r.r.r.r (sg51_5 a1 a2 p805_3) (kt51_5  L c51.r.r.r.r.r kk) = tx_typing_binary_5 anP  L a1 a2 p805_3 (fun (x : Int) => kk (I x)) := by kernel_rfl
theorem tf51_5  (L : Nat) (a1 : Int) (a2 : Int) (p805_3 : Bool) (Q : Int → Prop) : tx_typing_binary_5 anP  L a1 a2 p805_3 Q = ob (tx_typing_binary_5 (anO _)  L a1 a2 p805_3 some) Q := by
  unfold tx_typing_binary_5
  dsimp only [anP, anO]
  try simp only [y1, y2, y3, y4, y5 Q, y6, y7, y8 Q, y9, z1, z2, z3, z4]
def sg51_4 (a1 : Int) (a2 : Int) (a0 : Int) (p804_4 : Bool) : St := ({ fr := [(1, I a1), (2, I a2), (6, I 0), (14, I a0), (68, B p804_4)], ob := [], base := 0 } : St)
def kt51_4  (L : Nat) (e0 : EC) (kk : PV → Prop) : Ex → St → Prop := (kBlock 0 (kSeq (EV (O51 L) L 9 e0) (kEnd Tryz.prog (RS Tryz.f51) kk)))
def sx_typing_binary_4 {A : Type} (an : An A)  (L : Nat) (a1 : Int) (a2 : Int) (a0 : Int) (p804_4 : Bool) (nx5 : Int → Int → Bool → A) (out : Int → A) : A :=
 (an.cn p804_4
 (an.jb (bif (a1 == a2) then (Option.bind (F_typing_measures L a1) fun r13 =>
 (some r13))
 else (some false)) (fun j => (an.cn (a1 == a2)
 (an.bd (F_typing_measures L a1) fun r14 =>
 (an.lf j r14))
 (an.lf j false))) (fun b12 =>
 (an.cn b12
 (an.lf out 2)
 (an.lf out 0))))
 (an.cn (a0 == 18)
 (nx5 a1 a2 (a0 == 18))
 (nx5 a1 a2 (a0 == 19))))
def tx_typing_binary_4 {A : Type} (an : An A)  (L : Nat) (a1 : Int) (a2 : Int) (a0 : Int) (p804_4 : Bool) (out : Int → A) : A := sx_typing_binary_4 an  L a1 a2 a0 p804_4 (fun a1 a2 p805_3 => tx_typing_binary_5 an  L a1 a2 p805_3 out) out
theorem sf51_4  (L : Nat) (a1 : Int) (a2 : Int) (a0 : Int) (p804_4 : Bool) (g5 : Int → Int → Bool → Option Int) (Q : Int → Prop) : sx_typing_binary_4 anP  L a1 a2 a0 p804_4 (fun a1 a2 p805_3 => ob (g5 a1 a2 p805_3) Q) Q = ob (sx_typing_binary_4 (anO _)  L a1 a2 a0 p804_4 g5 some) Q := by
  unfold sx_typing_binary_4
  dsimp only [anP, anO]
  try simp only [y1, y2, y3, y4, y5 Q, y6, y7, y8 Q, y9, z1, z2, z3, z4]
theorem eh51_4  (L : Nat) (a1 : Int) (a2 : Int) (a0 : Int) (p804_4 : Bool) (kk : PV → Prop) (z5 : EC) : EV (O51 L) L 9 (EC.put [false, false, false] z5 c51.r.r.r.r.l.r.r.l.r.r.r.r.r.r.r.r.r.r.r.r.r.r) (sg51_4 a1 a2 a0 p804_4) (kt51_4  L c51.r.r.r.r.r kk) = sx_typing_binary_4 anP  L a1 a2 a0 p804_4 (fun a1 a2 p805_3 => EV (O51 L) L 9 z5 (sg51_5 a1 a2 p805_3) (kt51_5  L c51.r.r.r.r.r kk)) (fun (x : Int) => kk (I x)) := by kernel_rfl
theorem ee51_4  (L : Nat) (a1 : Int) (a2 : Int) (a0 : Int) (p804_4 : Bool) (kk : PV → Prop) : EV (O51 L) L 9 c51.r.r.r.r.l.r.r.l.r.r.r.r.r.r.r.r.r.r.r.r.r.r (sg51_4 a1 a2 a0 p804_4) (kt51_4  L c51.r.r.r.r.r kk) = tx_typing_binary_4 anP  L a1 a2 a0 p804_4 (fun (x : Int) => kk (I x)) := by
  refine Eq.trans (b := EV (O51 L) L 9 (EC.put [false, false, false] c51.r.r.r.r.l.r.r.l.r.r.r.r.r.r.r.r.r.r.r.r.r.r.r.r.r c51.r.r.r.r.l.r.r.l.r.r.r.r.r.r.r.r.r.r.r.r.r.r) (sg51_4 a1 a2 a0 p804_4) (kt51_4  L c51.r.r.r.r.r kk)) (by kernel_rfl) ?_
  refine Eq.trans (eh51_4  L a1 a2 a0 p804_4 kk c51.r.r.r.r.l.r.r.l.r.r.r.r.r.r.r.r.r.r.r.r.r.r.r.r.r) ?_
  unfold tx_typing_binary_4
  simp only [ee51_5]
theorem tf51_4  (L : Nat) (a1 : Int) (a2 : Int) (a0 : Int) (p804_4 : Bool) (Q : Int → Prop) : tx_typing_binary_4 anP  L a1 a2 a0 p804_4 Q = ob (tx_typing_binary_4 (anO _)  L a1 a2 a0 p804_4 some) Q := by
  unfold tx_typing_binary_4
  simp only [tf51_5]
  exact sf51_4  L a1 a2 a0 p804_4 (fun a1 a2 p805_3 => tx_typing_binary_5 (anO _)  L a1 a2 p805_3 some) Q
def sg51_3 (a1 : Int) (a2 : Int) (a0 : Int) (p803_4 : Bool) : St := ({ fr := [(1, I a1), (2, I a2), (6, I 0), (14, I a0), (62, B p803_4)], ob := [], base := 0 } : St)
def kt51_3  (L : Nat) (e0 : EC) (kk : PV → Prop) : Ex → St → Prop := (kBlock 0 (kSeq (EV (O51 L) L 9 e0) (kEnd Tryz.prog (RS Tryz.f51) kk)))
def sx_typing_binary_3 {A : Type} (an : An A)  (L : Nat) (a1 : Int) (a2 : Int) (a0 : Int) (p803_4 : Bool) (nx4 : Int → Int → Int → Bool → A) (out : Int → A) : A :=
 (an.cn p803_4
 (an.cn (a1 == a2)
 (an.lf out 2)
 (an.lf out 0))
 (an.cn (a0 == 16)
 (nx4 a1 a2 a0 (a0 == 16))
 (nx4 a1 a2 a0 (a0 == 17))))
def tx_typing_binary_3 {A : Type} (an : An A)  (L : Nat) (a1 : Int) (a2 : Int) (a0 : Int) (p803_4 : Bool) (out : Int → A) : A := sx_typing_binary_3 an  L a1 a2 a0 p803_4 (fun a1 a2 a0 p804_4 => tx_typing_binary_4 an  L a1 a2 a0 p804_4 out) out
theorem sf51_3  (L : Nat) (a1 : Int) (a2 : Int) (a0 : Int) (p803_4 : Bool) (g4 : Int → Int → Int → Bool → Option Int) (Q : Int → Prop) : sx_typing_binary_3 anP  L a1 a2 a0 p803_4 (fun a1 a2 a0 p804_4 => ob (g4 a1 a2 a0 p804_4) Q) Q = ob (sx_typing_binary_3 (anO _)  L a1 a2 a0 p803_4 g4 some) Q := by
  unfold sx_typing_binary_3
  dsimp only [anP, anO]
  try simp only [y1, y2, y3, y4, y5 Q, y6, y7, y8 Q, y9, z1, z2, z3, z4]
theorem eh51_3  (L : Nat) (a1 : Int) (a2 : Int) (a0 : Int) (p803_4 : Bool) (kk : PV → Prop) (z4 : EC) : EV (O51 L) L 9 (EC.put [false, false, false] z4 c51.r.r.r.r.l.r.r.l.r.r.r.r.r.r.r.r.r.r.r) (sg51_3 a1 a2 a0 p803_4) (kt51_3  L c51.r.r.r.r.r kk) = sx_typing_binary_3 anP  L a1 a2 a0 p803_4 (fun a1 a2 a0 p804_4 => EV (O51 L) L 9 z4 (sg51_4 a1 a2 a0 p804_4) (kt51_4  L c51.r.r.r.r.r kk)) (fun (x : Int) => kk (I x)) := by kernel_rfl
theorem ee51_3  (L : Nat) (a1 : Int) (a2 : Int) (a0 : Int) (p803_4 : Bool) (kk : PV → Prop) : EV (O51 L) L 9 c51.r.r.r.r.l.r.r.l.r.r.r.r.r.r.r.r.r.r.r (sg51_3 a1 a2 a0 p803_4) (kt51_3  L c51.r.r.r.r.r kk) = tx_typing_binary_3 anP  L a1 a2 a0 p803_4 (fun (x : Int) => kk (I x)) := by
  refine Eq.trans (b := EV (O51 L) L 9 (EC.put [false, false, false] c51.r.r.r.r.l.r.r.l.r.r.r.r.r.r.r.r.r.r.r.r.r.r c51.r.r.r.r.l.r.r.l.r.r.r.r.r.r.r.r.r.r.r) (sg51_3 a1 a2 a0 p803_4) (kt51_3  L c51.r.r.r.r.r kk)) (by kernel_rfl) ?_
  refine Eq.trans (eh51_3  L a1 a2 a0 p803_4 kk c51.r.r.r.r.l.r.r.l.r.r.r.r.r.r.r.r.r.r.r.r.r.r) ?_
  unfold tx_typing_binary_3
  simp only [ee51_4]
theorem tf51_3  (L : Nat) (a1 : Int) (a2 : Int) (a0 : Int) (p803_4 : Bool) (Q : Int → Prop) : tx_typing_binary_3 anP  L a1 a2 a0 p803_4 Q = ob (tx_typing_binary_3 (anO _)  L a1 a2 a0 p803_4 some) Q := by
  unfold tx_typing_binary_3
  simp only [tf51_4]
  exact sf51_3  L a1 a2 a0 p803_4 (fun a1 a2 a0 p804_4 => tx_typing_binary_4 (anO _)  L a1 a2 a0 p804_4 some) Q
def sg51_1 (a1 : Int) (a2 : Int) (b1 : Bool) (a0 : Int) (p801_5 : Bool) : St := ({ fr := [(1, I a1), (2, I a2), (6, I 0), (7, B b1), (14, I a0), (15, B p801_5)], ob := [], base := 0 } : St)
def kt51_1  (L : Nat) (e0 : EC) (kk : PV → Prop) : Ex → St → Prop := (kBlock 0 (kSeq (EV (O51 L) L 9 e0) (kEnd Tryz.prog (RS Tryz.f51) kk)))
def sx_typing_binary_1 {A : Type} (an : An A)  (L : Nat) (a1 : Int) (a2 : Int) (b1 : Bool) (a0 : Int) (p801_5 : Bool) (nx2 : Int → Int → Bool → A) (nx3 : Int → Int → Int → Bool → A) (out : Int → A) : A :=
 (an.cn p801_5
 (an.jb (bif (a1 == a2) then (Option.bind (F_typing_measures L a1) fun r3 =>
 (some r3))
 else (some false)) (fun j => (an.cn (a1 == a2)
 (an.bd (F_typing_measures L a1) fun r4 =>
 (an.lf j r4))
 (an.lf j false))) (fun b2 =>
 (an.cn b2
 (an.lf out a1)
 (an.lf out 0))))
 (an.cn (a0 == 11)
 (an.cn b1
 (an.lf out 1)
 (an.bd (F_typing_measures L a1) fun r5 =>
 (an.jb (bif r5 then (Option.bind (F_typing_measures L a2) fun r7 =>
 (some r7))
 else (some false)) (fun j => (an.cn r5
 (an.bd (F_typing_measures L a2) fun r8 =>
 (an.lf j r8))
 (an.lf j false))) (fun b6 =>
 (an.jp (bif b6 then (a1 != a2)
 else false) (fun j => (an.cn b6
 (an.ap j (a1 != a2))
 (an.ap j false))) (fun b9 =>
 (an.cn b9
 (an.lf out 3)
 (an.lf out 0))))))))
 (an.cn (a0 == 12)
 (an.cn b1
 (nx2 a1 a2 b1)
 (an.jp (bif (a1 == 3) then (a2 == 3)
 else false) (fun j => (an.cn (a1 == 3)
 (an.ap j (a2 == 3))
 (an.ap j false))) (fun b10 =>
 (nx2 a1 a2 b10))))
 (an.cn (a0 == 14)
 (nx3 a1 a2 a0 (a0 == 14))
 (nx3 a1 a2 a0 (a0 == 15))))))
def tx_typing_binary_1 {A : Type} (an : An A)  (L : Nat) (a1 : Int) (a2 : Int) (b1 : Bool) (a0 : Int) (p801_5 : Bool) (out : Int → A) : A := sx_typing_binary_1 an  L a1 a2 b1 a0 p801_5 (fun a1 a2 p802_3 => tx_typing_binary_2 an  L a1 a2 p802_3 out) (fun a1 a2 a0 p803_4 => tx_typing_binary_3 an  L a1 a2 a0 p803_4 out) out
theorem sf51_1  (L : Nat) (a1 : Int) (a2 : Int) (b1 : Bool) (a0 : Int) (p801_5 : Bool) (g2 : Int → Int → Bool → Option Int) (g3 : Int → Int → Int → Bool → Option Int) (Q : Int → Prop) : sx_typing_binary_1 anP  L a1 a2 b1 a0 p801_5 (fun a1 a2 p802_3 => ob (g2 a1 a2 p802_3) Q) (fun a1 a2 a0 p803_4 => ob (g3 a1 a2 a0 p803_4) Q) Q = ob (sx_typing_binary_1 (anO _)  L a1 a2 b1 a0 p801_5 g2 g3 some) Q := by
  unfold sx_typing_binary_1
  dsimp only [anP, anO]
  try simp only [y1, y2, y3, y4, y5 Q, y6, y7, y8 Q, y9, z1, z2, z3, z4]
theorem eh51_1  (L : Nat) (a1 : Int) (a2 : Int) (b1 : Bool) (a0 : Int) (p801_5 : Bool) (kk : PV → Prop) (z2 z3 : EC) : EV (O51 L) L 9 (EC.put [false, false, false, false, false, false, false, false, false] z3 (EC.put [false, false, false, false, false, false, true, true, false, false] z2 c51.r.r.r.r.l.r.r.l.r.r)) (sg51_1 a1 a2 b1 a0 p801_5) (kt51_1  L c51.r.r.r.r.r kk) = sx_typing_binary_1 anP  L a1 a2 b1 a0 p801_5 (fun a1 a2 p802_3 => EV (O51 L) L 9 z2 (sg51_2 a1 a2 p802_3) (kt51_2  L c51.r.r.r.r.r kk)) (fun a1 a2 a0 p803_4 => EV (O51 L) L 9 z3 (sg51_3 a1 a2 a0 p803_4) (kt51_3  L c51.r.r.r.r.r kk)) (fun (x : Int) => kk (I x)) := by kernel_rfl
theorem ee51_1  (L : Nat) (a1 : Int) (a2 : Int) (b1 : Bool) (a0 : Int) (p801_5 : Bool) (kk : PV → Prop) : EV (O51 L) L 9 c51.r.r.r.r.l.r.r.l.r.r (sg51_1 a1 a2 b1 a0 p801_5) (kt51_1  L c51.r.r.r.r.r kk) = tx_typing_binary_1 anP  L a1 a2 b1 a0 p801_5 (fun (x : Int) => kk (I x)) := by
  refine Eq.trans (b := EV (O51 L) L 9 (EC.put [false, false, false, false, false, false, false, false, false] c51.r.r.r.r.l.r.r.l.r.r.r.r.r.r.r.r.r.r.r (EC.put [false, false, false, false, false, false, true, true, false, false] c51.r.r.r.r.l.r.r.l.r.r.r.r.r.r.r.r.l.l.r.r c51.r.r.r.r.l.r.r.l.r.r)) (sg51_1 a1 a2 b1 a0 p801_5) (kt51_1  L c51.r.r.r.r.r kk)) (by kernel_rfl) ?_
  refine Eq.trans (eh51_1  L a1 a2 b1 a0 p801_5 kk c51.r.r.r.r.l.r.r.l.r.r.r.r.r.r.r.r.l.l.r.r c51.r.r.r.r.l.r.r.l.r.r.r.r.r.r.r.r.r.r.r) ?_
  unfold tx_typing_binary_1
  simp only [ee51_2, ee51_3]
theorem tf51_1  (L : Nat) (a1 : Int) (a2 : Int) (b1 : Bool) (a0 : Int) (p801_5 : Bool) (Q : Int → Prop) : tx_typing_binary_1 anP  L a1 a2 b1 a0 p801_5 Q = ob (tx_typing_binary_1 (anO _)  L a1 a2 b1 a0 p801_5 some) Q := by
  unfold tx_typing_binary_1
  simp only [tf51_2, tf51_3]
  exact sf51_1  L a1 a2 b1 a0 p801_5 (fun a1 a2 p802_3 => tx_typing_binary_2 (anO _)  L a1 a2 p802_3 some) (fun a1 a2 a0 p803_4 => tx_typing_binary_3 (anO _)  L a1 a2 a0 p803_4 some) Q
def sx_typing_binary_0 {A : Type} (an : An A)  (L : Nat) (a0 : Int) (a1 : Int) (a2 : Int) (nx1 : Int → Int → Bool → Int → Bool → A) (out : Int → A) : A :=
 (an.jp (bif (a1 == 1) then (a2 == 1)
 else false) (fun j => (an.cn (a1 == 1)
 (an.ap j (a2 == 1))
 (an.ap j false))) (fun b1 =>
 (an.cn (a0 == 9)
 (nx1 a1 a2 b1 a0 (a0 == 9))
 (an.cn (a0 == 10)
 (nx1 a1 a2 b1 a0 (a0 == 10))
 (an.cn (a0 == 13)
 (nx1 a1 a2 b1 a0 (a0 == 13))
 (an.cn (a0 == 20)
 (nx1 a1 a2 b1 a0 (a0 == 20))
 (nx1 a1 a2 b1 a0 (a0 == 21))))))))
def T_typing_binary {A : Type} (an : An A)  (L : Nat) (a0 : Int) (a1 : Int) (a2 : Int) (out : Int → A) : A := sx_typing_binary_0 an  L a0 a1 a2 (fun a1 a2 b1 a0 p801_5 => tx_typing_binary_1 an  L a1 a2 b1 a0 p801_5 out) out
theorem sf51_0  (L : Nat) (a0 : Int) (a1 : Int) (a2 : Int) (g1 : Int → Int → Bool → Int → Bool → Option Int) (Q : Int → Prop) : sx_typing_binary_0 anP  L a0 a1 a2 (fun a1 a2 b1 a0 p801_5 => ob (g1 a1 a2 b1 a0 p801_5) Q) Q = ob (sx_typing_binary_0 (anO _)  L a0 a1 a2 g1 some) Q := by
  unfold sx_typing_binary_0
  dsimp only [anP, anO]
  try simp only [y1, y2, y3, y4, y5 Q, y6, y7, y8 Q, y9, z1, z2, z3, z4]
theorem eh51_0  (L : Nat) (a0 : Int) (a1 : Int) (a2 : Int) (kk : PV → Prop) (z1 : EC) : EW (O51 L) L 9 (RS Tryz.f51) (EC.put [false, false, false, false, true, false, false, true, false, false] z1 c51) [I a0, I a1, I a2] kk = sx_typing_binary_0 anP  L a0 a1 a2 (fun a1 a2 b1 a0 p801_5 => EV (O51 L) L 9 z1 (sg51_1 a1 a2 b1 a0 p801_5) (kt51_1  L c51.r.r.r.r.r kk)) (fun (x : Int) => kk (I x)) := by kernel_rfl
def F_typing_binary  (L : Nat) (a0 : Int) (a1 : Int) (a2 : Int) : Option Int := T_typing_binary (anO _) L a0 a1 a2 some
theorem e51  (L : Nat) (a0 : Int) (a1 : Int) (a2 : Int) (kk : PV → Prop) : EW (O51 L) L 9 (RS Tryz.f51) c51 [I a0, I a1, I a2] kk = ob (F_typing_binary L a0 a1 a2) (fun (x : Int) => kk (I x)) := by
  refine Eq.trans (b := EW (O51 L) L 9 (RS Tryz.f51) (EC.put [false, false, false, false, true, false, false, true, false, false] c51.r.r.r.r.l.r.r.l.r.r c51) [I a0, I a1, I a2] kk) (by kernel_rfl) ?_
  refine Eq.trans (eh51_0  L a0 a1 a2 kk c51.r.r.r.r.l.r.r.l.r.r) ?_
  simp only [ee51_1]
  generalize (fun (x : Int) => kk (I x)) = Q
  simp only [tf51_1]
  unfold F_typing_binary T_typing_binary
  exact sf51_0  L a0 a1 a2 (fun a1 a2 b1 a0 p801_5 => tx_typing_binary_1 (anO _)  L a1 a2 b1 a0 p801_5 some) Q
theorem h51   (L : Nat) (a0 : Int) (a1 : Int) (a2 : Int) (r : Int) (h : F_typing_binary L a0 a1 a2 = some r) : Holds Tryz.prog 51 [I a0, I a1, I a2] (I r) :=
  hE grwOK (s51  L) mixed Tryz.func51 (by kernel_rfl : cFn Tryz.prog inl Tryz.f51 = some c51) (er := fun (x : Int) => I x) (by kernel_rfl) (e51 L a0 a1 a2) h
/-! ### simulator/typing.node -/
noncomputable def c28 : EC := (cFn Tryz.prog inl Tryz.f28).getD .stop
def O28 (rec28 : api_Env → api_Expr → Option (Int × Int)) (L : Nat) : Oracle := (orc 28 (A2 (fun (x : (Int × Int)) => .tup [I x.1, I x.2]) ca_api_Env ca_api_Expr rec28) (orc 47 (A2 (fun (x : (Int × Bool)) => .tup [I x.1, B x.2]) ca_api_Env cS (F_typing_Find L)) (orc 48 (A2 (fun (x : Bool) => B x) (cI .i64) cS (F_typing_object L)) (orc 49 (A2 (fun (x : ByteArray) => S x) ca_api_SiteDecl cS (F_model_Kind L)) (orc 50 (A2 (fun (x : Int) => I x) (cI .i64) (cI .i64) (F_typing_unary L)) (orc 51 (A3 (fun (x : Int) => I x) (cI .i64) (cI .i64) (cI .i64) (F_typing_binary L)) noC))))))
theorem s28 (rec28 : api_Env → api_Expr → Option (Int × Int)) (hr28 : ∀ (y0 : api_Env) (y1 : api_Expr) (r : (Int × Int)), rec28 y0 y1 = some r → Holds Tryz.prog 28 [.agg (enapi_Env y0), .agg (enapi_Expr y1)] (.tup [I r.1, I r.2])) (L : Nat) : SoundC Tryz.prog (O28 rec28 L) := (orc_sound (a2 _ hr28) (orc_sound (a2 _ (h47 L)) (orc_sound (a2 _ (h48 L)) (orc_sound (a2 _ (h49 L)) (orc_sound (a2 _ (h50 L)) (orc_sound (a3 _ (h51 L)) (noC_sound Tryz.prog)))))))
def sh28_1 (a1 : api_Expr) (a0 : api_Env) (v1_0 : Int) (v1_1 : Int) (v1_2 : List Int) (v1_5 : Int) : St := ({ fr := [(0, .any), (1, .any), (2, .loc 2 0), (3, .loc 3 0), (4, I v1_0), (5, I v1_1), (6, .lst true (.t47 v1_2)), (11, .any), (12, .any), (13, .any), (15, .lst false (.t25 a1.Kids)), (16, I (a1.Kids.length : Int)), (17, I v1_5), (35, .any), (49, .any), (62, .any), (72, .any), (85, .any), (89, .any), (93, .any)], ob := [(2, (enapi_Env a0)), (3, (enapi_Expr a1))], base := 0 } : St)
def KK28_1 (a1 : api_Expr) (a0 : api_Env) (K : Ex → St → Prop) : Nat × (Int × Int × List Int × Int) → Prop := fun o => seln o.1 [K .ret (sh28_1 a1 a0 o.2.1 o.2.2.1 o.2.2.2.1 o.2.2.2.2), K (.exit 0) (sh28_1 a1 a0 o.2.1 o.2.2.1 o.2.2.2.1 o.2.2.2.2)]
def lb_typing_node_1 {A : Type} (an : An A) (rec28 : api_Env → api_Expr → Option (Int × Int)) (L : Nat) (a1 : api_Expr) (a0 : api_Env) (rec : Int → Int → List Int → Int → A) (out : Nat × (Int × Int × List Int × Int) → A) (v1_0 : Int) (v1_1 : Int) (v1_2 : List Int) (v1_5 : Int) : A :=
 (an.cn (decide (v1_5 < (a1.Kids.length : Int)))
 (an.gd ((0 : Int) ≤ v1_5)
 (an.gd (v1_5 < ((a1.Kids.length : Nat) : Int))
 (an.bd (rec28 a0 (api_Expr.cp (a1.Kids.getD (Int.toNat v1_5) default))) fun r1 =>
 (an.cn (r1.2 != 0)
 (an.lf out (0, (0, r1.2, v1_2, v1_5)))
 (an.gd ((v1_2.length + [r1.1].length) * 8 ≤ 140737488355328)
 (an.gd (v1_2.length + [r1.1].length ≤ maxLen)
 (rec v1_0 v1_1 (v1_2 ++ [r1.1]) (w64 (v1_5 + 1)))))))))
 (an.lf out (1, (v1_0, v1_1, v1_2, v1_5))))
def lp_typing_node_1 (rec28 : api_Env → api_Expr → Option (Int × Int)) (L : Nat) (a1 : api_Expr) (a0 : api_Env) : Nat → Int → Int → List Int → Int → Option (Nat × (Int × Int × List Int × Int))
  | 0, _, _, _, _ => none
  | n + 1, v1_0, v1_1, v1_2, v1_5 => lb_typing_node_1 (anO _) rec28 L a1 a0 (lp_typing_node_1 rec28 L a1 a0 n) some v1_0 v1_1 v1_2 v1_5
theorem ln28_1 (rec28 : api_Env → api_Expr → Option (Int × Int)) (L : Nat) (a1 : api_Expr) (a0 : api_Env) (g : Int → Int → List Int → Int → Option (Nat × (Int × Int × List Int × Int))) (Q : Nat × (Int × Int × List Int × Int) → Prop) (v1_0 : Int) (v1_1 : Int) (v1_2 : List Int) (v1_5 : Int) : lb_typing_node_1 anP rec28 L a1 a0 (fun v1_0 v1_1 v1_2 v1_5 => ob (g v1_0 v1_1 v1_2 v1_5) Q) Q v1_0 v1_1 v1_2 v1_5 = ob (lb_typing_node_1 (anO _) rec28 L a1 a0 g some v1_0 v1_1 v1_2 v1_5) Q := by
  unfold lb_typing_node_1
  dsimp only [anP, anO]
  try simp only [y1, y2, y3, y4, y5 Q, y6, y7, y8 Q, y9, z1, z2, z3, z4]
theorem le28_1 (rec28 : api_Env → api_Expr → Option (Int × Int)) (L : Nat) (a1 : api_Expr) (a0 : api_Env) (n : Nat) (v1_0 : Int) (v1_1 : Int) (v1_2 : List Int) (v1_5 : Int) (K : Ex → St → Prop) : loopN (EV (O28 rec28 L) L 9 c28.r.r.r.r.l.r.r.l.l) [0, 1, 2, 3, 4, 5, 6, 11, 12, 13, 15, 16, 17, 35, 49, 62, 72, 85, 89, 93] [2, 3] n (sh28_1 a1 a0 v1_0 v1_1 v1_2 v1_5) K = ob (lp_typing_node_1 rec28 L a1 a0 n v1_0 v1_1 v1_2 v1_5) (fun o => KK28_1 a1 a0 K o) := by
  induction n generalizing v1_0 v1_1 v1_2 v1_5 with
  | zero => rfl
  | succ n ih =>
    refine Eq.trans (b := lb_typing_node_1 anP rec28 L a1 a0 (fun v1_0 v1_1 v1_2 v1_5 => loopN (EV (O28 rec28 L) L 9 c28.r.r.r.r.l.r.r.l.l) [0, 1, 2, 3, 4, 5, 6, 11, 12, 13, 15, 16, 17, 35, 49, 62, 72, 85, 89, 93] [2, 3] n (sh28_1 a1 a0 v1_0 v1_1 v1_2 v1_5) K) (KK28_1 a1 a0 K) v1_0 v1_1 v1_2 v1_5) (by kernel_rfl) ?_
    simp only [ih]
    exact ln28_1 rec28 L a1 a0 (lp_typing_node_1 rec28 L a1 a0 n) (KK28_1 a1 a0 K) v1_0 v1_1 v1_2 v1_5
def kc28_1 (rec28 : api_Env → api_Expr → Option (Int × Int)) (L : Nat)  (kk : PV → Prop) : Ex → St → Prop := (kBlock 0 (kSeq (EV (O28 rec28 L) L 9 c28.r.r.r.r.r) (kEnd Tryz.prog (RS Tryz.f28) kk)))
theorem q28_1 (rec28 : api_Env → api_Expr → Option (Int × Int)) (L : Nat) (a1 : api_Expr) (a0 : api_Env) (kk : PV → Prop) (o1 : Nat × (Int × Int × List Int × Int)) : KK28_1 a1 a0 (kc28_1 rec28 L kk) o1 =
 (seln o1.1 [(ob (some (o1.2.1, o1.2.2.1)) (fun (x : (Int × Int)) => kk (.tup [I x.1, I x.2]))),
 (br (a1.Op == 3)
 (ob (F_typing_Find L a0 a1.Name) fun r2 =>
 (br (!r2.2)
 (ob (some (0, 5)) (fun (x : (Int × Int)) => kk (.tup [I x.1, I x.2])))
 (ob (some (r2.1, 0)) (fun (x : (Int × Int)) => kk (.tup [I x.1, I x.2])))))
 (br (decide (a1.Op ≥ 22))
 (ob (F_model_Kind L a0.Site a1.Name) fun r3 =>
 (ob (F_typing_object L a1.Op r3) fun r4 =>
 (br (!r4)
 (ob (some (0, 5)) (fun (x : (Int × Int)) => kk (.tup [I x.1, I x.2])))
 (ob (some (1, 0)) (fun (x : (Int × Int)) => kk (.tup [I x.1, I x.2]))))))
 (br ((o1.2.2.2.1.length : Int) == 1)
 (gd ((0 : Int) ≤ 0)
 (gd (0 < ((o1.2.2.2.1.length : Nat) : Int))
 (ob (F_typing_unary L a1.Op (o1.2.2.2.1.getD 0 default)) fun r5 =>
 (br (r5 == 0)
 (ob (some (0, 10)) (fun (x : (Int × Int)) => kk (.tup [I x.1, I x.2])))
 (ob (some (r5, 0)) (fun (x : (Int × Int)) => kk (.tup [I x.1, I x.2])))))))
 (br ((o1.2.2.2.1.length : Int) == 2)
 (gd ((0 : Int) ≤ 0)
 (gd (0 < ((o1.2.2.2.1.length : Nat) : Int))
 (gd ((0 : Int) ≤ 1)
 (gd (1 < ((o1.2.2.2.1.length : Nat) : Int))
 (ob (F_typing_binary L a1.Op (o1.2.2.2.1.getD 0 default) (o1.2.2.2.1.getD 1 default)) fun r6 =>
 (br (r6 == 0)
 (ob (some (0, 10)) (fun (x : (Int × Int)) => kk (.tup [I x.1, I x.2])))
 (ob (some (r6, 0)) (fun (x : (Int × Int)) => kk (.tup [I x.1, I x.2])))))))))
 (br (a1.Op == 1)
 (ob (some (1, 0)) (fun (x : (Int × Int)) => kk (.tup [I x.1, I x.2])))
 (br (a1.Op == 2)
 (ob (some (2, 0)) (fun (x : (Int × Int)) => kk (.tup [I x.1, I x.2])))
 (br (a1.Op == 4)
 (ob (some (3, 0)) (fun (x : (Int × Int)) => kk (.tup [I x.1, I x.2])))
 (ob (some (0, 10)) (fun (x : (Int × Int)) => kk (.tup [I x.1, I x.2]))))))))))]) := by kernel_rfl
def T_typing_node {A : Type} (an : An A) (rec28 : api_Env → api_Expr → Option (Int × Int)) (L : Nat) (a0 : api_Env) (a1 : api_Expr) (out : (Int × Int) → A) : A :=
 (an.bd (lp_typing_node_1 rec28 L a1 a0 L 0 0 [] 0) fun o1 =>
 (an.sl o1.1 [(an.lf out (o1.2.1, o1.2.2.1)),
 (an.cn (a1.Op == 3)
 (an.bd (F_typing_Find L a0 a1.Name) fun r2 =>
 (an.cn (!r2.2)
 (an.lf out (0, 5))
 (an.lf out (r2.1, 0))))
 (an.cn (decide (a1.Op ≥ 22))
 (an.bd (F_model_Kind L a0.Site a1.Name) fun r3 =>
 (an.bd (F_typing_object L a1.Op r3) fun r4 =>
 (an.cn (!r4)
 (an.lf out (0, 5))
 (an.lf out (1, 0)))))
 (an.cn ((o1.2.2.2.1.length : Int) == 1)
 (an.gd ((0 : Int) ≤ 0)
 (an.gd (0 < ((o1.2.2.2.1.length : Nat) : Int))
 (an.bd (F_typing_unary L a1.Op (o1.2.2.2.1.getD 0 default)) fun r5 =>
 (an.cn (r5 == 0)
 (an.lf out (0, 10))
 (an.lf out (r5, 0))))))
 (an.cn ((o1.2.2.2.1.length : Int) == 2)
 (an.gd ((0 : Int) ≤ 0)
 (an.gd (0 < ((o1.2.2.2.1.length : Nat) : Int))
 (an.gd ((0 : Int) ≤ 1)
 (an.gd (1 < ((o1.2.2.2.1.length : Nat) : Int))
 (an.bd (F_typing_binary L a1.Op (o1.2.2.2.1.getD 0 default) (o1.2.2.2.1.getD 1 default)) fun r6 =>
 (an.cn (r6 == 0)
 (an.lf out (0, 10))
 (an.lf out (r6, 0))))))))
 (an.cn (a1.Op == 1)
 (an.lf out (1, 0))
 (an.cn (a1.Op == 2)
 (an.lf out (2, 0))
 (an.cn (a1.Op == 4)
 (an.lf out (3, 0))
 (an.lf out (0, 10)))))))))]))
def B_typing_node (rec28 : api_Env → api_Expr → Option (Int × Int)) (L : Nat) (a0 : api_Env) (a1 : api_Expr) : Option (Int × Int) := T_typing_node (anO _) rec28 L a0 a1 some
theorem e28 (rec28 : api_Env → api_Expr → Option (Int × Int)) (L : Nat) (a0 : api_Env) (a1 : api_Expr) (kk : PV → Prop) : EW (O28 rec28 L) L 9 (RS Tryz.f28) c28 [.agg (enapi_Env a0), .agg (enapi_Expr a1)] kk = ob (B_typing_node rec28 L a0 a1) (fun (x : (Int × Int)) => kk (.tup [I x.1, I x.2])) := by
  refine Eq.trans (b := T_typing_node anP rec28 L a0 a1 (fun (x : (Int × Int)) => kk (.tup [I x.1, I x.2]))) ?_ ?_
  · refine Eq.trans (b := (loopN (EV (O28 rec28 L) L 9 c28.r.r.r.r.l.r.r.l.l) [0, 1, 2, 3, 4, 5, 6, 11, 12, 13, 15, 16, 17, 35, 49, 62, 72, 85, 89, 93] [2, 3] L (sh28_1 a1 a0 0 0 [] 0) (kc28_1 rec28 L kk))) (by kernel_rfl) ?_
    unfold T_typing_node
    dsimp only [anP]
    simp only [le28_1, q28_1]
  generalize (fun (x : (Int × Int)) => kk (.tup [I x.1, I x.2])) = Q
  unfold B_typing_node T_typing_node
  dsimp only [anP, anO]
  try simp only [y1, y2, y3, y4, y5 Q, y6, y7, y8 Q, y9, z1, z2, z3, z4]
theorem b28 (rec28 : api_Env → api_Expr → Option (Int × Int)) (hr28 : ∀ (y0 : api_Env) (y1 : api_Expr) (r : (Int × Int)), rec28 y0 y1 = some r → Holds Tryz.prog 28 [.agg (enapi_Env y0), .agg (enapi_Expr y1)] (.tup [I r.1, I r.2])) (L : Nat) (a0 : api_Env) (a1 : api_Expr) (r : (Int × Int)) (h : B_typing_node rec28 L a0 a1 = some r) : Holds Tryz.prog 28 [.agg (enapi_Env a0), .agg (enapi_Expr a1)] (.tup [I r.1, I r.2]) :=
  hE grwOK (s28 rec28 hr28 L) mixed Tryz.func28 (by kernel_rfl : cFn Tryz.prog inl Tryz.f28 = some c28) (er := fun (x : (Int × Int)) => .tup [I x.1, I x.2]) (by kernel_rfl) (e28 rec28 L a0 a1) h
def F_typing_node : Nat → api_Env → api_Expr → Option (Int × Int)
  | 0, _, _ => none
  | L + 1, a0, a1 => B_typing_node (F_typing_node L) L a0 a1
theorem hall28 : ∀ L, (∀ (y0 : api_Env) (y1 : api_Expr) (r : (Int × Int)), F_typing_node L y0 y1 = some r → Holds Tryz.prog 28 [.agg (enapi_Env y0), .agg (enapi_Expr y1)] (.tup [I r.1, I r.2])) := by
  intro L
  induction L with
  | zero => exact fun _ _ r h => (by cases h)
  | succ L ih =>
    have i28 := ih
    exact fun y0 y1 r h => b28 (F_typing_node L) i28 L y0 y1 r h
theorem h28 (L : Nat) : ∀ (y0 : api_Env) (y1 : api_Expr) (r : (Int × Int)), F_typing_node L y0 y1 = some r → Holds Tryz.prog 28 [.agg (enapi_Env y0), .agg (enapi_Expr y1)] (.tup [I r.1, I r.2]) := hall28 L
/-! ### simulator/typing.Expr -/
noncomputable def c13 : EC := (cFn Tryz.prog inl Tryz.f13).getD .stop
def O13  (L : Nat) : Oracle := (orc 23 (A1 (fun (x : Int) => I x) ca_api_Expr (F_expr_Check L)) (orc 28 (A2 (fun (x : (Int × Int)) => .tup [I x.1, I x.2]) ca_api_Env ca_api_Expr (F_typing_node L)) noC))
theorem s13   (L : Nat) : SoundC Tryz.prog (O13 L) := (orc_sound (a1 _ (h23 L)) (orc_sound (a2 _ (h28 L)) (noC_sound Tryz.prog)))
def T_typing_Expr {A : Type} (an : An A)  (L : Nat) (a0 : api_Env) (a1 : api_Expr) (out : (Int × Int) → A) : A :=
 (an.bd (F_expr_Check L (api_Expr.cp a1)) fun r1 =>
 (an.cn (r1 != 0)
 (an.lf out (0, r1))
 (an.bd (F_typing_node L a0 (api_Expr.cp a1)) fun r2 =>
 (an.lf out (r2.1, r2.2)))))
def F_typing_Expr  (L : Nat) (a0 : api_Env) (a1 : api_Expr) : Option (Int × Int) := T_typing_Expr (anO _) L a0 a1 some
theorem e13  (L : Nat) (a0 : api_Env) (a1 : api_Expr) (kk : PV → Prop) : EW (O13 L) L 9 (RS Tryz.f13) c13 [.agg (enapi_Env a0), .agg (enapi_Expr a1)] kk = ob (F_typing_Expr L a0 a1) (fun (x : (Int × Int)) => kk (.tup [I x.1, I x.2])) := by
  refine Eq.trans (b := T_typing_Expr anP L a0 a1 (fun (x : (Int × Int)) => kk (.tup [I x.1, I x.2]))) (by kernel_rfl) ?_
  generalize (fun (x : (Int × Int)) => kk (.tup [I x.1, I x.2])) = Q
  unfold F_typing_Expr T_typing_Expr
  dsimp only [anP, anO]
  try simp only [y1, y2, y3, y4, y5 Q, y6, y7, y8 Q, y9, z1, z2, z3, z4]
theorem h13   (L : Nat) (a0 : api_Env) (a1 : api_Expr) (r : (Int × Int)) (h : F_typing_Expr L a0 a1 = some r) : Holds Tryz.prog 13 [.agg (enapi_Env a0), .agg (enapi_Expr a1)] (.tup [I r.1, I r.2]) :=
  hE grwOK (s13  L) mixed Tryz.func13 (by kernel_rfl : cFn Tryz.prog inl Tryz.f13 = some c13) (er := fun (x : (Int × Int)) => .tup [I x.1, I x.2]) (by kernel_rfl) (e13 L a0 a1) h
/-! ### simulator/num.Clip -/
noncomputable def c102 : EC := (cFn Tryz.prog inl Tryz.f102).getD .stop
def O102  (L : Nat) : Oracle := noC
theorem s102   (L : Nat) : SoundC Tryz.prog (O102 L) := (noC_sound Tryz.prog)
def T_num_Clip {A : Type} (an : An A)  (L : Nat) (a0 : Int) (out : Int → A) : A :=
 (an.lf out (if (if 1000000000000 < a0 then 1000000000000 else a0) > (-1000000000000) then (if 1000000000000 < a0 then 1000000000000 else a0) else (-1000000000000)))
def F_num_Clip  (L : Nat) (a0 : Int) : Option Int := T_num_Clip (anO _) L a0 some
theorem e102  (L : Nat) (a0 : Int) (kk : PV → Prop) : EW (O102 L) L 9 (RS Tryz.f102) c102 [I a0] kk = ob (F_num_Clip L a0) (fun (x : Int) => kk (I x)) := by
  refine Eq.trans (b := T_num_Clip anP L a0 (fun (x : Int) => kk (I x))) (by kernel_rfl) ?_
  generalize (fun (x : Int) => kk (I x)) = Q
  unfold F_num_Clip T_num_Clip
  dsimp only [anP, anO]
  try simp only [y1, y2, y3, y4, y5 Q, y6, y7, y8 Q, y9, z1, z2, z3, z4]
theorem h102   (L : Nat) (a0 : Int) (r : Int) (h : F_num_Clip L a0 = some r) : Holds Tryz.prog 102 [I a0] (I r) :=
  hE grwOK (s102  L) mixed Tryz.func102 (by kernel_rfl : cFn Tryz.prog inl Tryz.f102 = some c102) (er := fun (x : Int) => I x) (by kernel_rfl) (e102 L a0) h
/-! ### simulator/eval.negated -/
noncomputable def c64 : EC := (cFn Tryz.prog inl Tryz.f64).getD .stop
def O64  (L : Nat) : Oracle := (orc 102 (A1 (fun (x : Int) => I x) (cI .i64) (F_num_Clip L)) noC)
theorem s64   (L : Nat) : SoundC Tryz.prog (O64 L) := (orc_sound (a1 _ (h102 L)) (noC_sound Tryz.prog))
def T_eval_negated {A : Type} (an : An A)  (L : Nat) (a0 : Int) (out : Int → A) : A :=
 (an.bd (F_num_Clip L a0) fun r1 =>
 (an.lf out (w64 (0 - r1))))
def F_eval_negated  (L : Nat) (a0 : Int) : Option Int := T_eval_negated (anO _) L a0 some
theorem e64  (L : Nat) (a0 : Int) (kk : PV → Prop) : EW (O64 L) L 9 (RS Tryz.f64) c64 [I a0] kk = ob (F_eval_negated L a0) (fun (x : Int) => kk (I x)) := by
  refine Eq.trans (b := T_eval_negated anP L a0 (fun (x : Int) => kk (I x))) (by kernel_rfl) ?_
  generalize (fun (x : Int) => kk (I x)) = Q
  unfold F_eval_negated T_eval_negated
  dsimp only [anP, anO]
  try simp only [y1, y2, y3, y4, y5 Q, y6, y7, y8 Q, y9, z1, z2, z3, z4]
theorem h64   (L : Nat) (a0 : Int) (r : Int) (h : F_eval_negated L a0 = some r) : Holds Tryz.prog 64 [I a0] (I r) :=
  hE grwOK (s64  L) mixed Tryz.func64 (by kernel_rfl : cFn Tryz.prog inl Tryz.f64 = some c64) (er := fun (x : Int) => I x) (by kernel_rfl) (e64 L a0) h
/-! ### simulator/eval.truth -/
noncomputable def c65 : EC := (cFn Tryz.prog inl Tryz.f65).getD .stop
def O65  (L : Nat) : Oracle := noC
theorem s65   (L : Nat) : SoundC Tryz.prog (O65 L) := (noC_sound Tryz.prog)
def T_eval_truth {A : Type} (an : An A)  (L : Nat) (a0 : Bool) (out : Int → A) : A :=
 (an.cn a0
 (an.lf out 1)
 (an.lf out 0))
def F_eval_truth  (L : Nat) (a0 : Bool) : Option Int := T_eval_truth (anO _) L a0 some
theorem e65  (L : Nat) (a0 : Bool) (kk : PV → Prop) : EW (O65 L) L 9 (RS Tryz.f65) c65 [B a0] kk = ob (F_eval_truth L a0) (fun (x : Int) => kk (I x)) := by
  refine Eq.trans (b := T_eval_truth anP L a0 (fun (x : Int) => kk (I x))) (by kernel_rfl) ?_
  generalize (fun (x : Int) => kk (I x)) = Q
  unfold F_eval_truth T_eval_truth
  dsimp only [anP, anO]
  try simp only [y1, y2, y3, y4, y5 Q, y6, y7, y8 Q, y9, z1, z2, z3, z4]
theorem h65   (L : Nat) (a0 : Bool) (r : Int) (h : F_eval_truth L a0 = some r) : Holds Tryz.prog 65 [B a0] (I r) :=
  hE grwOK (s65  L) mixed Tryz.func65 (by kernel_rfl : cFn Tryz.prog inl Tryz.f65 = some c65) (er := fun (x : Int) => I x) (by kernel_rfl) (e65 L a0) h
/-! ### simulator/eval.Unary -/
noncomputable def c42 : EC := (cFn Tryz.prog inl Tryz.f42).getD .stop
def O42  (L : Nat) : Oracle := (orc 64 (A1 (fun (x : Int) => I x) (cI .i64) (F_eval_negated L)) (orc 65 (A1 (fun (x : Int) => I x) cB (F_eval_truth L)) noC))
theorem s42   (L : Nat) : SoundC Tryz.prog (O42 L) := (orc_sound (a1 _ (h64 L)) (orc_sound (a1 _ (h65 L)) (noC_sound Tryz.prog)))
def T_eval_Unary {A : Type} (an : An A)  (L : Nat) (a0 : Int) (a1 : Int) (out : Int → A) : A :=
 (an.cn (a0 == 5)
 (an.bd (F_eval_negated L a1) fun r1 =>
 (an.lf out r1))
 (an.cn (a0 == 6)
 (an.bd (F_eval_truth L (a1 == 0)) fun r2 =>
 (an.lf out r2))
 (an.cn (a0 == 7)
 (an.cn (a0 == 7)
 (an.lf out a1)
 (an.lf out 0))
 (an.cn (a0 == 8)
 (an.lf out a1)
 (an.lf out 0)))))
def F_eval_Unary  (L : Nat) (a0 : Int) (a1 : Int) : Option Int := T_eval_Unary (anO _) L a0 a1 some
theorem e42  (L : Nat) (a0 : Int) (a1 : Int) (kk : PV → Prop) : EW (O42 L) L 9 (RS Tryz.f42) c42 [I a0, I a1] kk = ob (F_eval_Unary L a0 a1) (fun (x : Int) => kk (I x)) := by
  refine Eq.trans (b := T_eval_Unary anP L a0 a1 (fun (x : Int) => kk (I x))) (by kernel_rfl) ?_
  generalize (fun (x : Int) => kk (I x)) = Q
  unfold F_eval_Unary T_eval_Unary
  dsimp only [anP, anO]
  try simp only [y1, y2, y3, y4, y5 Q, y6, y7, y8 Q, y9, z1, z2, z3, z4]
theorem h42   (L : Nat) (a0 : Int) (a1 : Int) (r : Int) (h : F_eval_Unary L a0 a1 = some r) : Holds Tryz.prog 42 [I a0, I a1] (I r) :=
  hE grwOK (s42  L) mixed Tryz.func42 (by kernel_rfl : cFn Tryz.prog inl Tryz.f42 = some c42) (er := fun (x : Int) => I x) (by kernel_rfl) (e42 L a0 a1) h
/-! ### simulator/expr.Const -/
noncomputable def c41 : EC := (cFn Tryz.prog inl Tryz.f41).getD .stop
def O41  (L : Nat) : Oracle := noC
theorem s41   (L : Nat) : SoundC Tryz.prog (O41 L) := (noC_sound Tryz.prog)
def T_expr_Const {A : Type} (an : An A)  (L : Nat) (a0 : Int) (a1 : Int) (out : api_Expr → A) : A :=
 (an.cn (a0 == 1)
 (an.lf out (api_Expr.mk 1 (⟨#[]⟩ : ByteArray) a1 []))
 (an.cn (a0 == 2)
 (an.cn (a1 != 0)
 (an.lf out (api_Expr.mk 2 (⟨#[]⟩ : ByteArray) 1 []))
 (an.lf out (api_Expr.mk 2 (⟨#[]⟩ : ByteArray) a1 [])))
 (an.cn (a0 == 3)
 (an.lf out (api_Expr.mk 7 (⟨#[]⟩ : ByteArray) 0 [(api_Expr.mk 1 (⟨#[]⟩ : ByteArray) a1 [])]))
 (an.lf out (api_Expr.mk 0 (⟨#[]⟩ : ByteArray) 0 [])))))
def F_expr_Const  (L : Nat) (a0 : Int) (a1 : Int) : Option api_Expr := T_expr_Const (anO _) L a0 a1 some
theorem e41  (L : Nat) (a0 : Int) (a1 : Int) (kk : PV → Prop) : EW (O41 L) L 9 (RS Tryz.f41) c41 [I a0, I a1] kk = ob (F_expr_Const L a0 a1) (fun (x : api_Expr) => kk (.agg (enapi_Expr x))) := by
  refine Eq.trans (b := T_expr_Const anP L a0 a1 (fun (x : api_Expr) => kk (.agg (enapi_Expr x)))) (by kernel_rfl) ?_
  generalize (fun (x : api_Expr) => kk (.agg (enapi_Expr x))) = Q
  unfold F_expr_Const T_expr_Const
  dsimp only [anP, anO]
  try simp only [y1, y2, y3, y4, y5 Q, y6, y7, y8 Q, y9, z1, z2, z3, z4]
theorem h41   (L : Nat) (a0 : Int) (a1 : Int) (r : api_Expr) (h : F_expr_Const L a0 a1 = some r) : Holds Tryz.prog 41 [I a0, I a1] (.agg (enapi_Expr r)) :=
  hE grwOK (s41  L) mixed Tryz.func41 (by kernel_rfl : cFn Tryz.prog inl Tryz.f41 = some c41) (er := fun (x : api_Expr) => .agg (enapi_Expr x)) (by kernel_rfl) (e41 L a0 a1) h
/-! ### simulator/num.Add -/
noncomputable def c66 : EC := (cFn Tryz.prog inl Tryz.f66).getD .stop
def O66  (L : Nat) : Oracle := (orc 102 (A1 (fun (x : Int) => I x) (cI .i64) (F_num_Clip L)) noC)
theorem s66   (L : Nat) : SoundC Tryz.prog (O66 L) := (orc_sound (a1 _ (h102 L)) (noC_sound Tryz.prog))
def T_num_Add {A : Type} (an : An A)  (L : Nat) (a0 : Int) (a1 : Int) (out : Int → A) : A :=
 (an.bd (F_num_Clip L a0) fun r1 =>
 (an.bd (F_num_Clip L a1) fun r2 =>
 (an.bd (F_num_Clip L (w64 (r1 + r2))) fun r3 =>
 (an.lf out r3))))
def F_num_Add  (L : Nat) (a0 : Int) (a1 : Int) : Option Int := T_num_Add (anO _) L a0 a1 some
theorem e66  (L : Nat) (a0 : Int) (a1 : Int) (kk : PV → Prop) : EW (O66 L) L 9 (RS Tryz.f66) c66 [I a0, I a1] kk = ob (F_num_Add L a0 a1) (fun (x : Int) => kk (I x)) := by
  refine Eq.trans (b := T_num_Add anP L a0 a1 (fun (x : Int) => kk (I x))) (by kernel_rfl) ?_
  generalize (fun (x : Int) => kk (I x)) = Q
  unfold F_num_Add T_num_Add
  dsimp only [anP, anO]
  try simp only [y1, y2, y3, y4, y5 Q, y6, y7, y8 Q, y9, z1, z2, z3, z4]
theorem h66   (L : Nat) (a0 : Int) (a1 : Int) (r : Int) (h : F_num_Add L a0 a1 = some r) : Holds Tryz.prog 66 [I a0, I a1] (I r) :=
  hE grwOK (s66  L) mixed Tryz.func66 (by kernel_rfl : cFn Tryz.prog inl Tryz.f66 = some c66) (er := fun (x : Int) => I x) (by kernel_rfl) (e66 L a0 a1) h
/-! ### simulator/num.size -/
noncomputable def c104 : EC := (cFn Tryz.prog inl Tryz.f104).getD .stop
def O104  (L : Nat) : Oracle := noC
theorem s104   (L : Nat) : SoundC Tryz.prog (O104 L) := (noC_sound Tryz.prog)
def T_num_size {A : Type} (an : An A)  (L : Nat) (a0 : Int) (out : Int → A) : A :=
 (an.lf out (if (w64 (0 - a0)) > a0 then (w64 (0 - a0)) else a0))
def F_num_size  (L : Nat) (a0 : Int) : Option Int := T_num_size (anO _) L a0 some
theorem e104  (L : Nat) (a0 : Int) (kk : PV → Prop) : EW (O104 L) L 9 (RS Tryz.f104) c104 [I a0] kk = ob (F_num_size L a0) (fun (x : Int) => kk (I x)) := by
  refine Eq.trans (b := T_num_size anP L a0 (fun (x : Int) => kk (I x))) (by kernel_rfl) ?_
  generalize (fun (x : Int) => kk (I x)) = Q
  unfold F_num_size T_num_size
  dsimp only [anP, anO]
  try simp only [y1, y2, y3, y4, y5 Q, y6, y7, y8 Q, y9, z1, z2, z3, z4]
theorem h104   (L : Nat) (a0 : Int) (r : Int) (h : F_num_size L a0 = some r) : Holds Tryz.prog 104 [I a0] (I r) :=
  hE grwOK (s104  L) mixed Tryz.func104 (by kernel_rfl : cFn Tryz.prog inl Tryz.f104 = some c104) (er := fun (x : Int) => I x) (by kernel_rfl) (e104 L a0) h
/-! ### math/bits.Mul64 -/
noncomputable def c103 : EC := (cFn Tryz.prog inl Tryz.f103).getD .stop
def O103  (L : Nat) : Oracle := noC
theorem s103   (L : Nat) : SoundC Tryz.prog (O103 L) := (noC_sound Tryz.prog)
def T_bits_Mul64 {A : Type} (an : An A)  (L : Nat) (a0 : Int) (a1 : Int) (out : (Int × Int) → A) : A :=
 (an.lf out ((IntKind.wrap .u64 ((IntKind.wrap .u64 ((IntKind.wrap .u64 ((Int.fdiv a0 (2 ^ 32)) * (Int.fdiv a1 (2 ^ 32)))) + (Int.fdiv (IntKind.wrap .u64 ((IntKind.wrap .u64 ((Int.fdiv a0 (2 ^ 32)) * (IntKind.wrap .u64 (((BitVec.ofInt 64 a1 &&& BitVec.ofInt 64 4294967295).toNat : Int))))) + (Int.fdiv (IntKind.wrap .u64 ((IntKind.wrap .u64 (((BitVec.ofInt 64 a0 &&& BitVec.ofInt 64 4294967295).toNat : Int))) * (IntKind.wrap .u64 (((BitVec.ofInt 64 a1 &&& BitVec.ofInt 64 4294967295).toNat : Int))))) (2 ^ 32)))) (2 ^ 32)))) + (Int.fdiv (IntKind.wrap .u64 ((IntKind.wrap .u64 (((BitVec.ofInt 64 (IntKind.wrap .u64 ((IntKind.wrap .u64 ((Int.fdiv a0 (2 ^ 32)) * (IntKind.wrap .u64 (((BitVec.ofInt 64 a1 &&& BitVec.ofInt 64 4294967295).toNat : Int))))) + (Int.fdiv (IntKind.wrap .u64 ((IntKind.wrap .u64 (((BitVec.ofInt 64 a0 &&& BitVec.ofInt 64 4294967295).toNat : Int))) * (IntKind.wrap .u64 (((BitVec.ofInt 64 a1 &&& BitVec.ofInt 64 4294967295).toNat : Int))))) (2 ^ 32)))) &&& BitVec.ofInt 64 4294967295).toNat : Int))) + (IntKind.wrap .u64 ((IntKind.wrap .u64 (((BitVec.ofInt 64 a0 &&& BitVec.ofInt 64 4294967295).toNat : Int))) * (Int.fdiv a1 (2 ^ 32)))))) (2 ^ 32)))), (IntKind.wrap .u64 (a0 * a1))))
def F_bits_Mul64  (L : Nat) (a0 : Int) (a1 : Int) : Option (Int × Int) := T_bits_Mul64 (anO _) L a0 a1 some
theorem e103  (L : Nat) (a0 : Int) (a1 : Int) (kk : PV → Prop) : EW (O103 L) L 9 (RS Tryz.f103) c103 [V .u64 a0, V .u64 a1] kk = ob (F_bits_Mul64 L a0 a1) (fun (x : (Int × Int)) => kk (.tup [V .u64 x.1, V .u64 x.2])) := by
  refine Eq.trans (b := T_bits_Mul64 anP L a0 a1 (fun (x : (Int × Int)) => kk (.tup [V .u64 x.1, V .u64 x.2]))) (by kernel_rfl) ?_
  generalize (fun (x : (Int × Int)) => kk (.tup [V .u64 x.1, V .u64 x.2])) = Q
  unfold F_bits_Mul64 T_bits_Mul64
  dsimp only [anP, anO]
  try simp only [y1, y2, y3, y4, y5 Q, y6, y7, y8 Q, y9, z1, z2, z3, z4]
theorem h103   (L : Nat) (a0 : Int) (a1 : Int) (r : (Int × Int)) (h : F_bits_Mul64 L a0 a1 = some r) : Holds Tryz.prog 103 [V .u64 a0, V .u64 a1] (.tup [V .u64 r.1, V .u64 r.2]) :=
  hE grwOK (s103  L) mixed Tryz.func103 (by kernel_rfl : cFn Tryz.prog inl Tryz.f103 = some c103) (er := fun (x : (Int × Int)) => .tup [V .u64 x.1, V .u64 x.2]) (by kernel_rfl) (e103 L a0 a1) h
/-! ### simulator/num.Mul -/
noncomputable def c67 : EC := (cFn Tryz.prog inl Tryz.f67).getD .stop
def O67  (L : Nat) : Oracle := (orc 102 (A1 (fun (x : Int) => I x) (cI .i64) (F_num_Clip L)) (orc 103 (A2 (fun (x : (Int × Int)) => .tup [V .u64 x.1, V .u64 x.2]) (cI .u64) (cI .u64) (F_bits_Mul64 L)) (orc 104 (A1 (fun (x : Int) => I x) (cI .i64) (F_num_size L)) noC)))
theorem s67   (L : Nat) : SoundC Tryz.prog (O67 L) := (orc_sound (a1 _ (h102 L)) (orc_sound (a2 _ (h103 L)) (orc_sound (a1 _ (h104 L)) (noC_sound Tryz.prog))))
def T_num_Mul {A : Type} (an : An A)  (L : Nat) (a0 : Int) (a1 : Int) (out : Int → A) : A :=
 (an.bd (F_num_Clip L a0) fun r1 =>
 (an.bd (F_num_Clip L a1) fun r2 =>
 (an.bd (F_num_size L r1) fun r3 =>
 (an.bd (F_num_size L r2) fun r4 =>
 (an.bd (F_bits_Mul64 L (IntKind.wrap .u64 (r3)) (IntKind.wrap .u64 (r4))) fun r5 =>
 (an.jp (bif (r5.1 == 0) then (decide (r5.2 < 1000000000000))
 else false) (fun j => (an.cn (r5.1 == 0)
 (an.ap j (decide (r5.2 < 1000000000000)))
 (an.ap j false))) (fun b6 =>
 (an.cn b6
 (an.cn (!((decide (r1 < 0)) == (decide (r2 < 0))))
 (an.lf out (w64 (0 - (w64 (r5.2)))))
 (an.lf out (w64 (r5.2))))
 (an.cn (!((decide (r1 < 0)) == (decide (r2 < 0))))
 (an.lf out (-1000000000000))
 (an.lf out 1000000000000))))))))))
def F_num_Mul  (L : Nat) (a0 : Int) (a1 : Int) : Option Int := T_num_Mul (anO _) L a0 a1 some
theorem e67  (L : Nat) (a0 : Int) (a1 : Int) (kk : PV → Prop) : EW (O67 L) L 9 (RS Tryz.f67) c67 [I a0, I a1] kk = ob (F_num_Mul L a0 a1) (fun (x : Int) => kk (I x)) := by
  refine Eq.trans (b := T_num_Mul anP L a0 a1 (fun (x : Int) => kk (I x))) (by kernel_rfl) ?_
  generalize (fun (x : Int) => kk (I x)) = Q
  unfold F_num_Mul T_num_Mul
  dsimp only [anP, anO]
  try simp only [y1, y2, y3, y4, y5 Q, y6, y7, y8 Q, y9, z1, z2, z3, z4]
theorem h67   (L : Nat) (a0 : Int) (a1 : Int) (r : Int) (h : F_num_Mul L a0 a1 = some r) : Holds Tryz.prog 67 [I a0, I a1] (I r) :=
  hE grwOK (s67  L) mixed Tryz.func67 (by kernel_rfl : cFn Tryz.prog inl Tryz.f67 = some c67) (er := fun (x : Int) => I x) (by kernel_rfl) (e67 L a0 a1) h
/-! ### simulator/num.Div -/
noncomputable def c68 : EC := (cFn Tryz.prog inl Tryz.f68).getD .stop
def O68  (L : Nat) : Oracle := (orc 102 (A1 (fun (x : Int) => I x) (cI .i64) (F_num_Clip L)) noC)
theorem s68   (L : Nat) : SoundC Tryz.prog (O68 L) := (orc_sound (a1 _ (h102 L)) (noC_sound Tryz.prog))
def T_num_Div {A : Type} (an : An A)  (L : Nat) (a0 : Int) (a1 : Int) (out : Int → A) : A :=
 (an.bd (F_num_Clip L a0) fun r1 =>
 (an.bd (F_num_Clip L a1) fun r2 =>
 (an.cn (r2 == 0)
 (an.lf out 0)
 (an.cn (!decide (r2 = 0))
 (an.cn (!decide (r2 = 0))
 (an.jp (bif ((Int.tmod r1 r2) != 0) then (!((decide (r1 < 0)) == (decide (r2 < 0))))
 else false) (fun j => (an.cn ((Int.tmod r1 r2) != 0)
 (an.ap j (!((decide (r1 < 0)) == (decide (r2 < 0)))))
 (an.ap j false))) (fun b3 =>
 (an.cn b3
 (an.lf out (w64 ((w64 (Int.tdiv r1 r2)) - 1)))
 (an.lf out (w64 (Int.tdiv r1 r2))))))
 an.fl)
 an.fl))))
def F_num_Div  (L : Nat) (a0 : Int) (a1 : Int) : Option Int := T_num_Div (anO _) L a0 a1 some
theorem e68  (L : Nat) (a0 : Int) (a1 : Int) (kk : PV → Prop) : EW (O68 L) L 9 (RS Tryz.f68) c68 [I a0, I a1] kk = ob (F_num_Div L a0 a1) (fun (x : Int) => kk (I x)) := by
  refine Eq.trans (b := T_num_Div anP L a0 a1 (fun (x : Int) => kk (I x))) (by kernel_rfl) ?_
  generalize (fun (x : Int) => kk (I x)) = Q
  unfold F_num_Div T_num_Div
  dsimp only [anP, anO]
  try simp only [y1, y2, y3, y4, y5 Q, y6, y7, y8 Q, y9, z1, z2, z3, z4]
theorem h68   (L : Nat) (a0 : Int) (a1 : Int) (r : Int) (h : F_num_Div L a0 a1 = some r) : Holds Tryz.prog 68 [I a0, I a1] (I r) :=
  hE grwOK (s68  L) mixed Tryz.func68 (by kernel_rfl : cFn Tryz.prog inl Tryz.f68 = some c68) (er := fun (x : Int) => I x) (by kernel_rfl) (e68 L a0 a1) h
/-! ### simulator/num.Mod -/
noncomputable def c69 : EC := (cFn Tryz.prog inl Tryz.f69).getD .stop
def O69  (L : Nat) : Oracle := (orc 68 (A2 (fun (x : Int) => I x) (cI .i64) (cI .i64) (F_num_Div L)) (orc 102 (A1 (fun (x : Int) => I x) (cI .i64) (F_num_Clip L)) noC))
theorem s69   (L : Nat) : SoundC Tryz.prog (O69 L) := (orc_sound (a2 _ (h68 L)) (orc_sound (a1 _ (h102 L)) (noC_sound Tryz.prog)))
def T_num_Mod {A : Type} (an : An A)  (L : Nat) (a0 : Int) (a1 : Int) (out : Int → A) : A :=
 (an.bd (F_num_Clip L a0) fun r1 =>
 (an.bd (F_num_Clip L a1) fun r2 =>
 (an.bd (F_num_Div L r1 r2) fun r3 =>
 (an.lf out (w64 (r1 - (w64 (r2 * r3))))))))
def F_num_Mod  (L : Nat) (a0 : Int) (a1 : Int) : Option Int := T_num_Mod (anO _) L a0 a1 some
theorem e69  (L : Nat) (a0 : Int) (a1 : Int) (kk : PV → Prop) : EW (O69 L) L 9 (RS Tryz.f69) c69 [I a0, I a1] kk = ob (F_num_Mod L a0 a1) (fun (x : Int) => kk (I x)) := by
  refine Eq.trans (b := T_num_Mod anP L a0 a1 (fun (x : Int) => kk (I x))) (by kernel_rfl) ?_
  generalize (fun (x : Int) => kk (I x)) = Q
  unfold F_num_Mod T_num_Mod
  dsimp only [anP, anO]
  try simp only [y1, y2, y3, y4, y5 Q, y6, y7, y8 Q, y9, z1, z2, z3, z4]
theorem h69   (L : Nat) (a0 : Int) (a1 : Int) (r : Int) (h : F_num_Mod L a0 a1 = some r) : Holds Tryz.prog 69 [I a0, I a1] (I r) :=
  hE grwOK (s69  L) mixed Tryz.func69 (by kernel_rfl : cFn Tryz.prog inl Tryz.f69 = some c69) (er := fun (x : Int) => I x) (by kernel_rfl) (e69 L a0 a1) h
/-! ### simulator/eval.holds -/
noncomputable def c70 : EC := (cFn Tryz.prog inl Tryz.f70).getD .stop
def O70  (L : Nat) : Oracle := noC
theorem s70   (L : Nat) : SoundC Tryz.prog (O70 L) := (noC_sound Tryz.prog)
def T_eval_holds {A : Type} (an : An A)  (L : Nat) (a0 : Int) (a1 : Int) (a2 : Int) (out : Bool → A) : A :=
 (an.cn (a0 == 14)
 (an.lf out (a1 == a2))
 (an.cn (a0 == 15)
 (an.lf out (a1 != a2))
 (an.cn (a0 == 16)
 (an.lf out (decide (a1 < a2)))
 (an.cn (a0 == 17)
 (an.lf out (decide (a1 ≤ a2)))
 (an.cn (a0 == 18)
 (an.jp (bif (a1 != 0) then (a2 != 0)
 else false) (fun j => (an.cn (a1 != 0)
 (an.ap j (a2 != 0))
 (an.ap j false))) (fun b1 =>
 (an.lf out b1)))
 (an.cn (a0 == 19)
 (an.jp (bif (a1 != 0) then true
 else (a2 != 0)) (fun j => (an.cn (a1 != 0)
 (an.ap j true)
 (an.ap j (a2 != 0)))) (fun b2 =>
 (an.lf out b2)))
 (an.lf out false)))))))
def F_eval_holds  (L : Nat) (a0 : Int) (a1 : Int) (a2 : Int) : Option Bool := T_eval_holds (anO _) L a0 a1 a2 some
theorem e70  (L : Nat) (a0 : Int) (a1 : Int) (a2 : Int) (kk : PV → Prop) : EW (O70 L) L 9 (RS Tryz.f70) c70 [I a0, I a1, I a2] kk = ob (F_eval_holds L a0 a1 a2) (fun (x : Bool) => kk (B x)) := by
  refine Eq.trans (b := T_eval_holds anP L a0 a1 a2 (fun (x : Bool) => kk (B x))) (by kernel_rfl) ?_
  generalize (fun (x : Bool) => kk (B x)) = Q
  unfold F_eval_holds T_eval_holds
  dsimp only [anP, anO]
  try simp only [y1, y2, y3, y4, y5 Q, y6, y7, y8 Q, y9, z1, z2, z3, z4]
theorem h70   (L : Nat) (a0 : Int) (a1 : Int) (a2 : Int) (r : Bool) (h : F_eval_holds L a0 a1 a2 = some r) : Holds Tryz.prog 70 [I a0, I a1, I a2] (B r) :=
  hE grwOK (s70  L) mixed Tryz.func70 (by kernel_rfl : cFn Tryz.prog inl Tryz.f70 = some c70) (er := fun (x : Bool) => B x) (by kernel_rfl) (e70 L a0 a1 a2) h
/-! ### simulator/eval.Binary -/
noncomputable def c43 : EC := (cFn Tryz.prog inl Tryz.f43).getD .stop
def O43  (L : Nat) : Oracle := (orc 64 (A1 (fun (x : Int) => I x) (cI .i64) (F_eval_negated L)) (orc 65 (A1 (fun (x : Int) => I x) cB (F_eval_truth L)) (orc 66 (A2 (fun (x : Int) => I x) (cI .i64) (cI .i64) (F_num_Add L)) (orc 67 (A2 (fun (x : Int) => I x) (cI .i64) (cI .i64) (F_num_Mul L)) (orc 68 (A2 (fun (x : Int) => I x) (cI .i64) (cI .i64) (F_num_Div L)) (orc 69 (A2 (fun (x : Int) => I x) (cI .i64) (cI .i64) (F_num_Mod L)) (orc 70 (A3 (fun (x : Bool) => B x) (cI .i64) (cI .i64) (cI .i64) (F_eval_holds L)) noC)))))))
theorem s43   (L : Nat) : SoundC Tryz.prog (O43 L) := (orc_sound (a1 _ (h64 L)) (orc_sound (a1 _ (h65 L)) (orc_sound (a2 _ (h66 L)) (orc_sound (a2 _ (h67 L)) (orc_sound (a2 _ (h68 L)) (orc_sound (a2 _ (h69 L)) (orc_sound (a3 _ (h70 L)) (noC_sound Tryz.prog))))))))
def T_eval_Binary {A : Type} (an : An A)  (L : Nat) (a0 : Int) (a1 : Int) (a2 : Int) (out : Int → A) : A :=
 (an.cn (a0 == 9)
 (an.bd (F_num_Add L a1 a2) fun r1 =>
 (an.lf out r1))
 (an.cn (a0 == 10)
 (an.bd (F_eval_negated L a2) fun r2 =>
 (an.bd (F_num_Add L a1 r2) fun r3 =>
 (an.lf out r3)))
 (an.cn (a0 == 11)
 (an.bd (F_num_Mul L a1 a2) fun r4 =>
 (an.lf out r4))
 (an.cn (a0 == 12)
 (an.bd (F_num_Div L a1 a2) fun r5 =>
 (an.lf out r5))
 (an.cn (a0 == 13)
 (an.bd (F_num_Mod L a1 a2) fun r6 =>
 (an.lf out r6))
 (an.cn (a0 == 20)
 (an.lf out (if a2 < a1 then a2 else a1))
 (an.cn (a0 == 21)
 (an.lf out (if a2 > a1 then a2 else a1))
 (an.bd (F_eval_holds L a0 a1 a2) fun r7 =>
 (an.bd (F_eval_truth L r7) fun r8 =>
 (an.lf out r8))))))))))
def F_eval_Binary  (L : Nat) (a0 : Int) (a1 : Int) (a2 : Int) : Option Int := T_eval_Binary (anO _) L a0 a1 a2 some
theorem e43  (L : Nat) (a0 : Int) (a1 : Int) (a2 : Int) (kk : PV → Prop) : EW (O43 L) L 9 (RS Tryz.f43) c43 [I a0, I a1, I a2] kk = ob (F_eval_Binary L a0 a1 a2) (fun (x : Int) => kk (I x)) := by
  refine Eq.trans (b := T_eval_Binary anP L a0 a1 a2 (fun (x : Int) => kk (I x))) (by kernel_rfl) ?_
  generalize (fun (x : Int) => kk (I x)) = Q
  unfold F_eval_Binary T_eval_Binary
  dsimp only [anP, anO]
  try simp only [y1, y2, y3, y4, y5 Q, y6, y7, y8 Q, y9, z1, z2, z3, z4]
theorem h43   (L : Nat) (a0 : Int) (a1 : Int) (a2 : Int) (r : Int) (h : F_eval_Binary L a0 a1 a2 = some r) : Holds Tryz.prog 43 [I a0, I a1, I a2] (I r) :=
  hE grwOK (s43  L) mixed Tryz.func43 (by kernel_rfl : cFn Tryz.prog inl Tryz.f43 = some c43) (er := fun (x : Int) => I x) (by kernel_rfl) (e43 L a0 a1 a2) h
/-! ### simulator/bind.fold -/
noncomputable def c24 : EC := (cFn Tryz.prog inl Tryz.f24).getD .stop
def O24 (rec24 : api_Expr → Option api_Expr) (L : Nat) : Oracle := (orc 13 (A2 (fun (x : (Int × Int)) => .tup [I x.1, I x.2]) ca_api_Env ca_api_Expr (F_typing_Expr L)) (orc 24 (A1 (fun (x : api_Expr) => .agg (enapi_Expr x)) ca_api_Expr rec24) (orc 40 (A1 (fun (x : (Int × Bool)) => .tup [I x.1, B x.2]) ca_api_Expr (F_bind_value L)) (orc 41 (A2 (fun (x : api_Expr) => .agg (enapi_Expr x)) (cI .i64) (cI .i64) (F_expr_Const L)) (orc 42 (A2 (fun (x : Int) => I x) (cI .i64) (cI .i64) (F_eval_Unary L)) (orc 43 (A3 (fun (x : Int) => I x) (cI .i64) (cI .i64) (cI .i64) (F_eval_Binary L)) noC))))))
theorem s24 (rec24 : api_Expr → Option api_Expr) (hr24 : ∀ (y0 : api_Expr) (r : api_Expr), rec24 y0 = some r → Holds Tryz.prog 24 [.agg (enapi_Expr y0)] (.agg (enapi_Expr r))) (L : Nat) : SoundC Tryz.prog (O24 rec24 L) := (orc_sound (a2 _ (h13 L)) (orc_sound (a1 _ hr24) (orc_sound (a1 _ (h40 L)) (orc_sound (a2 _ (h41 L)) (orc_sound (a2 _ (h42 L)) (orc_sound (a3 _ (h43 L)) (noC_sound Tryz.prog)))))))
def sh24_1 (a0 : api_Expr) (v1_0 : List api_Expr) (v1_1 : List Int) (v1_4 : Int) : St := ({ fr := [(0, .any), (1, .loc 1 0), (2, .loc 2 0), (3, .lst true (.t25 v1_0)), (4, .lst true (.t3 v1_1)), (9, .any), (10, .any), (21, .lst false (.t25 a0.Kids)), (22, I (a0.Kids.length : Int)), (23, I v1_4)], ob := [(1, (enapi_Expr a0)), (2, [I 0, S (⟨#[]⟩ : ByteArray), I 0, .lst true (.t25 [])])], base := 0 } : St)
def KK24_1 (a0 : api_Expr) (K : Ex → St → Prop) : Nat × (List api_Expr × List Int × Int) → Prop := fun o => seln o.1 [K (.exit 0) (sh24_1 a0 o.2.1 o.2.2.1 o.2.2.2)]
def lb_bind_fold_1 {A : Type} (an : An A) (rec24 : api_Expr → Option api_Expr) (L : Nat) (a0 : api_Expr) (rec : List api_Expr → List Int → Int → A) (out : Nat × (List api_Expr × List Int × Int) → A) (v1_0 : List api_Expr) (v1_1 : List Int) (v1_4 : Int) : A :=
 (an.cn (decide (v1_4 < (a0.Kids.length : Int)))
 (an.gd ((0 : Int) ≤ v1_4)
 (an.gd (v1_4 < ((a0.Kids.length : Nat) : Int))
 (an.bd (rec24 (api_Expr.cp (a0.Kids.getD (Int.toNat v1_4) default))) fun r1 =>
 (an.gd ((v1_0.length + [(api_Expr.cp r1)].length) * 56 ≤ 140737488355328)
 (an.gd (v1_0.length + [(api_Expr.cp r1)].length ≤ maxLen)
 (an.bd (F_bind_value L (api_Expr.cp r1)) fun r2 =>
 (an.cn r2.2
 (an.gd ((v1_1.length + [r2.1].length) * 8 ≤ 140737488355328)
 (an.gd (v1_1.length + [r2.1].length ≤ maxLen)
 (rec (v1_0 ++ [(api_Expr.cp r1)]) (v1_1 ++ [r2.1]) (w64 (v1_4 + 1)))))
 (rec (v1_0 ++ [(api_Expr.cp r1)]) v1_1 (w64 (v1_4 + 1))))))))))
 (an.lf out (0, (v1_0, v1_1, v1_4))))
def lp_bind_fold_1 (rec24 : api_Expr → Option api_Expr) (L : Nat) (a0 : api_Expr) : Nat → List api_Expr → List Int → Int → Option (Nat × (List api_Expr × List Int × Int))
  | 0, _, _, _ => none
  | n + 1, v1_0, v1_1, v1_4 => lb_bind_fold_1 (anO _) rec24 L a0 (lp_bind_fold_1 rec24 L a0 n) some v1_0 v1_1 v1_4
theorem ln24_1 (rec24 : api_Expr → Option api_Expr) (L : Nat) (a0 : api_Expr) (g : List api_Expr → List Int → Int → Option (Nat × (List api_Expr × List Int × Int))) (Q : Nat × (List api_Expr × List Int × Int) → Prop) (v1_0 : List api_Expr) (v1_1 : List Int) (v1_4 : Int) : lb_bind_fold_1 anP rec24 L a0 (fun v1_0 v1_1 v1_4 => ob (g v1_0 v1_1 v1_4) Q) Q v1_0 v1_1 v1_4 = ob (lb_bind_fold_1 (anO _) rec24 L a0 g some v1_0 v1_1 v1_4) Q := by
  unfold lb_bind_fold_1
  dsimp only [anP, anO]
  try simp only [y1, y2, y3, y4, y5 Q, y6, y7, y8 Q, y9, z1, z2, z3, z4]
theorem le24_1 (rec24 : api_Expr → Option api_Expr) (L : Nat) (a0 : api_Expr) (n : Nat) (v1_0 : List api_Expr) (v1_1 : List Int) (v1_4 : Int) (K : Ex → St → Prop) : loopN (EV (O24 rec24 L) L 9 c24.r.r.r.r.r.r.r.r.l.r.r.l.l) [0, 1, 2, 3, 4, 9, 10, 21, 22, 23] [1, 2] n (sh24_1 a0 v1_0 v1_1 v1_4) K = ob (lp_bind_fold_1 rec24 L a0 n v1_0 v1_1 v1_4) (fun o => KK24_1 a0 K o) := by
  induction n generalizing v1_0 v1_1 v1_4 with
  | zero => rfl
  | succ n ih =>
    refine Eq.trans (b := lb_bind_fold_1 anP rec24 L a0 (fun v1_0 v1_1 v1_4 => loopN (EV (O24 rec24 L) L 9 c24.r.r.r.r.r.r.r.r.l.r.r.l.l) [0, 1, 2, 3, 4, 9, 10, 21, 22, 23] [1, 2] n (sh24_1 a0 v1_0 v1_1 v1_4) K) (KK24_1 a0 K) v1_0 v1_1 v1_4) (by kernel_rfl) ?_
    simp only [ih]
    exact ln24_1 rec24 L a0 (lp_bind_fold_1 rec24 L a0 n) (KK24_1 a0 K) v1_0 v1_1 v1_4
def kc24_1 (rec24 : api_Expr → Option api_Expr) (L : Nat)  (kk : PV → Prop) : Ex → St → Prop := (kBlock 0 (kSeq (EV (O24 rec24 L) L 9 c24.r.r.r.r.r.r.r.r.r) (kEnd Tryz.prog (RS Tryz.f24) kk)))
theorem q24_1 (rec24 : api_Expr → Option api_Expr) (L : Nat) (a0 : api_Expr) (kk : PV → Prop) (o1 : Nat × (List api_Expr × List Int × Int)) : KK24_1 a0 (kc24_1 rec24 L kk) o1 =
 (seln o1.1 [(jn (fun j => (br (a0.Op == 7)
 (ap j true)
 (ap j (decide ((o1.2.2.1.length : Int) < (o1.2.1.length : Int)))))) (fun b2 =>
 (br b2
 (ob (some (api_Expr.mk a0.Op a0.Name a0.N o1.2.1)) (fun (x : api_Expr) => kk (.agg (enapi_Expr x))))
 (ob (F_typing_Expr L (⟨[], [], (⟨(⟨#[]⟩ : ByteArray), [], [], [], [], [], [], [], [], [], [], [], []⟩ : api_SiteDecl)⟩ : api_Env) (api_Expr.mk a0.Op a0.Name a0.N o1.2.1)) fun r3 =>
 (br (r3.2 != 0)
 (ob (some (api_Expr.mk a0.Op a0.Name a0.N o1.2.1)) (fun (x : api_Expr) => kk (.agg (enapi_Expr x))))
 (br ((o1.2.2.1.length : Int) == 1)
 (gd ((0 : Int) ≤ 0)
 (gd (0 < ((o1.2.2.1.length : Nat) : Int))
 (ob (F_eval_Unary L a0.Op (o1.2.2.1.getD 0 default)) fun r4 =>
 (ob (F_expr_Const L r3.1 r4) fun r5 =>
 (ob (some (api_Expr.cp r5)) (fun (x : api_Expr) => kk (.agg (enapi_Expr x))))))))
 (gd ((0 : Int) ≤ 0)
 (gd (0 < ((o1.2.2.1.length : Nat) : Int))
 (gd ((0 : Int) ≤ 1)
 (gd (1 < ((o1.2.2.1.length : Nat) : Int))
 (ob (F_eval_Binary L a0.Op (o1.2.2.1.getD 0 default) (o1.2.2.1.getD 1 default)) fun r6 =>
 (ob (F_expr_Const L r3.1 r6) fun r7 =>
 (ob (some (api_Expr.cp r7)) (fun (x : api_Expr) => kk (.agg (enapi_Expr x))))))))))))))))]) := by kernel_rfl
def T_bind_fold {A : Type} (an : An A) (rec24 : api_Expr → Option api_Expr) (L : Nat) (a0 : api_Expr) (out : api_Expr → A) : A :=
 (an.cn ((a0.Kids.length : Int) == 0)
 (an.lf out (api_Expr.cp a0))
 (an.gd ((0 : Int) ≤ (a0.Kids.length : Int))
 (an.gd ((a0.Kids.length : Int) * ((56 : Nat) : Int) ≤ 140737488355328)
 (an.gd ((a0.Kids.length : Int) ≤ (maxLen : Int))
 (an.bd (lp_bind_fold_1 rec24 L a0 L [] [] 0) fun o1 =>
 (an.sl o1.1 [(an.jp (bif (a0.Op == 7) then true
 else (decide ((o1.2.2.1.length : Int) < (o1.2.1.length : Int)))) (fun j => (an.cn (a0.Op == 7)
 (an.ap j true)
 (an.ap j (decide ((o1.2.2.1.length : Int) < (o1.2.1.length : Int)))))) (fun b2 =>
 (an.cn b2
 (an.lf out (api_Expr.mk a0.Op a0.Name a0.N o1.2.1))
 (an.bd (F_typing_Expr L (⟨[], [], (⟨(⟨#[]⟩ : ByteArray), [], [], [], [], [], [], [], [], [], [], [], []⟩ : api_SiteDecl)⟩ : api_Env) (api_Expr.mk a0.Op a0.Name a0.N o1.2.1)) fun r3 =>
 (an.cn (r3.2 != 0)
 (an.lf out (api_Expr.mk a0.Op a0.Name a0.N o1.2.1))
 (an.cn ((o1.2.2.1.length : Int) == 1)
 (an.gd ((0 : Int) ≤ 0)
 (an.gd (0 < ((o1.2.2.1.length : Nat) : Int))
 (an.bd (F_eval_Unary L a0.Op (o1.2.2.1.getD 0 default)) fun r4 =>
 (an.bd (F_expr_Const L r3.1 r4) fun r5 =>
 (an.lf out (api_Expr.cp r5))))))
 (an.gd ((0 : Int) ≤ 0)
 (an.gd (0 < ((o1.2.2.1.length : Nat) : Int))
 (an.gd ((0 : Int) ≤ 1)
 (an.gd (1 < ((o1.2.2.1.length : Nat) : Int))
 (an.bd (F_eval_Binary L a0.Op (o1.2.2.1.getD 0 default) (o1.2.2.1.getD 1 default)) fun r6 =>
 (an.bd (F_expr_Const L r3.1 r6) fun r7 =>
 (an.lf out (api_Expr.cp r7))))))))))))))]))))))
def B_bind_fold (rec24 : api_Expr → Option api_Expr) (L : Nat) (a0 : api_Expr) : Option api_Expr := T_bind_fold (anO _) rec24 L a0 some
theorem e24 (rec24 : api_Expr → Option api_Expr) (L : Nat) (a0 : api_Expr) (kk : PV → Prop) : EW (O24 rec24 L) L 9 (RS Tryz.f24) c24 [.agg (enapi_Expr a0)] kk = ob (B_bind_fold rec24 L a0) (fun (x : api_Expr) => kk (.agg (enapi_Expr x))) := by
  refine Eq.trans (b := T_bind_fold anP rec24 L a0 (fun (x : api_Expr) => kk (.agg (enapi_Expr x)))) ?_ ?_
  · refine Eq.trans (b := (br ((a0.Kids.length : Int) == 0)
 (ob (some (api_Expr.cp a0)) (fun (x : api_Expr) => kk (.agg (enapi_Expr x))))
 (gd ((0 : Int) ≤ (a0.Kids.length : Int))
 (gd ((a0.Kids.length : Int) * ((56 : Nat) : Int) ≤ 140737488355328)
 (gd ((a0.Kids.length : Int) ≤ (maxLen : Int))
 (loopN (EV (O24 rec24 L) L 9 c24.r.r.r.r.r.r.r.r.l.r.r.l.l) [0, 1, 2, 3, 4, 9, 10, 21, 22, 23] [1, 2] L (sh24_1 a0 [] [] 0) (kc24_1 rec24 L kk))))))) (by kernel_rfl) ?_
    unfold T_bind_fold
    dsimp only [anP]
    simp only [le24_1, q24_1]
  generalize (fun (x : api_Expr) => kk (.agg (enapi_Expr x))) = Q
  unfold B_bind_fold T_bind_fold
  dsimp only [anP, anO]
  try simp only [y1, y2, y3, y4, y5 Q, y6, y7, y8 Q, y9, z1, z2, z3, z4]
  try simp only [z5, z6, y1, y2, y3, y4, y5 Q, y6, y7, y8 Q, y9, z1, z2, z3, z4]
theorem b24 (rec24 : api_Expr → Option api_Expr) (hr24 : ∀ (y0 : api_Expr) (r : api_Expr), rec24 y0 = some r → Holds Tryz.prog 24 [.agg (enapi_Expr y0)] (.agg (enapi_Expr r))) (L : Nat) (a0 : api_Expr) (r : api_Expr) (h : B_bind_fold rec24 L a0 = some r) : Holds Tryz.prog 24 [.agg (enapi_Expr a0)] (.agg (enapi_Expr r)) :=
  hE grwOK (s24 rec24 hr24 L) mixed Tryz.func24 (by kernel_rfl : cFn Tryz.prog inl Tryz.f24 = some c24) (er := fun (x : api_Expr) => .agg (enapi_Expr x)) (by kernel_rfl) (e24 rec24 L a0) h
def F_bind_fold : Nat → api_Expr → Option api_Expr
  | 0, _ => none
  | L + 1, a0 => B_bind_fold (F_bind_fold L) L a0
theorem hall24 : ∀ L, (∀ (y0 : api_Expr) (r : api_Expr), F_bind_fold L y0 = some r → Holds Tryz.prog 24 [.agg (enapi_Expr y0)] (.agg (enapi_Expr r))) := by
  intro L
  induction L with
  | zero => exact fun _ r h => (by cases h)
  | succ L ih =>
    have i24 := ih
    exact fun y0 r h => b24 (F_bind_fold L) i24 L y0 r h
theorem h24 (L : Nat) : ∀ (y0 : api_Expr) (r : api_Expr), F_bind_fold L y0 = some r → Holds Tryz.prog 24 [.agg (enapi_Expr y0)] (.agg (enapi_Expr r)) := hall24 L
/-! ### simulator/bind.Fold -/
noncomputable def c8 : EC := (cFn Tryz.prog inl Tryz.f8).getD .stop
def O8  (L : Nat) : Oracle := (orc 23 (A1 (fun (x : Int) => I x) ca_api_Expr (F_expr_Check L)) (orc 24 (A1 (fun (x : api_Expr) => .agg (enapi_Expr x)) ca_api_Expr (F_bind_fold L)) noC))
theorem s8   (L : Nat) : SoundC Tryz.prog (O8 L) := (orc_sound (a1 _ (h23 L)) (orc_sound (a1 _ (h24 L)) (noC_sound Tryz.prog)))
def T_bind_Fold {A : Type} (an : An A)  (L : Nat) (a0 : api_Expr) (out : api_Expr → A) : A :=
 (an.bd (F_expr_Check L (api_Expr.cp a0)) fun r1 =>
 (an.cn (r1 != 0)
 (an.lf out (api_Expr.cp a0))
 (an.bd (F_bind_fold L (api_Expr.cp a0)) fun r2 =>
 (an.bd (F_expr_Check L (api_Expr.cp r2)) fun r3 =>
 (an.cn (r3 != 0)
 (an.lf out (api_Expr.cp a0))
 (an.lf out (api_Expr.cp r2)))))))
def F_bind_Fold  (L : Nat) (a0 : api_Expr) : Option api_Expr := T_bind_Fold (anO _) L a0 some
theorem e8  (L : Nat) (a0 : api_Expr) (kk : PV → Prop) : EW (O8 L) L 9 (RS Tryz.f8) c8 [.agg (enapi_Expr a0)] kk = ob (F_bind_Fold L a0) (fun (x : api_Expr) => kk (.agg (enapi_Expr x))) := by
  refine Eq.trans (b := T_bind_Fold anP L a0 (fun (x : api_Expr) => kk (.agg (enapi_Expr x)))) (by kernel_rfl) ?_
  generalize (fun (x : api_Expr) => kk (.agg (enapi_Expr x))) = Q
  unfold F_bind_Fold T_bind_Fold
  dsimp only [anP, anO]
  try simp only [y1, y2, y3, y4, y5 Q, y6, y7, y8 Q, y9, z1, z2, z3, z4]
theorem h8   (L : Nat) (a0 : api_Expr) (r : api_Expr) (h : F_bind_Fold L a0 = some r) : Holds Tryz.prog 8 [.agg (enapi_Expr a0)] (.agg (enapi_Expr r)) :=
  hE grwOK (s8  L) mixed Tryz.func8 (by kernel_rfl : cFn Tryz.prog inl Tryz.f8 = some c8) (er := fun (x : api_Expr) => .agg (enapi_Expr x)) (by kernel_rfl) (e8 L a0) h
/-! ### simulator/simulatorref09.Depth -/
noncomputable def c45 : EC := (cFn Tryz.prog inl Tryz.f45).getD .stop
def O45 (rec45 : api_Expr → Option Int) (L : Nat) : Oracle := (orc 45 (A1 (fun (x : Int) => I x) ca_api_Expr rec45) noC)
theorem s45 (rec45 : api_Expr → Option Int) (hr45 : ∀ (y0 : api_Expr) (r : Int), rec45 y0 = some r → Holds Tryz.prog 45 [.agg (enapi_Expr y0)] (I r)) (L : Nat) : SoundC Tryz.prog (O45 rec45 L) := (orc_sound (a1 _ hr45) (noC_sound Tryz.prog))
def sh45_1 (a0 : api_Expr) (v1_1 : Int) (v1_2 : Int) : St := ({ fr := [(0, .any), (1, .loc 1 0), (2, I 0), (3, I v1_1), (4, I v1_2)], ob := [(1, (enapi_Expr a0))], base := 0 } : St)
def KK45_1 (a0 : api_Expr) (K : Ex → St → Prop) : Nat × (Int × Int) → Prop := fun o => seln o.1 [K (.exit 0) (sh45_1 a0 o.2.1 o.2.2)]
def lb_R09_Depth_1 {A : Type} (an : An A) (rec45 : api_Expr → Option Int) (L : Nat) (a0 : api_Expr) (rec : Int → Int → A) (out : Nat × (Int × Int) → A) (v1_1 : Int) (v1_2 : Int) : A :=
 (an.cn (decide (v1_2 < (a0.Kids.length : Int)))
 (an.gd ((0 : Int) ≤ v1_2)
 (an.gd (v1_2 < ((a0.Kids.length : Nat) : Int))
 (an.bd (rec45 (api_Expr.cp (a0.Kids.getD (Int.toNat v1_2) default))) fun r1 =>
 (rec (if r1 > v1_1 then r1 else v1_1) (w64 (v1_2 + 1))))))
 (an.lf out (0, (v1_1, v1_2))))
def lp_R09_Depth_1 (rec45 : api_Expr → Option Int) (L : Nat) (a0 : api_Expr) : Nat → Int → Int → Option (Nat × (Int × Int))
  | 0, _, _ => none
  | n + 1, v1_1, v1_2 => lb_R09_Depth_1 (anO _) rec45 L a0 (lp_R09_Depth_1 rec45 L a0 n) some v1_1 v1_2
theorem ln45_1 (rec45 : api_Expr → Option Int) (L : Nat) (a0 : api_Expr) (g : Int → Int → Option (Nat × (Int × Int))) (Q : Nat × (Int × Int) → Prop) (v1_1 : Int) (v1_2 : Int) : lb_R09_Depth_1 anP rec45 L a0 (fun v1_1 v1_2 => ob (g v1_1 v1_2) Q) Q v1_1 v1_2 = ob (lb_R09_Depth_1 (anO _) rec45 L a0 g some v1_1 v1_2) Q := by
  unfold lb_R09_Depth_1
  dsimp only [anP, anO]
  try simp only [y1, y2, y3, y4, y5 Q, y6, y7, y8 Q, y9, z1, z2, z3, z4]
theorem le45_1 (rec45 : api_Expr → Option Int) (L : Nat) (a0 : api_Expr) (n : Nat) (v1_1 : Int) (v1_2 : Int) (K : Ex → St → Prop) : loopN (EV (O45 rec45 L) L 9 c45.r.r.r.r.l.r.r.l.l) [0, 1, 2, 3, 4] [1] n (sh45_1 a0 v1_1 v1_2) K = ob (lp_R09_Depth_1 rec45 L a0 n v1_1 v1_2) (fun o => KK45_1 a0 K o) := by
  induction n generalizing v1_1 v1_2 with
  | zero => rfl
  | succ n ih =>
    refine Eq.trans (b := lb_R09_Depth_1 anP rec45 L a0 (fun v1_1 v1_2 => loopN (EV (O45 rec45 L) L 9 c45.r.r.r.r.l.r.r.l.l) [0, 1, 2, 3, 4] [1] n (sh45_1 a0 v1_1 v1_2) K) (KK45_1 a0 K) v1_1 v1_2) (by kernel_rfl) ?_
    simp only [ih]
    exact ln45_1 rec45 L a0 (lp_R09_Depth_1 rec45 L a0 n) (KK45_1 a0 K) v1_1 v1_2
def kc45_1 (rec45 : api_Expr → Option Int) (L : Nat)  (kk : PV → Prop) : Ex → St → Prop := (kBlock 0 (kSeq (EV (O45 rec45 L) L 9 c45.r.r.r.r.r) (kEnd Tryz.prog (RS Tryz.f45) kk)))
theorem q45_1 (rec45 : api_Expr → Option Int) (L : Nat) (a0 : api_Expr) (kk : PV → Prop) (o1 : Nat × (Int × Int)) : KK45_1 a0 (kc45_1 rec45 L kk) o1 =
 (seln o1.1 [(ob (some (w64 (o1.2.1 + 1))) (fun (x : Int) => kk (I x)))]) := by kernel_rfl
def T_R09_Depth {A : Type} (an : An A) (rec45 : api_Expr → Option Int) (L : Nat) (a0 : api_Expr) (out : Int → A) : A :=
 (an.bd (lp_R09_Depth_1 rec45 L a0 L 0 0) fun o1 =>
 (an.sl o1.1 [(an.lf out (w64 (o1.2.1 + 1)))]))
def B_R09_Depth (rec45 : api_Expr → Option Int) (L : Nat) (a0 : api_Expr) : Option Int := T_R09_Depth (anO _) rec45 L a0 some
theorem e45 (rec45 : api_Expr → Option Int) (L : Nat) (a0 : api_Expr) (kk : PV → Prop) : EW (O45 rec45 L) L 9 (RS Tryz.f45) c45 [.agg (enapi_Expr a0)] kk = ob (B_R09_Depth rec45 L a0) (fun (x : Int) => kk (I x)) := by
  refine Eq.trans (b := T_R09_Depth anP rec45 L a0 (fun (x : Int) => kk (I x))) ?_ ?_
  · refine Eq.trans (b := (loopN (EV (O45 rec45 L) L 9 c45.r.r.r.r.l.r.r.l.l) [0, 1, 2, 3, 4] [1] L (sh45_1 a0 0 0) (kc45_1 rec45 L kk))) (by kernel_rfl) ?_
    unfold T_R09_Depth
    dsimp only [anP]
    simp only [le45_1, q45_1]
  generalize (fun (x : Int) => kk (I x)) = Q
  unfold B_R09_Depth T_R09_Depth
  dsimp only [anP, anO]
  try simp only [y1, y2, y3, y4, y5 Q, y6, y7, y8 Q, y9, z1, z2, z3, z4]
theorem b45 (rec45 : api_Expr → Option Int) (hr45 : ∀ (y0 : api_Expr) (r : Int), rec45 y0 = some r → Holds Tryz.prog 45 [.agg (enapi_Expr y0)] (I r)) (L : Nat) (a0 : api_Expr) (r : Int) (h : B_R09_Depth rec45 L a0 = some r) : Holds Tryz.prog 45 [.agg (enapi_Expr a0)] (I r) :=
  hE grwOK (s45 rec45 hr45 L) mixed Tryz.func45 (by kernel_rfl : cFn Tryz.prog inl Tryz.f45 = some c45) (er := fun (x : Int) => I x) (by kernel_rfl) (e45 rec45 L a0) h
def F_R09_Depth : Nat → api_Expr → Option Int
  | 0, _ => none
  | L + 1, a0 => B_R09_Depth (F_R09_Depth L) L a0
theorem hall45 : ∀ L, (∀ (y0 : api_Expr) (r : Int), F_R09_Depth L y0 = some r → Holds Tryz.prog 45 [.agg (enapi_Expr y0)] (I r)) := by
  intro L
  induction L with
  | zero => exact fun _ r h => (by cases h)
  | succ L ih =>
    have i45 := ih
    exact fun y0 r h => b45 (F_R09_Depth L) i45 L y0 r h
theorem h45 (L : Nat) : ∀ (y0 : api_Expr) (r : Int), F_R09_Depth L y0 = some r → Holds Tryz.prog 45 [.agg (enapi_Expr y0)] (I r) := hall45 L
/-! ### simulator/simulatorref09.Arity -/
noncomputable def c77 : EC := (cFn Tryz.prog inl Tryz.f77).getD .stop
def O77  (L : Nat) : Oracle := noC
theorem s77   (L : Nat) : SoundC Tryz.prog (O77 L) := (noC_sound Tryz.prog)
def T_R09_Arity {A : Type} (an : An A)  (L : Nat) (a0 : Int) (out : Int → A) : A :=
 (an.jp (bif (decide (a0 < 1)) then true
 else (decide (a0 > 26))) (fun j => (an.cn (decide (a0 < 1))
 (an.ap j true)
 (an.ap j (decide (a0 > 26))))) (fun b1 =>
 (an.cn b1
 (an.lf out (-1))
 (an.jp (bif (decide (a0 ≥ 5)) then (decide (a0 ≤ 8))
 else false) (fun j => (an.cn (decide (a0 ≥ 5))
 (an.ap j (decide (a0 ≤ 8)))
 (an.ap j false))) (fun b2 =>
 (an.cn b2
 (an.lf out 1)
 (an.jp (bif (decide (a0 ≥ 9)) then (decide (a0 ≤ 21))
 else false) (fun j => (an.cn (decide (a0 ≥ 9))
 (an.ap j (decide (a0 ≤ 21)))
 (an.ap j false))) (fun b3 =>
 (an.cn b3
 (an.lf out 2)
 (an.lf out 0))))))))))
def F_R09_Arity  (L : Nat) (a0 : Int) : Option Int := T_R09_Arity (anO _) L a0 some
theorem e77  (L : Nat) (a0 : Int) (kk : PV → Prop) : EW (O77 L) L 9 (RS Tryz.f77) c77 [I a0] kk = ob (F_R09_Arity L a0) (fun (x : Int) => kk (I x)) := by
  refine Eq.trans (b := T_R09_Arity anP L a0 (fun (x : Int) => kk (I x))) (by kernel_rfl) ?_
  generalize (fun (x : Int) => kk (I x)) = Q
  unfold F_R09_Arity T_R09_Arity
  dsimp only [anP, anO]
  try simp only [y1, y2, y3, y4, y5 Q, y6, y7, y8 Q, y9, z1, z2, z3, z4]
theorem h77   (L : Nat) (a0 : Int) (r : Int) (h : F_R09_Arity L a0 = some r) : Holds Tryz.prog 77 [I a0] (I r) :=
  hE grwOK (s77  L) mixed Tryz.func77 (by kernel_rfl : cFn Tryz.prog inl Tryz.f77 = some c77) (er := fun (x : Int) => I x) (by kernel_rfl) (e77 L a0) h
/-! ### simulator/simulatorref09.object -/
noncomputable def c78 : EC := (cFn Tryz.prog inl Tryz.f78).getD .stop
def O78  (L : Nat) : Oracle := noC
theorem s78   (L : Nat) : SoundC Tryz.prog (O78 L) := (noC_sound Tryz.prog)
def T_R09_object {A : Type} (an : An A)  (L : Nat) (a0 : Int) (out : Bool → A) : A :=
 (an.jp (bif (decide (a0 ≥ 22)) then (decide (a0 ≤ 24))
 else false) (fun j => (an.cn (decide (a0 ≥ 22))
 (an.ap j (decide (a0 ≤ 24)))
 (an.ap j false))) (fun b1 =>
 (an.lf out b1)))
def F_R09_object  (L : Nat) (a0 : Int) : Option Bool := T_R09_object (anO _) L a0 some
theorem e78  (L : Nat) (a0 : Int) (kk : PV → Prop) : EW (O78 L) L 9 (RS Tryz.f78) c78 [I a0] kk = ob (F_R09_object L a0) (fun (x : Bool) => kk (B x)) := by
  refine Eq.trans (b := T_R09_object anP L a0 (fun (x : Bool) => kk (B x))) (by kernel_rfl) ?_
  generalize (fun (x : Bool) => kk (B x)) = Q
  unfold F_R09_object T_R09_object
  dsimp only [anP, anO]
  try simp only [y1, y2, y3, y4, y5 Q, y6, y7, y8 Q, y9, z1, z2, z3, z4]
theorem h78   (L : Nat) (a0 : Int) (r : Bool) (h : F_R09_object L a0 = some r) : Holds Tryz.prog 78 [I a0] (B r) :=
  hE grwOK (s78  L) mixed Tryz.func78 (by kernel_rfl : cFn Tryz.prog inl Tryz.f78 = some c78) (er := fun (x : Bool) => B x) (by kernel_rfl) (e78 L a0) h
/-! ### simulator/simulatorref01.In -/
noncomputable def c79 : EC := (cFn Tryz.prog inl Tryz.f79).getD .stop
def O79  (L : Nat) : Oracle := noC
theorem s79   (L : Nat) : SoundC Tryz.prog (O79 L) := (noC_sound Tryz.prog)
def T_R01_In {A : Type} (an : An A)  (L : Nat) (a0 : Int) (out : Bool → A) : A :=
 (an.jp (bif (decide (a0 ≥ (-1000000000000))) then (decide (a0 ≤ 1000000000000))
 else false) (fun j => (an.cn (decide (a0 ≥ (-1000000000000)))
 (an.ap j (decide (a0 ≤ 1000000000000)))
 (an.ap j false))) (fun b1 =>
 (an.lf out b1)))
def F_R01_In  (L : Nat) (a0 : Int) : Option Bool := T_R01_In (anO _) L a0 some
theorem e79  (L : Nat) (a0 : Int) (kk : PV → Prop) : EW (O79 L) L 9 (RS Tryz.f79) c79 [I a0] kk = ob (F_R01_In L a0) (fun (x : Bool) => kk (B x)) := by
  refine Eq.trans (b := T_R01_In anP L a0 (fun (x : Bool) => kk (B x))) (by kernel_rfl) ?_
  generalize (fun (x : Bool) => kk (B x)) = Q
  unfold F_R01_In T_R01_In
  dsimp only [anP, anO]
  try simp only [y1, y2, y3, y4, y5 Q, y6, y7, y8 Q, y9, z1, z2, z3, z4]
theorem h79   (L : Nat) (a0 : Int) (r : Bool) (h : F_R01_In L a0 = some r) : Holds Tryz.prog 79 [I a0] (B r) :=
  hE grwOK (s79  L) mixed Tryz.func79 (by kernel_rfl : cFn Tryz.prog inl Tryz.f79 = some c79) (er := fun (x : Bool) => B x) (by kernel_rfl) (e79 L a0) h
/-! ### simulator/simulatorref09.most -/
noncomputable def c80 : EC := (cFn Tryz.prog inl Tryz.f80).getD .stop
def O80  (L : Nat) : Oracle := noC
theorem s80   (L : Nat) : SoundC Tryz.prog (O80 L) := (noC_sound Tryz.prog)
def T_R09_most {A : Type} (an : An A)  (L : Nat) (a0 : Int) (out : Int → A) : A :=
 (an.cn (a0 == 25)
 (an.lf out 15)
 (an.cn (a0 == 26)
 (an.lf out 31)
 (an.lf out 63)))
def F_R09_most  (L : Nat) (a0 : Int) : Option Int := T_R09_most (anO _) L a0 some
theorem e80  (L : Nat) (a0 : Int) (kk : PV → Prop) : EW (O80 L) L 9 (RS Tryz.f80) c80 [I a0] kk = ob (F_R09_most L a0) (fun (x : Int) => kk (I x)) := by
  refine Eq.trans (b := T_R09_most anP L a0 (fun (x : Int) => kk (I x))) (by kernel_rfl) ?_
  generalize (fun (x : Int) => kk (I x)) = Q
  unfold F_R09_most T_R09_most
  dsimp only [anP, anO]
  try simp only [y1, y2, y3, y4, y5 Q, y6, y7, y8 Q, y9, z1, z2, z3, z4]
theorem h80   (L : Nat) (a0 : Int) (r : Int) (h : F_R09_most L a0 = some r) : Holds Tryz.prog 80 [I a0] (I r) :=
  hE grwOK (s80  L) mixed Tryz.func80 (by kernel_rfl : cFn Tryz.prog inl Tryz.f80 = some c80) (er := fun (x : Int) => I x) (by kernel_rfl) (e80 L a0) h
/-! ### simulator/simulatorref07.letter -/
noncomputable def c111 : EC := (cFn Tryz.prog inl Tryz.f111).getD .stop
def O111  (L : Nat) : Oracle := noC
theorem s111   (L : Nat) : SoundC Tryz.prog (O111 L) := (noC_sound Tryz.prog)
def T_R07_letter {A : Type} (an : An A)  (L : Nat) (a0 : Int) (out : Bool → A) : A :=
 (an.jp (bif (decide (a0 ≥ 97)) then (decide (a0 ≤ 122))
 else false) (fun j => (an.cn (decide (a0 ≥ 97))
 (an.ap j (decide (a0 ≤ 122)))
 (an.ap j false))) (fun b1 =>
 (an.lf out b1)))
def F_R07_letter  (L : Nat) (a0 : Int) : Option Bool := T_R07_letter (anO _) L a0 some
theorem e111  (L : Nat) (a0 : Int) (kk : PV → Prop) : EW (O111 L) L 9 (RS Tryz.f111) c111 [V .u8 a0] kk = ob (F_R07_letter L a0) (fun (x : Bool) => kk (B x)) := by
  refine Eq.trans (b := T_R07_letter anP L a0 (fun (x : Bool) => kk (B x))) (by kernel_rfl) ?_
  generalize (fun (x : Bool) => kk (B x)) = Q
  unfold F_R07_letter T_R07_letter
  dsimp only [anP, anO]
  try simp only [y1, y2, y3, y4, y5 Q, y6, y7, y8 Q, y9, z1, z2, z3, z4]
theorem h111   (L : Nat) (a0 : Int) (r : Bool) (h : F_R07_letter L a0 = some r) : Holds Tryz.prog 111 [V .u8 a0] (B r) :=
  hE grwOK (s111  L) mixed Tryz.func111 (by kernel_rfl : cFn Tryz.prog inl Tryz.f111 = some c111) (er := fun (x : Bool) => B x) (by kernel_rfl) (e111 L a0) h
/-! ### simulator/simulatorref07.Keywords -/
noncomputable def c173 : EC := (cFn Tryz.prog inl Tryz.f173).getD .stop
def O173  (L : Nat) : Oracle := noC
theorem s173   (L : Nat) : SoundC Tryz.prog (O173 L) := (noC_sound Tryz.prog)
def T_R07_Keywords {A : Type} (an : An A)  (L : Nat)  (out : (List ByteArray) → A) : A :=
 (an.lf out [(⟨#[97, 100, 100]⟩ : ByteArray), (⟨#[97, 102, 116, 101, 114]⟩ : ByteArray), (⟨#[97, 110, 100]⟩ : ByteArray), (⟨#[97, 116]⟩ : ByteArray), (⟨#[98, 101, 108, 116]⟩ : ByteArray), (⟨#[98, 111, 111, 108]⟩ : ByteArray), (⟨#[99, 111, 110, 115, 101, 114, 118, 101]⟩ : ByteArray), (⟨#[99, 111, 110, 115, 116]⟩ : ByteArray), (⟨#[99, 111, 117, 110, 116]⟩ : ByteArray), (⟨#[99, 121, 99, 108, 101]⟩ : ByteArray), (⟨#[100, 111, 119, 110]⟩ : ByteArray), (⟨#[100, 114, 97, 119]⟩ : ByteArray), (⟨#[100, 117, 114]⟩ : ByteArray), (⟨#[101, 108, 115, 101]⟩ : ByteArray), (⟨#[101, 110, 100]⟩ : ByteArray), (⟨#[101, 118, 101, 114, 121]⟩ : ByteArray), (⟨#[102, 97, 108, 115, 101]⟩ : ByteArray), (⟨#[102, 97, 117, 108, 116]⟩ : ByteArray), (⟨#[102, 105, 102, 111]⟩ : ByteArray), (⟨#[102, 114, 101, 101]⟩ : ByteArray), (⟨#[102, 114, 111, 109]⟩ : ByteArray), (⟨#[103, 101, 111, 109]⟩ : ByteArray), (⟨#[103, 101, 116]⟩ : ByteArray), (⟨#[104, 111, 108, 100]⟩ : ByteArray), (⟨#[105, 102]⟩ : ByteArray), (⟨#[105, 110, 116]⟩ : ByteArray), (⟨#[105, 110, 116, 111]⟩ : ByteArray), (⟨#[108, 101, 97, 115, 116]⟩ : ByteArray), (⟨#[108, 101, 118, 101, 108]⟩ : ByteArray), (⟨#[108, 105, 102, 111]⟩ : ByteArray), (⟨#[108, 105, 110, 107]⟩ : ByteArray), (⟨#[108, 111, 99, 97, 108]⟩ : ByteArray), (⟨#[109, 97, 120]⟩ : ByteArray), (⟨#[109, 105, 110]⟩ : ByteArray), (⟨#[109, 111, 100, 101, 108]⟩ : ByteArray), (⟨#[110, 111, 116]⟩ : ByteArray), (⟨#[110, 111, 119]⟩ : ByteArray), (⟨#[111, 98, 115, 101, 114, 118, 101]⟩ : ByteArray), (⟨#[111, 114]⟩ : ByteArray), (⟨#[112, 97, 114, 97, 109]⟩ : ByteArray), (⟨#[112, 114, 101, 101, 109, 112, 116]⟩ : ByteArray), (⟨#[112, 114, 105, 111]⟩ : ByteArray), (⟨#[112, 117, 116]⟩ : ByteArray), (⟨#[113, 117, 101, 117, 101]⟩ : ByteArray), (⟨#[114, 101, 108, 101, 97, 115, 101]⟩ : ByteArray), (⟨#[114, 101, 115, 111, 117, 114, 99, 101]⟩ : ByteArray), (⟨#[114, 105, 100, 101]⟩ : ByteArray), (⟨#[114, 111, 117, 116, 105, 110, 101]⟩ : ByteArray), (⟨#[115, 101, 105, 122, 101]⟩ : ByteArray), (⟨#[115, 101, 110, 100]⟩ : ByteArray), (⟨#[115, 101, 116]⟩ : ByteArray), (⟨#[115, 104, 105, 102, 116]⟩ : ByteArray), (⟨#[115, 105, 103, 110, 97, 108]⟩ : ByteArray), (⟨#[115, 105, 116, 101]⟩ : ByteArray), (⟨#[115, 105, 122, 101]⟩ : ByteArray), (⟨#[115, 112, 97, 119, 110]⟩ : ByteArray), (⟨#[115, 116, 97, 114, 116]⟩ : ByteArray), (⟨#[115, 116, 111, 112]⟩ : ByteArray), (⟨#[115, 116, 111, 114, 101]⟩ : ByteArray), (⟨#[115, 116, 114, 101, 97, 109]⟩ : ByteArray), (⟨#[115, 117, 109]⟩ : ByteArray), (⟨#[116, 97, 98, 108, 101]⟩ : ByteArray), (⟨#[116, 97, 108, 108, 121]⟩ : ByteArray), (⟨#[116, 105, 99, 107, 115]⟩ : ByteArray), (⟨#[116, 105, 109, 101]⟩ : ByteArray), (⟨#[116, 114, 117, 101]⟩ : ByteArray), (⟨#[117, 110, 105, 102, 111, 114, 109]⟩ : ByteArray), (⟨#[117, 110, 116, 105, 108]⟩ : ByteArray), (⟨#[117, 112]⟩ : ByteArray), (⟨#[118, 97, 114]⟩ : ByteArray), (⟨#[119, 97, 105, 116]⟩ : ByteArray), (⟨#[119, 97, 105, 116, 105, 110, 103]⟩ : ByteArray), (⟨#[119, 104, 105, 108, 101]⟩ : ByteArray)])
def F_R07_Keywords  (L : Nat)  : Option (List ByteArray) := T_R07_Keywords (anO _) L  some
theorem e173  (L : Nat)  (kk : PV → Prop) : EW (O173 L) L 9 (RS Tryz.f173) c173 [] kk = ob (F_R07_Keywords L ) (fun (x : (List ByteArray)) => kk (.lst false (.t9 x))) := by
  refine Eq.trans (b := T_R07_Keywords anP L  (fun (x : (List ByteArray)) => kk (.lst false (.t9 x)))) (by kernel_rfl) ?_
  generalize (fun (x : (List ByteArray)) => kk (.lst false (.t9 x))) = Q
  unfold F_R07_Keywords T_R07_Keywords
  dsimp only [anP, anO]
  try simp only [y1, y2, y3, y4, y5 Q, y6, y7, y8 Q, y9, z1, z2, z3, z4]
theorem h173   (L : Nat)  (r : (List ByteArray)) (h : F_R07_Keywords L  = some r) : Holds Tryz.prog 173 [] (.lst false (.t9 r)) :=
  hE grwOK (s173  L) mixed Tryz.func173 (by kernel_rfl : cFn Tryz.prog inl Tryz.f173 = some c173) (er := fun (x : (List ByteArray)) => .lst false (.t9 x)) (by kernel_rfl) (e173 L ) h
/-! ### simulator/simulatorref07.Find -/
noncomputable def c172 : EC := (cFn Tryz.prog inl Tryz.f172).getD .stop
def O172  (L : Nat) : Oracle := noC
theorem s172   (L : Nat) : SoundC Tryz.prog (O172 L) := (noC_sound Tryz.prog)
def sh172_1 (a0 : (List ByteArray)) (a1 : ByteArray) (v1_2 : Int) (v1_3 : Int) : St := ({ fr := [(0, .lst false (.t9 a0)), (1, S a1), (4, I v1_2), (5, I v1_3)], ob := [], base := 0 } : St)
def KK172_1 (a0 : (List ByteArray)) (a1 : ByteArray) (K : Ex → St → Prop) : Nat × (Int × Int) → Prop := fun o => seln o.1 [K .ret (sh172_1 a0 a1 o.2.1 o.2.2), K (.exit 0) (sh172_1 a0 a1 o.2.1 o.2.2)]
def lb_R07_Find_1 {A : Type} (an : An A)  (L : Nat) (a0 : (List ByteArray)) (a1 : ByteArray) (rec : Int → Int → A) (out : Nat × (Int × Int) → A) (v1_2 : Int) (v1_3 : Int) : A :=
 (an.cn (decide (v1_3 < (a0.length : Int)))
 (an.gd ((0 : Int) ≤ v1_3)
 (an.gd (v1_3 < ((a0.length : Nat) : Int))
 (an.cn ((a0.getD (Int.toNat v1_3) default).toList == a1.toList)
 (an.lf out (0, (v1_3, v1_3)))
 (rec v1_2 (w64 (v1_3 + 1))))))
 (an.lf out (1, (v1_2, v1_3))))
def lp_R07_Find_1  (L : Nat) (a0 : (List ByteArray)) (a1 : ByteArray) : Nat → Int → Int → Option (Nat × (Int × Int))
  | 0, _, _ => none
  | n + 1, v1_2, v1_3 => lb_R07_Find_1 (anO _)  L a0 a1 (lp_R07_Find_1  L a0 a1 n) some v1_2 v1_3
theorem ln172_1  (L : Nat) (a0 : (List ByteArray)) (a1 : ByteArray) (g : Int → Int → Option (Nat × (Int × Int))) (Q : Nat × (Int × Int) → Prop) (v1_2 : Int) (v1_3 : Int) : lb_R07_Find_1 anP  L a0 a1 (fun v1_2 v1_3 => ob (g v1_2 v1_3) Q) Q v1_2 v1_3 = ob (lb_R07_Find_1 (anO _)  L a0 a1 g some v1_2 v1_3) Q := by
  unfold lb_R07_Find_1
  dsimp only [anP, anO]
  try simp only [y1, y2, y3, y4, y5 Q, y6, y7, y8 Q, y9, z1, z2, z3, z4]
theorem le172_1  (L : Nat) (a0 : (List ByteArray)) (a1 : ByteArray) (n : Nat) (v1_2 : Int) (v1_3 : Int) (K : Ex → St → Prop) : loopN (EV (O172 L) L 9 c172.r.r.l.r.r.l.l) [0, 1, 4, 5] [] n (sh172_1 a0 a1 v1_2 v1_3) K = ob (lp_R07_Find_1  L a0 a1 n v1_2 v1_3) (fun o => KK172_1 a0 a1 K o) := by
  induction n generalizing v1_2 v1_3 with
  | zero => rfl
  | succ n ih =>
    refine Eq.trans (b := lb_R07_Find_1 anP  L a0 a1 (fun v1_2 v1_3 => loopN (EV (O172 L) L 9 c172.r.r.l.r.r.l.l) [0, 1, 4, 5] [] n (sh172_1 a0 a1 v1_2 v1_3) K) (KK172_1 a0 a1 K) v1_2 v1_3) (by kernel_rfl) ?_
    simp only [ih]
    exact ln172_1  L a0 a1 (lp_R07_Find_1  L a0 a1 n) (KK172_1 a0 a1 K) v1_2 v1_3
def kc172_1  (L : Nat)  (kk : PV → Prop) : Ex → St → Prop := (kBlock 0 (kSeq (EV (O172 L) L 9 c172.r.r.r) (kEnd Tryz.prog (RS Tryz.f172) kk)))
theorem q172_1  (L : Nat) (a0 : (List ByteArray)) (a1 : ByteArray) (kk : PV → Prop) (o1 : Nat × (Int × Int)) : KK172_1 a0 a1 (kc172_1 L kk) o1 =
 (seln o1.1 [(ob (some o1.2.1) (fun (x : Int) => kk (I x))),
 (ob (some (-1)) (fun (x : Int) => kk (I x)))]) := by kernel_rfl
def T_R07_Find {A : Type} (an : An A)  (L : Nat) (a0 : (List ByteArray)) (a1 : ByteArray) (out : Int → A) : A :=
 (an.bd (lp_R07_Find_1 L a0 a1 L 0 0) fun o1 =>
 (an.sl o1.1 [(an.lf out o1.2.1),
 (an.lf out (-1))]))
def F_R07_Find  (L : Nat) (a0 : (List ByteArray)) (a1 : ByteArray) : Option Int := T_R07_Find (anO _) L a0 a1 some
theorem e172  (L : Nat) (a0 : (List ByteArray)) (a1 : ByteArray) (kk : PV → Prop) : EW (O172 L) L 9 (RS Tryz.f172) c172 [.lst false (.t9 a0), S a1] kk = ob (F_R07_Find L a0 a1) (fun (x : Int) => kk (I x)) := by
  refine Eq.trans (b := T_R07_Find anP L a0 a1 (fun (x : Int) => kk (I x))) ?_ ?_
  · refine Eq.trans (b := (loopN (EV (O172 L) L 9 c172.r.r.l.r.r.l.l) [0, 1, 4, 5] [] L (sh172_1 a0 a1 0 0) (kc172_1 L kk))) (by kernel_rfl) ?_
    unfold T_R07_Find
    dsimp only [anP]
    simp only [le172_1, q172_1]
  generalize (fun (x : Int) => kk (I x)) = Q
  unfold F_R07_Find T_R07_Find
  dsimp only [anP, anO]
  try simp only [y1, y2, y3, y4, y5 Q, y6, y7, y8 Q, y9, z1, z2, z3, z4]
theorem h172   (L : Nat) (a0 : (List ByteArray)) (a1 : ByteArray) (r : Int) (h : F_R07_Find L a0 a1 = some r) : Holds Tryz.prog 172 [.lst false (.t9 a0), S a1] (I r) :=
  hE grwOK (s172  L) mixed Tryz.func172 (by kernel_rfl : cFn Tryz.prog inl Tryz.f172 = some c172) (er := fun (x : Int) => I x) (by kernel_rfl) (e172 L a0 a1) h
/-! ### simulator/simulatorref07.Keyword -/
noncomputable def c112 : EC := (cFn Tryz.prog inl Tryz.f112).getD .stop
def O112  (L : Nat) : Oracle := (orc 172 (A2 (fun (x : Int) => I x) cl9 cS (F_R07_Find L)) (orc 173 (A0 (fun (x : (List ByteArray)) => .lst false (.t9 x))  (F_R07_Keywords L)) noC))
theorem s112   (L : Nat) : SoundC Tryz.prog (O112 L) := (orc_sound (a2 _ (h172 L)) (orc_sound (a0 _ (h173 L)) (noC_sound Tryz.prog)))
def T_R07_Keyword {A : Type} (an : An A)  (L : Nat) (a0 : ByteArray) (out : Bool → A) : A :=
 (an.bd (F_R07_Keywords L) fun r1 =>
 (an.bd (F_R07_Find L r1 a0) fun r2 =>
 (an.lf out (decide (r2 ≥ 0)))))
def F_R07_Keyword  (L : Nat) (a0 : ByteArray) : Option Bool := T_R07_Keyword (anO _) L a0 some
theorem e112  (L : Nat) (a0 : ByteArray) (kk : PV → Prop) : EW (O112 L) L 9 (RS Tryz.f112) c112 [S a0] kk = ob (F_R07_Keyword L a0) (fun (x : Bool) => kk (B x)) := by
  refine Eq.trans (b := T_R07_Keyword anP L a0 (fun (x : Bool) => kk (B x))) (by kernel_rfl) ?_
  generalize (fun (x : Bool) => kk (B x)) = Q
  unfold F_R07_Keyword T_R07_Keyword
  dsimp only [anP, anO]
  try simp only [y1, y2, y3, y4, y5 Q, y6, y7, y8 Q, y9, z1, z2, z3, z4]
theorem h112   (L : Nat) (a0 : ByteArray) (r : Bool) (h : F_R07_Keyword L a0 = some r) : Holds Tryz.prog 112 [S a0] (B r) :=
  hE grwOK (s112  L) mixed Tryz.func112 (by kernel_rfl : cFn Tryz.prog inl Tryz.f112 = some c112) (er := fun (x : Bool) => B x) (by kernel_rfl) (e112 L a0) h
/-! ### simulator/simulatorref07.Check -/
noncomputable def c81 : EC := (cFn Tryz.prog inl Tryz.f81).getD .stop
def O81  (L : Nat) : Oracle := (orc 111 (A1 (fun (x : Bool) => B x) (cI .u8) (F_R07_letter L)) (orc 112 (A1 (fun (x : Bool) => B x) cS (F_R07_Keyword L)) noC))
theorem s81   (L : Nat) : SoundC Tryz.prog (O81 L) := (orc_sound (a1 _ (h111 L)) (orc_sound (a1 _ (h112 L)) (noC_sound Tryz.prog)))
def sh81_1 (a0 : ByteArray) (v1_1 : Int) (v1_2 : Int) : St := ({ fr := [(0, S a0), (2, I v1_1), (3, I v1_2)], ob := [], base := 0 } : St)
def KK81_1 (a0 : ByteArray) (K : Ex → St → Prop) : Nat × (Int × Int) → Prop := fun o => seln o.1 [K .ret (sh81_1 a0 o.2.1 o.2.2), K (.exit 0) (sh81_1 a0 o.2.1 o.2.2)]
def lb_R07_Check_1 {A : Type} (an : An A)  (L : Nat) (a0 : ByteArray) (rec : Int → Int → A) (out : Nat × (Int × Int) → A) (v1_1 : Int) (v1_2 : Int) : A :=
 (an.cn (decide (v1_2 < (a0.size : Int)))
 (an.cn ((if 0 ≤ v1_2 then a0[Int.toNat v1_2]? else none).isSome)
 (an.bd (F_R07_letter L (optByte (if 0 ≤ v1_2 then a0[Int.toNat v1_2]? else none))) fun r8 =>
 (an.jb (bif (!r8) then (bif ((if 0 ≤ v1_2 then a0[Int.toNat v1_2]? else none).isSome) then (some ((optByte (if 0 ≤ v1_2 then a0[Int.toNat v1_2]? else none)) != 95))
 else none)
 else (some false)) (fun j => (an.cn (!r8)
 (an.cn ((if 0 ≤ v1_2 then a0[Int.toNat v1_2]? else none).isSome)
 (an.lf j ((optByte (if 0 ≤ v1_2 then a0[Int.toNat v1_2]? else none)) != 95))
 (an.bd none j))
 (an.lf j false))) (fun b9 =>
 (an.jb (bif b9 then (bif ((if 0 ≤ v1_2 then a0[Int.toNat v1_2]? else none).isSome) then (bif (decide ((optByte (if 0 ≤ v1_2 then a0[Int.toNat v1_2]? else none)) < 48)) then (some true)
 else (bif ((if 0 ≤ v1_2 then a0[Int.toNat v1_2]? else none).isSome) then (some (decide ((optByte (if 0 ≤ v1_2 then a0[Int.toNat v1_2]? else none)) > 57)))
 else none))
 else none)
 else (some false)) (fun j => (an.cn b9
 (an.cn ((if 0 ≤ v1_2 then a0[Int.toNat v1_2]? else none).isSome)
 (an.cn (decide ((optByte (if 0 ≤ v1_2 then a0[Int.toNat v1_2]? else none)) < 48))
 (an.lf j true)
 (an.cn ((if 0 ≤ v1_2 then a0[Int.toNat v1_2]? else none).isSome)
 (an.lf j (decide ((optByte (if 0 ≤ v1_2 then a0[Int.toNat v1_2]? else none)) > 57)))
 (an.bd none j)))
 (an.bd none j))
 (an.lf j false))) (fun b10 =>
 (an.cn b10
 (an.lf out (0, (3, v1_2)))
 (rec v1_1 (w64 (v1_2 + 1)))))))))
 an.fl)
 (an.lf out (1, (v1_1, v1_2))))
def lp_R07_Check_1  (L : Nat) (a0 : ByteArray) : Nat → Int → Int → Option (Nat × (Int × Int))
  | 0, _, _ => none
  | n + 1, v1_1, v1_2 => lb_R07_Check_1 (anO _)  L a0 (lp_R07_Check_1  L a0 n) some v1_1 v1_2
theorem ln81_1  (L : Nat) (a0 : ByteArray) (g : Int → Int → Option (Nat × (Int × Int))) (Q : Nat × (Int × Int) → Prop) (v1_1 : Int) (v1_2 : Int) : lb_R07_Check_1 anP  L a0 (fun v1_1 v1_2 => ob (g v1_1 v1_2) Q) Q v1_1 v1_2 = ob (lb_R07_Check_1 (anO _)  L a0 g some v1_1 v1_2) Q := by
  unfold lb_R07_Check_1
  dsimp only [anP, anO]
  try simp only [y1, y2, y3, y4, y5 Q, y6, y7, y8 Q, y9, z1, z2, z3, z4]
theorem le81_1  (L : Nat) (a0 : ByteArray) (n : Nat) (v1_1 : Int) (v1_2 : Int) (K : Ex → St → Prop) : loopN (EV (O81 L) L 9 c81.r.r.r.r.l.r.r.l.l) [0, 2, 3] [] n (sh81_1 a0 v1_1 v1_2) K = ob (lp_R07_Check_1  L a0 n v1_1 v1_2) (fun o => KK81_1 a0 K o) := by
  induction n generalizing v1_1 v1_2 with
  | zero => rfl
  | succ n ih =>
    refine Eq.trans (b := lb_R07_Check_1 anP  L a0 (fun v1_1 v1_2 => loopN (EV (O81 L) L 9 c81.r.r.r.r.l.r.r.l.l) [0, 2, 3] [] n (sh81_1 a0 v1_1 v1_2) K) (KK81_1 a0 K) v1_1 v1_2) (by kernel_rfl) ?_
    simp only [ih]
    exact ln81_1  L a0 (lp_R07_Check_1  L a0 n) (KK81_1 a0 K) v1_1 v1_2
def kc81_1  (L : Nat)  (kk : PV → Prop) : Ex → St → Prop := (kBlock 0 (kSeq (EV (O81 L) L 9 c81.r.r.r.r.r) (kEnd Tryz.prog (RS Tryz.f81) kk)))
theorem q81_1  (L : Nat) (a0 : ByteArray) (kk : PV → Prop) (o6 : Nat × (Int × Int)) : KK81_1 a0 (kc81_1 L kk) o6 =
 (seln o6.1 [(ob (some o6.2.1) (fun (x : Int) => kk (I x))),
 (ob (some 0) (fun (x : Int) => kk (I x)))]) := by kernel_rfl
def T_R07_Check {A : Type} (an : An A)  (L : Nat) (a0 : ByteArray) (out : Int → A) : A :=
 (an.jp (bif (decide ((a0.size : Int) < 1)) then true
 else (decide ((a0.size : Int) > 24))) (fun j => (an.cn (decide ((a0.size : Int) < 1))
 (an.ap j true)
 (an.ap j (decide ((a0.size : Int) > 24))))) (fun b1 =>
 (an.jb (bif b1 then (some true)
 else (bif ((if 0 ≤ 0 then a0[Int.toNat 0]? else none).isSome) then (Option.bind (F_R07_letter L (optByte (if 0 ≤ 0 then a0[Int.toNat 0]? else none))) fun r3 =>
 (some (!r3)))
 else none)) (fun j => (an.cn b1
 (an.lf j true)
 (an.cn ((if 0 ≤ 0 then a0[Int.toNat 0]? else none).isSome)
 (an.bd (F_R07_letter L (optByte (if 0 ≤ 0 then a0[Int.toNat 0]? else none))) fun r4 =>
 (an.lf j (!r4)))
 (an.bd none j)))) (fun b2 =>
 (an.jb (bif b2 then (some true)
 else (Option.bind (F_R07_Keyword L a0) fun r6 =>
 (some r6))) (fun j => (an.cn b2
 (an.lf j true)
 (an.bd (F_R07_Keyword L a0) fun r7 =>
 (an.lf j r7)))) (fun b5 =>
 (an.cn b5
 (an.lf out 3)
 (an.bd (lp_R07_Check_1 L a0 L 0 0) fun o8 =>
 (an.sl o8.1 [(an.lf out o8.2.1),
 (an.lf out 0)])))))))))
def F_R07_Check  (L : Nat) (a0 : ByteArray) : Option Int := T_R07_Check (anO _) L a0 some
theorem e81  (L : Nat) (a0 : ByteArray) (kk : PV → Prop) : EW (O81 L) L 9 (RS Tryz.f81) c81 [S a0] kk = ob (F_R07_Check L a0) (fun (x : Int) => kk (I x)) := by
  refine Eq.trans (b := T_R07_Check anP L a0 (fun (x : Int) => kk (I x))) ?_ ?_
  · refine Eq.trans (b := (jn (fun j => (br (decide ((a0.size : Int) < 1))
 (ap j true)
 (ap j (decide ((a0.size : Int) > 24))))) (fun b1 =>
 (jn (fun j => (br b1
 (ob (some true) j)
 (br ((if 0 ≤ 0 then a0[Int.toNat 0]? else none).isSome)
 (ob (F_R07_letter L (optByte (if 0 ≤ 0 then a0[Int.toNat 0]? else none))) fun r3 =>
 (ob (some (!r3)) j))
 (ob none j)))) (fun b2 =>
 (jn (fun j => (br b2
 (ob (some true) j)
 (ob (F_R07_Keyword L a0) fun r5 =>
 (ob (some r5) j)))) (fun b4 =>
 (br b4
 (ob (some 3) (fun (x : Int) => kk (I x)))
 (loopN (EV (O81 L) L 9 c81.r.r.r.r.l.r.r.l.l) [0, 2, 3] [] L (sh81_1 a0 0 0) (kc81_1 L kk)))))))))) (by kernel_rfl) ?_
    unfold T_R07_Check
    dsimp only [anP]
    simp only [le81_1, q81_1]
  generalize (fun (x : Int) => kk (I x)) = Q
  unfold F_R07_Check T_R07_Check
  dsimp only [anP, anO]
  try simp only [y1, y2, y3, y4, y5 Q, y6, y7, y8 Q, y9, z1, z2, z3, z4]
theorem h81   (L : Nat) (a0 : ByteArray) (r : Int) (h : F_R07_Check L a0 = some r) : Holds Tryz.prog 81 [S a0] (I r) :=
  hE grwOK (s81  L) mixed Tryz.func81 (by kernel_rfl : cFn Tryz.prog inl Tryz.f81 = some c81) (er := fun (x : Int) => I x) (by kernel_rfl) (e81 L a0) h
/-! ### simulator/simulatorref09.node -/
noncomputable def c46 : EC := (cFn Tryz.prog inl Tryz.f46).getD .stop
def O46 (rec46 : api_Expr → Bool → Option Int) (L : Nat) : Oracle := (orc 46 (A2 (fun (x : Int) => I x) ca_api_Expr cB rec46) (orc 77 (A1 (fun (x : Int) => I x) (cI .i64) (F_R09_Arity L)) (orc 78 (A1 (fun (x : Bool) => B x) (cI .i64) (F_R09_object L)) (orc 79 (A1 (fun (x : Bool) => B x) (cI .i64) (F_R01_In L)) (orc 80 (A1 (fun (x : Int) => I x) (cI .i64) (F_R09_most L)) (orc 81 (A1 (fun (x : Int) => I x) cS (F_R07_Check L)) noC))))))
theorem s46 (rec46 : api_Expr → Bool → Option Int) (hr46 : ∀ (y0 : api_Expr) (y1 : Bool) (r : Int), rec46 y0 y1 = some r → Holds Tryz.prog 46 [.agg (enapi_Expr y0), B y1] (I r)) (L : Nat) : SoundC Tryz.prog (O46 rec46 L) := (orc_sound (a2 _ hr46) (orc_sound (a1 _ (h77 L)) (orc_sound (a1 _ (h78 L)) (orc_sound (a1 _ (h79 L)) (orc_sound (a1 _ (h80 L)) (orc_sound (a1 _ (h81 L)) (noC_sound Tryz.prog)))))))
def sh46_1 (a1 : Bool) (a0 : api_Expr) (v1_1 : Int) (v1_2 : Int) : St := ({ fr := [(0, .any), (1, B a1), (2, .loc 2 0), (4, I v1_1), (5, .any), (6, .any), (7, .any), (8, .any), (9, .any), (10, I v1_2)], ob := [(2, (enapi_Expr a0))], base := 0 } : St)
def KK46_1 (a1 : Bool) (a0 : api_Expr) (K : Ex → St → Prop) : Nat × (Int × Int) → Prop := fun o => seln o.1 [K .ret (sh46_1 a1 a0 o.2.1 o.2.2), K (.exit 0) (sh46_1 a1 a0 o.2.1 o.2.2)]
def lb_R09_node_1 {A : Type} (an : An A) (rec46 : api_Expr → Bool → Option Int) (L : Nat) (a1 : Bool) (a0 : api_Expr) (rec : Int → Int → A) (out : Nat × (Int × Int) → A) (v1_1 : Int) (v1_2 : Int) : A :=
 (an.cn (decide (v1_2 < (a0.Kids.length : Int)))
 (an.gd ((0 : Int) ≤ v1_2)
 (an.gd (v1_2 < ((a0.Kids.length : Nat) : Int))
 (an.bd (rec46 (api_Expr.cp (a0.Kids.getD (Int.toNat v1_2) default)) a1) fun r25 =>
 (an.cn (r25 != 0)
 (an.lf out (0, (r25, v1_2)))
 (rec v1_1 (w64 (v1_2 + 1)))))))
 (an.lf out (1, (v1_1, v1_2))))
def lp_R09_node_1 (rec46 : api_Expr → Bool → Option Int) (L : Nat) (a1 : Bool) (a0 : api_Expr) : Nat → Int → Int → Option (Nat × (Int × Int))
  | 0, _, _ => none
  | n + 1, v1_1, v1_2 => lb_R09_node_1 (anO _) rec46 L a1 a0 (lp_R09_node_1 rec46 L a1 a0 n) some v1_1 v1_2
theorem ln46_1 (rec46 : api_Expr → Bool → Option Int) (L : Nat) (a1 : Bool) (a0 : api_Expr) (g : Int → Int → Option (Nat × (Int × Int))) (Q : Nat × (Int × Int) → Prop) (v1_1 : Int) (v1_2 : Int) : lb_R09_node_1 anP rec46 L a1 a0 (fun v1_1 v1_2 => ob (g v1_1 v1_2) Q) Q v1_1 v1_2 = ob (lb_R09_node_1 (anO _) rec46 L a1 a0 g some v1_1 v1_2) Q := by
  unfold lb_R09_node_1
  dsimp only [anP, anO]
  try simp only [y1, y2, y3, y4, y5 Q, y6, y7, y8 Q, y9, z1, z2, z3, z4]
theorem le46_1 (rec46 : api_Expr → Bool → Option Int) (L : Nat) (a1 : Bool) (a0 : api_Expr) (n : Nat) (v1_1 : Int) (v1_2 : Int) (K : Ex → St → Prop) : loopN (EV (O46 rec46 L) L 9 c46.r.r.r.r.r.r.r.r.r.r.r.r.r.r.r.r.r.r.l.r.r.l.l) [0, 1, 2, 4, 5, 6, 7, 8, 9, 10] [2] n (sh46_1 a1 a0 v1_1 v1_2) K = ob (lp_R09_node_1 rec46 L a1 a0 n v1_1 v1_2) (fun o => KK46_1 a1 a0 K o) := by
  induction n generalizing v1_1 v1_2 with
  | zero => rfl
  | succ n ih =>
    refine Eq.trans (b := lb_R09_node_1 anP rec46 L a1 a0 (fun v1_1 v1_2 => loopN (EV (O46 rec46 L) L 9 c46.r.r.r.r.r.r.r.r.r.r.r.r.r.r.r.r.r.r.l.r.r.l.l) [0, 1, 2, 4, 5, 6, 7, 8, 9, 10] [2] n (sh46_1 a1 a0 v1_1 v1_2) K) (KK46_1 a1 a0 K) v1_1 v1_2) (by kernel_rfl) ?_
    simp only [ih]
    exact ln46_1 rec46 L a1 a0 (lp_R09_node_1 rec46 L a1 a0 n) (KK46_1 a1 a0 K) v1_1 v1_2
def kc46_1 (rec46 : api_Expr → Bool → Option Int) (L : Nat)  (kk : PV → Prop) : Ex → St → Prop := (kBlock 0 (kSeq (EV (O46 rec46 L) L 9 c46.r.r.r.r.r.r.r.r.r.r.r.r.r.r.r.r.r.r.r) (kEnd Tryz.prog (RS Tryz.f46) kk)))
theorem q46_1 (rec46 : api_Expr → Bool → Option Int) (L : Nat) (a1 : Bool) (a0 : api_Expr) (kk : PV → Prop) (o29 : Nat × (Int × Int)) : KK46_1 a1 a0 (kc46_1 rec46 L kk) o29 =
 (seln o29.1 [(ob (some o29.2.1) (fun (x : Int) => kk (I x))),
 (ob (some 0) (fun (x : Int) => kk (I x)))]) := by kernel_rfl
def sg46_4 (a1 : Bool) (b3 : Bool) (a0 : api_Expr) : St := ({ fr := [(1, B a1), (2, .loc 2 0), (4, I 0), (7, B b3)], ob := [(2, (enapi_Expr a0))], base := 0 } : St)
def kt46_4 (rec46 : api_Expr → Bool → Option Int) (L : Nat) (kk : PV → Prop) : Ex → St → Prop := (kEnd Tryz.prog (RS Tryz.f46) kk)
def tx_R09_node_4 {A : Type} (an : An A) (rec46 : api_Expr → Bool → Option Int) (L : Nat) (a1 : Bool) (b3 : Bool) (a0 : api_Expr) (out : Int → A) : A :=
 (an.jb (bif b3 then (Option.bind (F_R07_Check L a0.Name) fun r22 =>
 (some (r22 != 0)))
 else (some false)) (fun j => (an.cn b3
 (an.bd (F_R07_Check L a0.Name) fun r23 =>
 (an.lf j (r23 != 0)))
 (an.lf j false))) (fun b21 =>
 (an.cn b21
 (an.bd (F_R07_Check L a0.Name) fun r24 =>
 (an.lf out r24))
 (an.bd (lp_R09_node_1 rec46 L a1 a0 L 0 0) fun o25 =>
 (an.sl o25.1 [(an.lf out o25.2.1),
 (an.lf out 0)])))))
theorem ee46_4 (rec46 : api_Expr → Bool → Option Int) (L : Nat) (a1 : Bool) (b3 : Bool) (a0 : api_Expr) (kk : PV → Prop) : EV (O46 rec46 L) L 9 c46.r.r.r.r.r.r.r.r.r.r.r.r.r.r.r.r (sg46_4 a1 b3 a0) (kt46_4 rec46 L  kk) = tx_R09_node_4 anP rec46 L a1 b3 a0 (fun (x : Int) => kk (I x)) := by
  refine Eq.trans (b := (jn (fun j => (br b3
 (ob (F_R07_Check L a0.Name) fun r27 =>
 (ob (some (r27 != 0)) j))
 (ob (some false) j))) (fun b26 =>
 (br b26
 (ob (F_R07_Check L a0.Name) fun r28 =>
 (ob (some r28) (fun (x : Int) => kk (I x))))
 (loopN (EV (O46 rec46 L) L 9 c46.r.r.r.r.r.r.r.r.r.r.r.r.r.r.r.r.r.r.l.r.r.l.l) [0, 1, 2, 4, 5, 6, 7, 8, 9, 10] [2] L (sh46_1 a1 a0 0 0) (kc46_1 rec46 L kk)))))) (by kernel_rfl) ?_
  unfold tx_R09_node_4
  dsimp only [anP]
  simp only [le46_1, q46_1]
theorem tf46_4 (rec46 : api_Expr → Bool → Option Int) (L : Nat) (a1 : Bool) (b3 : Bool) (a0 : api_Expr) (Q : Int → Prop) : tx_R09_node_4 anP rec46 L a1 b3 a0 Q = ob (tx_R09_node_4 (anO _) rec46 L a1 b3 a0 some) Q := by
  unfold tx_R09_node_4
  dsimp only [anP, anO]
  try simp only [y1, y2, y3, y4, y5 Q, y6, y7, y8 Q, y9, z1, z2, z3, z4]
def sg46_3 (a1 : Bool) (b3 : Bool) (b6 : Bool) (a0 : api_Expr) : St := ({ fr := [(1, B a1), (2, .loc 2 0), (4, I 0), (7, B b3), (8, B b6)], ob := [(2, (enapi_Expr a0))], base := 0 } : St)
def kt46_3 (rec46 : api_Expr → Bool → Option Int) (L : Nat) (kk : PV → Prop) : Ex → St → Prop := (kEnd Tryz.prog (RS Tryz.f46) kk)
def sx_R09_node_3 {A : Type} (an : An A) (rec46 : api_Expr → Bool → Option Int) (L : Nat) (a1 : Bool) (b3 : Bool) (b6 : Bool) (a0 : api_Expr) (nx4 : Bool → Bool → api_Expr → A) (out : Int → A) : A :=
 (an.cn (a0.Op == 1)
 (an.bd (F_R01_In L a0.N) fun r14 =>
 (an.cn (!r14)
 (an.lf out 2)
 (an.cn (a0.Op == 2)
 (an.cn (a0.N != 0)
 (an.cn (a0.N != 1)
 (an.lf out 2)
 (an.cn b6
 (an.cn (decide (a0.N < 0))
 (an.lf out 2)
 (an.bd (F_R09_most L a0.Op) fun r15 =>
 (an.cn (decide (a0.N > r15))
 (an.lf out 2)
 (nx4 a1 b3 a0))))
 (nx4 a1 b3 a0)))
 (an.cn b6
 (an.cn (decide (a0.N < 0))
 (an.lf out 2)
 (an.bd (F_R09_most L a0.Op) fun r16 =>
 (an.cn (decide (a0.N > r16))
 (an.lf out 2)
 (nx4 a1 b3 a0))))
 (nx4 a1 b3 a0)))
 (an.cn b6
 (an.cn (decide (a0.N < 0))
 (an.lf out 2)
 (an.bd (F_R09_most L a0.Op) fun r17 =>
 (an.cn (decide (a0.N > r17))
 (an.lf out 2)
 (nx4 a1 b3 a0))))
 (nx4 a1 b3 a0)))))
 (an.cn (a0.Op == 2)
 (an.cn (a0.N != 0)
 (an.cn (a0.N != 1)
 (an.lf out 2)
 (an.cn b6
 (an.cn (decide (a0.N < 0))
 (an.lf out 2)
 (an.bd (F_R09_most L a0.Op) fun r18 =>
 (an.cn (decide (a0.N > r18))
 (an.lf out 2)
 (nx4 a1 b3 a0))))
 (nx4 a1 b3 a0)))
 (an.cn b6
 (an.cn (decide (a0.N < 0))
 (an.lf out 2)
 (an.bd (F_R09_most L a0.Op) fun r19 =>
 (an.cn (decide (a0.N > r19))
 (an.lf out 2)
 (nx4 a1 b3 a0))))
 (nx4 a1 b3 a0)))
 (an.cn b6
 (an.cn (decide (a0.N < 0))
 (an.lf out 2)
 (an.bd (F_R09_most L a0.Op) fun r20 =>
 (an.cn (decide (a0.N > r20))
 (an.lf out 2)
 (nx4 a1 b3 a0))))
 (nx4 a1 b3 a0))))
def tx_R09_node_3 {A : Type} (an : An A) (rec46 : api_Expr → Bool → Option Int) (L : Nat) (a1 : Bool) (b3 : Bool) (b6 : Bool) (a0 : api_Expr) (out : Int → A) : A := sx_R09_node_3 an rec46 L a1 b3 b6 a0 (fun a1 b3 a0 => tx_R09_node_4 an rec46 L a1 b3 a0 out) out
theorem sf46_3 (rec46 : api_Expr → Bool → Option Int) (L : Nat) (a1 : Bool) (b3 : Bool) (b6 : Bool) (a0 : api_Expr) (g4 : Bool → Bool → api_Expr → Option Int) (Q : Int → Prop) : sx_R09_node_3 anP rec46 L a1 b3 b6 a0 (fun a1 b3 a0 => ob (g4 a1 b3 a0) Q) Q = ob (sx_R09_node_3 (anO _) rec46 L a1 b3 b6 a0 g4 some) Q := by
  unfold sx_R09_node_3
  dsimp only [anP, anO]
  try simp only [y1, y2, y3, y4, y5 Q, y6, y7, y8 Q, y9, z1, z2, z3, z4]
theorem eh46_3 (rec46 : api_Expr → Bool → Option Int) (L : Nat) (a1 : Bool) (b3 : Bool) (b6 : Bool) (a0 : api_Expr) (kk : PV → Prop) (z4 : EC) : EV (O46 rec46 L) L 9 (EC.put [false, false] z4 c46.r.r.r.r.r.r.r.r.r.r.r.r.r.r) (sg46_3 a1 b3 b6 a0) (kt46_3 rec46 L  kk) = sx_R09_node_3 anP rec46 L a1 b3 b6 a0 (fun a1 b3 a0 => EV (O46 rec46 L) L 9 z4 (sg46_4 a1 b3 a0) (kt46_4 rec46 L  kk)) (fun (x : Int) => kk (I x)) := by kernel_rfl
theorem ee46_3 (rec46 : api_Expr → Bool → Option Int) (L : Nat) (a1 : Bool) (b3 : Bool) (b6 : Bool) (a0 : api_Expr) (kk : PV → Prop) : EV (O46 rec46 L) L 9 c46.r.r.r.r.r.r.r.r.r.r.r.r.r.r (sg46_3 a1 b3 b6 a0) (kt46_3 rec46 L  kk) = tx_R09_node_3 anP rec46 L a1 b3 b6 a0 (fun (x : Int) => kk (I x)) := by
  refine Eq.trans (b := EV (O46 rec46 L) L 9 (EC.put [false, false] c46.r.r.r.r.r.r.r.r.r.r.r.r.r.r.r.r c46.r.r.r.r.r.r.r.r.r.r.r.r.r.r) (sg46_3 a1 b3 b6 a0) (kt46_3 rec46 L  kk)) (by kernel_rfl) ?_
  refine Eq.trans (eh46_3 rec46 L a1 b3 b6 a0 kk c46.r.r.r.r.r.r.r.r.r.r.r.r.r.r.r.r) ?_
  unfold tx_R09_node_3
  simp only [ee46_4]
theorem tf46_3 (rec46 : api_Expr → Bool → Option Int) (L : Nat) (a1 : Bool) (b3 : Bool) (b6 : Bool) (a0 : api_Expr) (Q : Int → Prop) : tx_R09_node_3 anP rec46 L a1 b3 b6 a0 Q = ob (tx_R09_node_3 (anO _) rec46 L a1 b3 b6 a0 some) Q := by
  unfold tx_R09_node_3
  simp only [tf46_4]
  exact sf46_3 rec46 L a1 b3 b6 a0 (fun a1 b3 a0 => tx_R09_node_4 (anO _) rec46 L a1 b3 a0 some) Q
def sg46_2 (a1 : Bool) (r1 : Int) (b2 : Bool) (b3 : Bool) (b6 : Bool) (b10 : Bool) (a0 : api_Expr) : St := ({ fr := [(1, B a1), (2, .loc 2 0), (4, I 0), (5, I r1), (6, B b2), (7, B b3), (8, B b6), (9, B b10)], ob := [(2, (enapi_Expr a0))], base := 0 } : St)
def kt46_2 (rec46 : api_Expr → Bool → Option Int) (L : Nat) (kk : PV → Prop) : Ex → St → Prop := (kEnd Tryz.prog (RS Tryz.f46) kk)
def sx_R09_node_2 {A : Type} (an : An A) (rec46 : api_Expr → Bool → Option Int) (L : Nat) (a1 : Bool) (r1 : Int) (b2 : Bool) (b3 : Bool) (b6 : Bool) (b10 : Bool) (a0 : api_Expr) (nx3 : Bool → Bool → Bool → api_Expr → A) (out : Int → A) : A :=
 (an.jp (bif (!b2) then true
 else (bif (!b3) then (!(a0.Name.toList == (⟨#[]⟩ : ByteArray).toList))
 else false)) (fun j => (an.cn (!b2)
 (an.ap j true)
 (an.cn (!b3)
 (an.ap j (!(a0.Name.toList == (⟨#[]⟩ : ByteArray).toList)))
 (an.ap j false)))) (fun b11 =>
 (an.jp (bif b11 then true
 else (bif (!b10) then (a0.N != 0)
 else false)) (fun j => (an.cn b11
 (an.ap j true)
 (an.cn (!b10)
 (an.ap j (a0.N != 0))
 (an.ap j false)))) (fun b12 =>
 (an.jp (bif b12 then true
 else ((a0.Kids.length : Int) != r1)) (fun j => (an.cn b12
 (an.ap j true)
 (an.ap j ((a0.Kids.length : Int) != r1)))) (fun b13 =>
 (an.cn b13
 (an.lf out 1)
 (nx3 a1 b3 b6 a0))))))))
def tx_R09_node_2 {A : Type} (an : An A) (rec46 : api_Expr → Bool → Option Int) (L : Nat) (a1 : Bool) (r1 : Int) (b2 : Bool) (b3 : Bool) (b6 : Bool) (b10 : Bool) (a0 : api_Expr) (out : Int → A) : A := sx_R09_node_2 an rec46 L a1 r1 b2 b3 b6 b10 a0 (fun a1 b3 b6 a0 => tx_R09_node_3 an rec46 L a1 b3 b6 a0 out) out
theorem sf46_2 (rec46 : api_Expr → Bool → Option Int) (L : Nat) (a1 : Bool) (r1 : Int) (b2 : Bool) (b3 : Bool) (b6 : Bool) (b10 : Bool) (a0 : api_Expr) (g3 : Bool → Bool → Bool → api_Expr → Option Int) (Q : Int → Prop) : sx_R09_node_2 anP rec46 L a1 r1 b2 b3 b6 b10 a0 (fun a1 b3 b6 a0 => ob (g3 a1 b3 b6 a0) Q) Q = ob (sx_R09_node_2 (anO _) rec46 L a1 r1 b2 b3 b6 b10 a0 g3 some) Q := by
  unfold sx_R09_node_2
  dsimp only [anP, anO]
  try simp only [y1, y2, y3, y4, y5 Q, y6, y7, y8 Q, y9, z1, z2, z3, z4]
theorem eh46_2 (rec46 : api_Expr → Bool → Option Int) (L : Nat) (a1 : Bool) (r1 : Int) (b2 : Bool) (b3 : Bool) (b6 : Bool) (b10 : Bool) (a0 : api_Expr) (kk : PV → Prop) (z3 : EC) : EV (O46 rec46 L) L 9 (EC.put [false, false] z3 c46.r.r.r.r.r.r.r.r.r.r.r.r) (sg46_2 a1 r1 b2 b3 b6 b10 a0) (kt46_2 rec46 L  kk) = sx_R09_node_2 anP rec46 L a1 r1 b2 b3 b6 b10 a0 (fun a1 b3 b6 a0 => EV (O46 rec46 L) L 9 z3 (sg46_3 a1 b3 b6 a0) (kt46_3 rec46 L  kk)) (fun (x : Int) => kk (I x)) := by kernel_rfl
theorem ee46_2 (rec46 : api_Expr → Bool → Option Int) (L : Nat) (a1 : Bool) (r1 : Int) (b2 : Bool) (b3 : Bool) (b6 : Bool) (b10 : Bool) (a0 : api_Expr) (kk : PV → Prop) : EV (O46 rec46 L) L 9 c46.r.r.r.r.r.r.r.r.r.r.r.r (sg46_2 a1 r1 b2 b3 b6 b10 a0) (kt46_2 rec46 L  kk) = tx_R09_node_2 anP rec46 L a1 r1 b2 b3 b6 b10 a0 (fun (x : Int) => kk (I x)) := by
  refine Eq.trans (b := EV (O46 rec46 L) L 9 (EC.put [false, false] c46.r.r.r.r.r.r.r.r.r.r.r.r.r.r c46.r.r.r.r.r.r.r.r.r.r.r.r) (sg46_2 a1 r1 b2 b3 b6 b10 a0) (kt46_2 rec46 L  kk)) (by kernel_rfl) ?_
  refine Eq.trans (eh46_2 rec46 L a1 r1 b2 b3 b6 b10 a0 kk c46.r.r.r.r.r.r.r.r.r.r.r.r.r.r) ?_
  unfold tx_R09_node_2
  simp only [ee46_3]
theorem tf46_2 (rec46 : api_Expr → Bool → Option Int) (L : Nat) (a1 : Bool) (r1 : Int) (b2 : Bool) (b3 : Bool) (b6 : Bool) (b10 : Bool) (a0 : api_Expr) (Q : Int → Prop) : tx_R09_node_2 anP rec46 L a1 r1 b2 b3 b6 b10 a0 Q = ob (tx_R09_node_2 (anO _) rec46 L a1 r1 b2 b3 b6 b10 a0 some) Q := by
  unfold tx_R09_node_2
  simp only [tf46_3]
  exact sf46_2 rec46 L a1 r1 b2 b3 b6 b10 a0 (fun a1 b3 b6 a0 => tx_R09_node_3 (anO _) rec46 L a1 b3 b6 a0 some) Q
def sg46_1 (a1 : Bool) (r1 : Int) (b2 : Bool) (b3 : Bool) (a0 : api_Expr) : St := ({ fr := [(1, B a1), (2, .loc 2 0), (4, I 0), (5, I r1), (6, B b2), (7, B b3)], ob := [(2, (enapi_Expr a0))], base := 0 } : St)
def kt46_1 (rec46 : api_Expr → Bool → Option Int) (L : Nat) (kk : PV → Prop) : Ex → St → Prop := (kEnd Tryz.prog (RS Tryz.f46) kk)
def sx_R09_node_1 {A : Type} (an : An A) (rec46 : api_Expr → Bool → Option Int) (L : Nat) (a1 : Bool) (r1 : Int) (b2 : Bool) (b3 : Bool) (a0 : api_Expr) (nx2 : Bool → Int → Bool → Bool → Bool → Bool → api_Expr → A) (out : Int → A) : A :=
 (an.jb (bif a1 then (Option.bind (F_R09_object L a0.Op) fun r7 =>
 (bif r7 then (some true)
 else (bif (a0.Op == 25) then (some true)
 else (some (a0.Op == 26)))))
 else (some false)) (fun j => (an.cn a1
 (an.bd (F_R09_object L a0.Op) fun r8 =>
 (an.cn r8
 (an.lf j true)
 (an.cn (a0.Op == 25)
 (an.lf j true)
 (an.lf j (a0.Op == 26)))))
 (an.lf j false))) (fun b6 =>
 (an.jp (bif (a0.Op == 1) then true
 else (a0.Op == 2)) (fun j => (an.cn (a0.Op == 1)
 (an.ap j true)
 (an.ap j (a0.Op == 2)))) (fun b9 =>
 (an.jp (bif b9 then true
 else b6) (fun j => (an.cn b9
 (an.ap j true)
 (an.ap j b6))) (fun b10 =>
 (nx2 a1 r1 b2 b3 b6 b10 a0)))))))
def tx_R09_node_1 {A : Type} (an : An A) (rec46 : api_Expr → Bool → Option Int) (L : Nat) (a1 : Bool) (r1 : Int) (b2 : Bool) (b3 : Bool) (a0 : api_Expr) (out : Int → A) : A := sx_R09_node_1 an rec46 L a1 r1 b2 b3 a0 (fun a1 r1 b2 b3 b6 b10 a0 => tx_R09_node_2 an rec46 L a1 r1 b2 b3 b6 b10 a0 out) out
theorem sf46_1 (rec46 : api_Expr → Bool → Option Int) (L : Nat) (a1 : Bool) (r1 : Int) (b2 : Bool) (b3 : Bool) (a0 : api_Expr) (g2 : Bool → Int → Bool → Bool → Bool → Bool → api_Expr → Option Int) (Q : Int → Prop) : sx_R09_node_1 anP rec46 L a1 r1 b2 b3 a0 (fun a1 r1 b2 b3 b6 b10 a0 => ob (g2 a1 r1 b2 b3 b6 b10 a0) Q) Q = ob (sx_R09_node_1 (anO _) rec46 L a1 r1 b2 b3 a0 g2 some) Q := by
  unfold sx_R09_node_1
  dsimp only [anP, anO]
  try simp only [y1, y2, y3, y4, y5 Q, y6, y7, y8 Q, y9, z1, z2, z3, z4]
theorem eh46_1 (rec46 : api_Expr → Bool → Option Int) (L : Nat) (a1 : Bool) (r1 : Int) (b2 : Bool) (b3 : Bool) (a0 : api_Expr) (kk : PV → Prop) (z2 : EC) : EV (O46 rec46 L) L 9 (EC.put [false, false, false, false] z2 c46.r.r.r.r.r.r.r.r) (sg46_1 a1 r1 b2 b3 a0) (kt46_1 rec46 L  kk) = sx_R09_node_1 anP rec46 L a1 r1 b2 b3 a0 (fun a1 r1 b2 b3 b6 b10 a0 => EV (O46 rec46 L) L 9 z2 (sg46_2 a1 r1 b2 b3 b6 b10 a0) (kt46_2 rec46 L  kk)) (fun (x : Int) => kk (I x)) := by kernel_rfl
theorem ee46_1 (rec46 : api_Expr → Bool → Option Int) (L : Nat) (a1 : Bool) (r1 : Int) (b2 : Bool) (b3 : Bool) (a0 : api_Expr) (kk : PV → Prop) : EV (O46 rec46 L) L 9 c46.r.r.r.r.r.r.r.r (sg46_1 a1 r1 b2 b3 a0) (kt46_1 rec46 L  kk) = tx_R09_node_1 anP rec46 L a1 r1 b2 b3 a0 (fun (x : Int) => kk (I x)) := by
  refine Eq.trans (b := EV (O46 rec46 L) L 9 (EC.put [false, false, false, false] c46.r.r.r.r.r.r.r.r.r.r.r.r c46.r.r.r.r.r.r.r.r) (sg46_1 a1 r1 b2 b3 a0) (kt46_1 rec46 L  kk)) (by kernel_rfl) ?_
  refine Eq.trans (eh46_1 rec46 L a1 r1 b2 b3 a0 kk c46.r.r.r.r.r.r.r.r.r.r.r.r) ?_
  unfold tx_R09_node_1
  simp only [ee46_2]
theorem tf46_1 (rec46 : api_Expr → Bool → Option Int) (L : Nat) (a1 : Bool) (r1 : Int) (b2 : Bool) (b3 : Bool) (a0 : api_Expr) (Q : Int → Prop) : tx_R09_node_1 anP rec46 L a1 r1 b2 b3 a0 Q = ob (tx_R09_node_1 (anO _) rec46 L a1 r1 b2 b3 a0 some) Q := by
  unfold tx_R09_node_1
  simp only [tf46_2]
  exact sf46_1 rec46 L a1 r1 b2 b3 a0 (fun a1 r1 b2 b3 b6 b10 a0 => tx_R09_node_2 (anO _) rec46 L a1 r1 b2 b3 b6 b10 a0 some) Q
def sx_R09_node_0 {A : Type} (an : An A) (rec46 : api_Expr → Bool → Option Int) (L : Nat) (a0 : api_Expr) (a1 : Bool) (nx1 : Bool → Int → Bool → Bool → api_Expr → A) (out : Int → A) : A :=
 (an.bd (F_R09_Arity L a0.Op) fun r1 =>
 (an.jp (bif (decide (r1 ≥ 0)) then (bif a1 then (bif (a0.Op != 3) then true
 else (bif (!a1) then (decide (a0.Op ≤ 24))
 else false))
 else (bif (!a1) then (decide (a0.Op ≤ 24))
 else false))
 else false) (fun j => (an.cn (decide (r1 ≥ 0))
 (an.cn a1
 (an.cn (a0.Op != 3)
 (an.ap j true)
 (an.cn (!a1)
 (an.ap j (decide (a0.Op ≤ 24)))
 (an.ap j false)))
 (an.cn (!a1)
 (an.ap j (decide (a0.Op ≤ 24)))
 (an.ap j false)))
 (an.ap j false))) (fun b2 =>
 (an.jb (bif (!a1) then (bif (a0.Op == 3) then (some true)
 else (Option.bind (F_R09_object L a0.Op) fun r4 =>
 (some r4)))
 else (some false)) (fun j => (an.cn (!a1)
 (an.cn (a0.Op == 3)
 (an.lf j true)
 (an.bd (F_R09_object L a0.Op) fun r5 =>
 (an.lf j r5)))
 (an.lf j false))) (fun b3 =>
 (nx1 a1 r1 b2 b3 a0))))))
def T_R09_node {A : Type} (an : An A) (rec46 : api_Expr → Bool → Option Int) (L : Nat) (a0 : api_Expr) (a1 : Bool) (out : Int → A) : A := sx_R09_node_0 an rec46 L a0 a1 (fun a1 r1 b2 b3 a0 => tx_R09_node_1 an rec46 L a1 r1 b2 b3 a0 out) out
theorem sf46_0 (rec46 : api_Expr → Bool → Option Int) (L : Nat) (a0 : api_Expr) (a1 : Bool) (g1 : Bool → Int → Bool → Bool → api_Expr → Option Int) (Q : Int → Prop) : sx_R09_node_0 anP rec46 L a0 a1 (fun a1 r1 b2 b3 a0 => ob (g1 a1 r1 b2 b3 a0) Q) Q = ob (sx_R09_node_0 (anO _) rec46 L a0 a1 g1 some) Q := by
  unfold sx_R09_node_0
  dsimp only [anP, anO]
  try simp only [y1, y2, y3, y4, y5 Q, y6, y7, y8 Q, y9, z1, z2, z3, z4]
theorem eh46_0 (rec46 : api_Expr → Bool → Option Int) (L : Nat) (a0 : api_Expr) (a1 : Bool) (kk : PV → Prop) (z1 : EC) : EW (O46 rec46 L) L 9 (RS Tryz.f46) (EC.put [false, false, false, false, false, false, false, false] z1 c46) [.agg (enapi_Expr a0), B a1] kk = sx_R09_node_0 anP rec46 L a0 a1 (fun a1 r1 b2 b3 a0 => EV (O46 rec46 L) L 9 z1 (sg46_1 a1 r1 b2 b3 a0) (kt46_1 rec46 L  kk)) (fun (x : Int) => kk (I x)) := by kernel_rfl
def B_R09_node (rec46 : api_Expr → Bool → Option Int) (L : Nat) (a0 : api_Expr) (a1 : Bool) : Option Int := T_R09_node (anO _) rec46 L a0 a1 some
theorem e46 (rec46 : api_Expr → Bool → Option Int) (L : Nat) (a0 : api_Expr) (a1 : Bool) (kk : PV → Prop) : EW (O46 rec46 L) L 9 (RS Tryz.f46) c46 [.agg (enapi_Expr a0), B a1] kk = ob (B_R09_node rec46 L a0 a1) (fun (x : Int) => kk (I x)) := by
  refine Eq.trans (b := EW (O46 rec46 L) L 9 (RS Tryz.f46) (EC.put [false, false, false, false, false, false, false, false] c46.r.r.r.r.r.r.r.r c46) [.agg (enapi_Expr a0), B a1] kk) (by kernel_rfl) ?_
  refine Eq.trans (eh46_0 rec46 L a0 a1 kk c46.r.r.r.r.r.r.r.r) ?_
  simp only [ee46_1]
  generalize (fun (x : Int) => kk (I x)) = Q
  simp only [tf46_1]
  unfold B_R09_node T_R09_node
  exact sf46_0 rec46 L a0 a1 (fun a1 r1 b2 b3 a0 => tx_R09_node_1 (anO _) rec46 L a1 r1 b2 b3 a0 some) Q
theorem b46 (rec46 : api_Expr → Bool → Option Int) (hr46 : ∀ (y0 : api_Expr) (y1 : Bool) (r : Int), rec46 y0 y1 = some r → Holds Tryz.prog 46 [.agg (enapi_Expr y0), B y1] (I r)) (L : Nat) (a0 : api_Expr) (a1 : Bool) (r : Int) (h : B_R09_node rec46 L a0 a1 = some r) : Holds Tryz.prog 46 [.agg (enapi_Expr a0), B a1] (I r) :=
  hE grwOK (s46 rec46 hr46 L) mixed Tryz.func46 (by kernel_rfl : cFn Tryz.prog inl Tryz.f46 = some c46) (er := fun (x : Int) => I x) (by kernel_rfl) (e46 rec46 L a0 a1) h
def F_R09_node : Nat → api_Expr → Bool → Option Int
  | 0, _, _ => none
  | L + 1, a0, a1 => B_R09_node (F_R09_node L) L a0 a1
theorem hall46 : ∀ L, (∀ (y0 : api_Expr) (y1 : Bool) (r : Int), F_R09_node L y0 y1 = some r → Holds Tryz.prog 46 [.agg (enapi_Expr y0), B y1] (I r)) := by
  intro L
  induction L with
  | zero => exact fun _ _ r h => (by cases h)
  | succ L ih =>
    have i46 := ih
    exact fun y0 y1 r h => b46 (F_R09_node L) i46 L y0 y1 r h
theorem h46 (L : Nat) : ∀ (y0 : api_Expr) (y1 : Bool) (r : Int), F_R09_node L y0 y1 = some r → Holds Tryz.prog 46 [.agg (enapi_Expr y0), B y1] (I r) := hall46 L
/-! ### simulator/simulatorref09.check -/
noncomputable def c27 : EC := (cFn Tryz.prog inl Tryz.f27).getD .stop
def O27  (L : Nat) : Oracle := (orc 6 (A1 (fun (x : Int) => I x) ca_api_Expr (F_R09_Nodes L)) (orc 45 (A1 (fun (x : Int) => I x) ca_api_Expr (F_R09_Depth L)) (orc 46 (A2 (fun (x : Int) => I x) ca_api_Expr cB (F_R09_node L)) noC)))
theorem s27   (L : Nat) : SoundC Tryz.prog (O27 L) := (orc_sound (a1 _ (h6 L)) (orc_sound (a1 _ (h45 L)) (orc_sound (a2 _ (h46 L)) (noC_sound Tryz.prog))))
def T_R09_check {A : Type} (an : An A)  (L : Nat) (a0 : api_Expr) (a1 : Bool) (out : Int → A) : A :=
 (an.bd (F_R09_Nodes L (api_Expr.cp a0)) fun r1 =>
 (an.cn (decide (r1 > 60))
 (an.lf out 6)
 (an.bd (F_R09_Depth L (api_Expr.cp a0)) fun r2 =>
 (an.cn (decide (r2 > 12))
 (an.lf out 11)
 (an.bd (F_R09_node L (api_Expr.cp a0) a1) fun r3 =>
 (an.lf out r3))))))
def F_R09_check  (L : Nat) (a0 : api_Expr) (a1 : Bool) : Option Int := T_R09_check (anO _) L a0 a1 some
theorem e27  (L : Nat) (a0 : api_Expr) (a1 : Bool) (kk : PV → Prop) : EW (O27 L) L 9 (RS Tryz.f27) c27 [.agg (enapi_Expr a0), B a1] kk = ob (F_R09_check L a0 a1) (fun (x : Int) => kk (I x)) := by
  refine Eq.trans (b := T_R09_check anP L a0 a1 (fun (x : Int) => kk (I x))) (by kernel_rfl) ?_
  generalize (fun (x : Int) => kk (I x)) = Q
  unfold F_R09_check T_R09_check
  dsimp only [anP, anO]
  try simp only [y1, y2, y3, y4, y5 Q, y6, y7, y8 Q, y9, z1, z2, z3, z4]
theorem h27   (L : Nat) (a0 : api_Expr) (a1 : Bool) (r : Int) (h : F_R09_check L a0 a1 = some r) : Holds Tryz.prog 27 [.agg (enapi_Expr a0), B a1] (I r) :=
  hE grwOK (s27  L) mixed Tryz.func27 (by kernel_rfl : cFn Tryz.prog inl Tryz.f27 = some c27) (er := fun (x : Int) => I x) (by kernel_rfl) (e27 L a0 a1) h
/-! ### simulator/simulatorref09.Check -/
noncomputable def c11 : EC := (cFn Tryz.prog inl Tryz.f11).getD .stop
def O11  (L : Nat) : Oracle := (orc 27 (A2 (fun (x : Int) => I x) ca_api_Expr cB (F_R09_check L)) noC)
theorem s11   (L : Nat) : SoundC Tryz.prog (O11 L) := (orc_sound (a2 _ (h27 L)) (noC_sound Tryz.prog))
def T_R09_Check {A : Type} (an : An A)  (L : Nat) (a0 : api_Expr) (out : Int → A) : A :=
 (an.bd (F_R09_check L (api_Expr.cp a0) false) fun r1 =>
 (an.lf out r1))
def F_R09_Check  (L : Nat) (a0 : api_Expr) : Option Int := T_R09_Check (anO _) L a0 some
theorem e11  (L : Nat) (a0 : api_Expr) (kk : PV → Prop) : EW (O11 L) L 9 (RS Tryz.f11) c11 [.agg (enapi_Expr a0)] kk = ob (F_R09_Check L a0) (fun (x : Int) => kk (I x)) := by
  refine Eq.trans (b := T_R09_Check anP L a0 (fun (x : Int) => kk (I x))) (by kernel_rfl) ?_
  generalize (fun (x : Int) => kk (I x)) = Q
  unfold F_R09_Check T_R09_Check
  dsimp only [anP, anO]
  try simp only [y1, y2, y3, y4, y5 Q, y6, y7, y8 Q, y9, z1, z2, z3, z4]
theorem h11   (L : Nat) (a0 : api_Expr) (r : Int) (h : F_R09_Check L a0 = some r) : Holds Tryz.prog 11 [.agg (enapi_Expr a0)] (I r) :=
  hE grwOK (s11  L) mixed Tryz.func11 (by kernel_rfl : cFn Tryz.prog inl Tryz.f11 = some c11) (er := fun (x : Int) => I x) (by kernel_rfl) (e11 L a0) h
/-! ### simulator/simulatorref16.constant -/
noncomputable def c71 : EC := (cFn Tryz.prog inl Tryz.f71).getD .stop
def O71  (L : Nat) : Oracle := noC
theorem s71   (L : Nat) : SoundC Tryz.prog (O71 L) := (noC_sound Tryz.prog)
def T_R16_constant {A : Type} (an : An A)  (L : Nat) (a0 : api_Expr) (out : (Int × Int × Bool) → A) : A :=
 (an.cn (a0.Op == 1)
 (an.lf out (1, a0.N, true))
 (an.cn (a0.Op == 2)
 (an.lf out (2, a0.N, true))
 (an.cn (a0.Op == 7)
 (an.gd ((0 : Int) ≤ 0)
 (an.gd (0 < ((a0.Kids.length : Nat) : Int))
 (an.gd ((0 : Int) ≤ 0)
 (an.gd (0 < ((a0.Kids.length : Nat) : Int))
 (an.lf out (3, (a0.Kids.getD 0 default).N, ((a0.Kids.getD 0 default).Op == 1)))))))
 (an.lf out (0, 0, false)))))
def F_R16_constant  (L : Nat) (a0 : api_Expr) : Option (Int × Int × Bool) := T_R16_constant (anO _) L a0 some
theorem e71  (L : Nat) (a0 : api_Expr) (kk : PV → Prop) : EW (O71 L) L 9 (RS Tryz.f71) c71 [.agg (enapi_Expr a0)] kk = ob (F_R16_constant L a0) (fun (x : (Int × Int × Bool)) => kk (.tup [I x.1, I x.2.1, B x.2.2])) := by
  refine Eq.trans (b := T_R16_constant anP L a0 (fun (x : (Int × Int × Bool)) => kk (.tup [I x.1, I x.2.1, B x.2.2]))) (by kernel_rfl) ?_
  generalize (fun (x : (Int × Int × Bool)) => kk (.tup [I x.1, I x.2.1, B x.2.2])) = Q
  unfold F_R16_constant T_R16_constant
  dsimp only [anP, anO]
  try simp only [y1, y2, y3, y4, y5 Q, y6, y7, y8 Q, y9, z1, z2, z3, z4]
theorem h71   (L : Nat) (a0 : api_Expr) (r : (Int × Int × Bool)) (h : F_R16_constant L a0 = some r) : Holds Tryz.prog 71 [.agg (enapi_Expr a0)] (.tup [I r.1, I r.2.1, B r.2.2]) :=
  hE grwOK (s71  L) mixed Tryz.func71 (by kernel_rfl : cFn Tryz.prog inl Tryz.f71 = some c71) (er := fun (x : (Int × Int × Bool)) => .tup [I x.1, I x.2.1, B x.2.2]) (by kernel_rfl) (e71 L a0) h
end Go.Proofs.YtonfmpiikdmndaaGreat.Ev
