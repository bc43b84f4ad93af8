import Derived.Test.YtonfmpiikdmndaaGreatG2
namespace Go.Proofs.YtonfmpiikdmndaaGreat.Ev
open Go
set_option maxRecDepth 100000
set_option linter.unusedVariables false
set_option linter.unusedSimpArgs false
set_option linter.unnecessarySimpa false
/-! ### simulator/simulatorref16.single -/
noncomputable def c72 : EC := (cFn Tryz.prog inl Tryz.f72).getD .stop
def O72  (L : Nat) : Oracle := noC
theorem s72   (L : Nat) : SoundC Tryz.prog (O72 L) := (noC_sound Tryz.prog)
def T_R16_single {A : Type} (an : An A)  (L : Nat) (a0 : Int) (a1 : Int) (out : (Int × Bool) → A) : A :=
 (an.cn (a0 == 5)
 (an.lf out (a1, (a1 != 2)))
 (an.cn (a0 == 6)
 (an.lf out (a1, (a1 == 2)))
 (an.cn (a0 == 8)
 (an.lf out (1, (a1 == 3)))
 (an.lf out (0, false)))))
def F_R16_single  (L : Nat) (a0 : Int) (a1 : Int) : Option (Int × Bool) := T_R16_single (anO _) L a0 a1 some
theorem e72  (L : Nat) (a0 : Int) (a1 : Int) (kk : PV → Prop) : EW (O72 L) L 9 (RS Tryz.f72) c72 [I a0, I a1] kk = ob (F_R16_single L a0 a1) (fun (x : (Int × Bool)) => kk (.tup [I x.1, B x.2])) := by
  refine Eq.trans (b := T_R16_single anP L a0 a1 (fun (x : (Int × Bool)) => kk (.tup [I x.1, B x.2]))) (by kernel_rfl) ?_
  generalize (fun (x : (Int × Bool)) => kk (.tup [I x.1, B x.2])) = Q
  unfold F_R16_single T_R16_single
  dsimp only [anP, anO]
  try simp only [y1, y2, y3, y4, y5 Q, y6, y7, y8 Q, y9, z1, z2, z3, z4]
theorem h72   (L : Nat) (a0 : Int) (a1 : Int) (r : (Int × Bool)) (h : F_R16_single L a0 a1 = some r) : Holds Tryz.prog 72 [I a0, I a1] (.tup [I r.1, B r.2]) :=
  hE grwOK (s72  L) mixed Tryz.func72 (by kernel_rfl : cFn Tryz.prog inl Tryz.f72 = some c72) (er := fun (x : (Int × Bool)) => .tup [I x.1, B x.2]) (by kernel_rfl) (e72 L a0 a1) h
/-! ### simulator/simulatorref01.Clip -/
noncomputable def c105 : EC := (cFn Tryz.prog inl Tryz.f105).getD .stop
def O105  (L : Nat) : Oracle := noC
theorem s105   (L : Nat) : SoundC Tryz.prog (O105 L) := (noC_sound Tryz.prog)
def T_R01_Clip {A : Type} (an : An A)  (L : Nat) (a0 : Int) (out : Int → A) : A :=
 (an.cn (decide (a0 > 1000000000000))
 (an.lf out 1000000000000)
 (an.cn (decide (a0 < (-1000000000000)))
 (an.lf out (-1000000000000))
 (an.lf out a0)))
def F_R01_Clip  (L : Nat) (a0 : Int) : Option Int := T_R01_Clip (anO _) L a0 some
theorem e105  (L : Nat) (a0 : Int) (kk : PV → Prop) : EW (O105 L) L 9 (RS Tryz.f105) c105 [I a0] kk = ob (F_R01_Clip L a0) (fun (x : Int) => kk (I x)) := by
  refine Eq.trans (b := T_R01_Clip anP L a0 (fun (x : Int) => kk (I x))) (by kernel_rfl) ?_
  generalize (fun (x : Int) => kk (I x)) = Q
  unfold F_R01_Clip T_R01_Clip
  dsimp only [anP, anO]
  try simp only [y1, y2, y3, y4, y5 Q, y6, y7, y8 Q, y9, z1, z2, z3, z4]
theorem h105   (L : Nat) (a0 : Int) (r : Int) (h : F_R01_Clip L a0 = some r) : Holds Tryz.prog 105 [I a0] (I r) :=
  hE grwOK (s105  L) mixed Tryz.func105 (by kernel_rfl : cFn Tryz.prog inl Tryz.f105 = some c105) (er := fun (x : Int) => I x) (by kernel_rfl) (e105 L a0) h
/-! ### simulator/simulatorref15.One -/
noncomputable def c106 : EC := (cFn Tryz.prog inl Tryz.f106).getD .stop
def O106  (L : Nat) : Oracle := noC
theorem s106   (L : Nat) : SoundC Tryz.prog (O106 L) := (noC_sound Tryz.prog)
def T_R15_One {A : Type} (an : An A)  (L : Nat) (a0 : Bool) (out : Int → A) : A :=
 (an.cn a0
 (an.lf out 1)
 (an.lf out 0))
def F_R15_One  (L : Nat) (a0 : Bool) : Option Int := T_R15_One (anO _) L a0 some
theorem e106  (L : Nat) (a0 : Bool) (kk : PV → Prop) : EW (O106 L) L 9 (RS Tryz.f106) c106 [B a0] kk = ob (F_R15_One L a0) (fun (x : Int) => kk (I x)) := by
  refine Eq.trans (b := T_R15_One anP L a0 (fun (x : Int) => kk (I x))) (by kernel_rfl) ?_
  generalize (fun (x : Int) => kk (I x)) = Q
  unfold F_R15_One T_R15_One
  dsimp only [anP, anO]
  try simp only [y1, y2, y3, y4, y5 Q, y6, y7, y8 Q, y9, z1, z2, z3, z4]
theorem h106   (L : Nat) (a0 : Bool) (r : Int) (h : F_R15_One L a0 = some r) : Holds Tryz.prog 106 [B a0] (I r) :=
  hE grwOK (s106  L) mixed Tryz.func106 (by kernel_rfl : cFn Tryz.prog inl Tryz.f106 = some c106) (er := fun (x : Int) => I x) (by kernel_rfl) (e106 L a0) h
/-! ### simulator/simulatorref15.Unary -/
noncomputable def c74 : EC := (cFn Tryz.prog inl Tryz.f74).getD .stop
def O74  (L : Nat) : Oracle := (orc 105 (A1 (fun (x : Int) => I x) (cI .i64) (F_R01_Clip L)) (orc 106 (A1 (fun (x : Int) => I x) cB (F_R15_One L)) noC))
theorem s74   (L : Nat) : SoundC Tryz.prog (O74 L) := (orc_sound (a1 _ (h105 L)) (orc_sound (a1 _ (h106 L)) (noC_sound Tryz.prog)))
def T_R15_Unary {A : Type} (an : An A)  (L : Nat) (a0 : Int) (a1 : Int) (out : Int → A) : A :=
 (an.cn (a0 == 5)
 (an.bd (F_R01_Clip L a1) fun r1 =>
 (an.lf out (w64 (0 - r1))))
 (an.cn (a0 == 6)
 (an.bd (F_R15_One L (a1 == 0)) fun r2 =>
 (an.lf out r2))
 (an.cn (a0 == 7)
 (an.cn (a0 == 7)
 (an.lf out a1)
 (an.lf out 0))
 (an.cn (a0 == 8)
 (an.lf out a1)
 (an.lf out 0)))))
def F_R15_Unary  (L : Nat) (a0 : Int) (a1 : Int) : Option Int := T_R15_Unary (anO _) L a0 a1 some
theorem e74  (L : Nat) (a0 : Int) (a1 : Int) (kk : PV → Prop) : EW (O74 L) L 9 (RS Tryz.f74) c74 [I a0, I a1] kk = ob (F_R15_Unary L a0 a1) (fun (x : Int) => kk (I x)) := by
  refine Eq.trans (b := T_R15_Unary anP L a0 a1 (fun (x : Int) => kk (I x))) (by kernel_rfl) ?_
  generalize (fun (x : Int) => kk (I x)) = Q
  unfold F_R15_Unary T_R15_Unary
  dsimp only [anP, anO]
  try simp only [y1, y2, y3, y4, y5 Q, y6, y7, y8 Q, y9, z1, z2, z3, z4]
theorem h74   (L : Nat) (a0 : Int) (a1 : Int) (r : Int) (h : F_R15_Unary L a0 a1 = some r) : Holds Tryz.prog 74 [I a0, I a1] (I r) :=
  hE grwOK (s74  L) mixed Tryz.func74 (by kernel_rfl : cFn Tryz.prog inl Tryz.f74 = some c74) (er := fun (x : Int) => I x) (by kernel_rfl) (e74 L a0 a1) h
/-! ### simulator/simulatorref09.Const -/
noncomputable def c73 : EC := (cFn Tryz.prog inl Tryz.f73).getD .stop
def O73 (rec73 : Int → Int → Option api_Expr) (L : Nat) : Oracle := (orc 73 (A2 (fun (x : api_Expr) => .agg (enapi_Expr x)) (cI .i64) (cI .i64) rec73) noC)
theorem s73 (rec73 : Int → Int → Option api_Expr) (hr73 : ∀ (y0 : Int) (y1 : Int) (r : api_Expr), rec73 y0 y1 = some r → Holds Tryz.prog 73 [I y0, I y1] (.agg (enapi_Expr r))) (L : Nat) : SoundC Tryz.prog (O73 rec73 L) := (orc_sound (a2 _ hr73) (noC_sound Tryz.prog))
def T_R09_Const {A : Type} (an : An A) (rec73 : Int → Int → Option api_Expr) (L : Nat) (a0 : Int) (a1 : Int) (out : api_Expr → A) : A :=
 (an.cn (a0 == 1)
 (an.lf out (api_Expr.mk 1 (⟨#[]⟩ : ByteArray) a1 []))
 (an.cn (a0 == 2)
 (an.cn (a1 != 0)
 (an.lf out (api_Expr.mk 2 (⟨#[]⟩ : ByteArray) 1 []))
 (an.lf out (api_Expr.mk 2 (⟨#[]⟩ : ByteArray) 0 [])))
 (an.cn (a0 == 3)
 (an.bd (rec73 1 a1) fun r1 =>
 (an.lf out (api_Expr.mk 7 (⟨#[]⟩ : ByteArray) 0 [(api_Expr.cp r1)])))
 (an.lf out (api_Expr.mk 0 (⟨#[]⟩ : ByteArray) 0 [])))))
def B_R09_Const (rec73 : Int → Int → Option api_Expr) (L : Nat) (a0 : Int) (a1 : Int) : Option api_Expr := T_R09_Const (anO _) rec73 L a0 a1 some
theorem e73 (rec73 : Int → Int → Option api_Expr) (L : Nat) (a0 : Int) (a1 : Int) (kk : PV → Prop) : EW (O73 rec73 L) L 9 (RS Tryz.f73) c73 [I a0, I a1] kk = ob (B_R09_Const rec73 L a0 a1) (fun (x : api_Expr) => kk (.agg (enapi_Expr x))) := by
  refine Eq.trans (b := T_R09_Const anP rec73 L a0 a1 (fun (x : api_Expr) => kk (.agg (enapi_Expr x)))) (by kernel_rfl) ?_
  generalize (fun (x : api_Expr) => kk (.agg (enapi_Expr x))) = Q
  unfold B_R09_Const T_R09_Const
  dsimp only [anP, anO]
  try simp only [y1, y2, y3, y4, y5 Q, y6, y7, y8 Q, y9, z1, z2, z3, z4]
theorem b73 (rec73 : Int → Int → Option api_Expr) (hr73 : ∀ (y0 : Int) (y1 : Int) (r : api_Expr), rec73 y0 y1 = some r → Holds Tryz.prog 73 [I y0, I y1] (.agg (enapi_Expr r))) (L : Nat) (a0 : Int) (a1 : Int) (r : api_Expr) (h : B_R09_Const rec73 L a0 a1 = some r) : Holds Tryz.prog 73 [I a0, I a1] (.agg (enapi_Expr r)) :=
  hE grwOK (s73 rec73 hr73 L) mixed Tryz.func73 (by kernel_rfl : cFn Tryz.prog inl Tryz.f73 = some c73) (er := fun (x : api_Expr) => .agg (enapi_Expr x)) (by kernel_rfl) (e73 rec73 L a0 a1) h
def F_R09_Const : Nat → Int → Int → Option api_Expr
  | 0, _, _ => none
  | L + 1, a0, a1 => B_R09_Const (F_R09_Const L) L a0 a1
theorem hall73 : ∀ L, (∀ (y0 : Int) (y1 : Int) (r : api_Expr), F_R09_Const L y0 y1 = some r → Holds Tryz.prog 73 [I y0, I y1] (.agg (enapi_Expr r))) := by
  intro L
  induction L with
  | zero => exact fun _ _ r h => (by cases h)
  | succ L ih =>
    have i73 := ih
    exact fun y0 y1 r h => b73 (F_R09_Const L) i73 L y0 y1 r h
theorem h73 (L : Nat) : ∀ (y0 : Int) (y1 : Int) (r : api_Expr), F_R09_Const L y0 y1 = some r → Holds Tryz.prog 73 [I y0, I y1] (.agg (enapi_Expr r)) := hall73 L
/-! ### simulator/simulatorref16.double -/
noncomputable def c75 : EC := (cFn Tryz.prog inl Tryz.f75).getD .stop
def O75  (L : Nat) : Oracle := noC
theorem s75   (L : Nat) : SoundC Tryz.prog (O75 L) := (noC_sound Tryz.prog)
def sg75_4 (a1 : Int) (a2 : Int) (p804_4 : Bool) : St := ({ fr := [(1, I a1), (2, I a2), (6, I 0), (7, B false), (71, B p804_4)], ob := [], base := 0 } : St)
def kt75_4  (L : Nat) (e0 : EC) (kk : PV → Prop) : Ex → St → Prop := (kBlock 0 (kSeq (EV (O75 L) L 9 e0) (kEnd Tryz.prog (RS Tryz.f75) kk)))
def tx_R16_double_4 {A : Type} (an : An A)  (L : Nat) (a1 : Int) (a2 : Int) (p804_4 : Bool) (out : (Int × Bool) → A) : A :=
 (an.cn p804_4
 (an.jp (bif (a1 == 2) then (a2 == 2)
 else false) (fun j => (an.cn (a1 == 2)
 (an.ap j (a2 == 2))
 (an.ap j false))) (fun b7 =>
 (an.lf out (2, b7))))
 (an.lf out (0, false)))
theorem ee75_4  (L : Nat) (a1 : Int) (a2 : Int) (p804_4 : Bool) (kk : PV → Prop) : EV (O75 L) L 9 c75.r.r.r.r.l.r.r.l.r.r.r.r.r.r.r.r.r.r.r.r.r.r.r.r.r (sg75_4 a1 a2 p804_4) (kt75_4  L c75.r.r.r.r.r kk) = tx_R16_double_4 anP  L a1 a2 p804_4 (fun (x : (Int × Bool)) => kk (.tup [I x.1, B x.2])) := by kernel_rfl
theorem tf75_4  (L : Nat) (a1 : Int) (a2 : Int) (p804_4 : Bool) (Q : (Int × Bool) → Prop) : tx_R16_double_4 anP  L a1 a2 p804_4 Q = ob (tx_R16_double_4 (anO _)  L a1 a2 p804_4 some) Q := by
  unfold tx_R16_double_4
  dsimp only [anP, anO]
  try simp only [y1, y2, y3, y4, y5 Q, y6, y7, y8 Q, y9, z1, z2, z3, z4]
def sg75_3 (a1 : Int) (a2 : Int) (b1 : Bool) (a0 : Int) (p803_6 : Bool) : St := ({ fr := [(1, I a1), (2, I a2), (6, I 0), (7, B false), (8, B b1), (15, I a0), (62, B p803_6)], ob := [], base := 0 } : St)
def kt75_3  (L : Nat) (e0 : EC) (kk : PV → Prop) : Ex → St → Prop := (kBlock 0 (kSeq (EV (O75 L) L 9 e0) (kEnd Tryz.prog (RS Tryz.f75) kk)))
def sx_R16_double_3 {A : Type} (an : An A)  (L : Nat) (a1 : Int) (a2 : Int) (b1 : Bool) (a0 : Int) (p803_6 : Bool) (nx4 : Int → Int → Bool → A) (out : (Int × Bool) → A) : A :=
 (an.cn p803_6
 (an.jp (bif b1 then (a1 == a2)
 else false) (fun j => (an.cn b1
 (an.ap j (a1 == a2))
 (an.ap j false))) (fun b6 =>
 (an.lf out (2, b6))))
 (an.cn (a0 == 18)
 (nx4 a1 a2 (a0 == 18))
 (nx4 a1 a2 (a0 == 19))))
def tx_R16_double_3 {A : Type} (an : An A)  (L : Nat) (a1 : Int) (a2 : Int) (b1 : Bool) (a0 : Int) (p803_6 : Bool) (out : (Int × Bool) → A) : A := sx_R16_double_3 an  L a1 a2 b1 a0 p803_6 (fun a1 a2 p804_4 => tx_R16_double_4 an  L a1 a2 p804_4 out) out
theorem sf75_3  (L : Nat) (a1 : Int) (a2 : Int) (b1 : Bool) (a0 : Int) (p803_6 : Bool) (g4 : Int → Int → Bool → Option (Int × Bool)) (Q : (Int × Bool) → Prop) : sx_R16_double_3 anP  L a1 a2 b1 a0 p803_6 (fun a1 a2 p804_4 => ob (g4 a1 a2 p804_4) Q) Q = ob (sx_R16_double_3 (anO _)  L a1 a2 b1 a0 p803_6 g4 some) Q := by
  unfold sx_R16_double_3
  dsimp only [anP, anO]
  try simp only [y1, y2, y3, y4, y5 Q, y6, y7, y8 Q, y9, z1, z2, z3, z4]
theorem eh75_3  (L : Nat) (a1 : Int) (a2 : Int) (b1 : Bool) (a0 : Int) (p803_6 : Bool) (kk : PV → Prop) (z4 : EC) : EV (O75 L) L 9 (EC.put [false, false, false] z4 c75.r.r.r.r.l.r.r.l.r.r.r.r.r.r.r.r.r.r.r.r.r.r) (sg75_3 a1 a2 b1 a0 p803_6) (kt75_3  L c75.r.r.r.r.r kk) = sx_R16_double_3 anP  L a1 a2 b1 a0 p803_6 (fun a1 a2 p804_4 => EV (O75 L) L 9 z4 (sg75_4 a1 a2 p804_4) (kt75_4  L c75.r.r.r.r.r kk)) (fun (x : (Int × Bool)) => kk (.tup [I x.1, B x.2])) := by kernel_rfl
theorem ee75_3  (L : Nat) (a1 : Int) (a2 : Int) (b1 : Bool) (a0 : Int) (p803_6 : Bool) (kk : PV → Prop) : EV (O75 L) L 9 c75.r.r.r.r.l.r.r.l.r.r.r.r.r.r.r.r.r.r.r.r.r.r (sg75_3 a1 a2 b1 a0 p803_6) (kt75_3  L c75.r.r.r.r.r kk) = tx_R16_double_3 anP  L a1 a2 b1 a0 p803_6 (fun (x : (Int × Bool)) => kk (.tup [I x.1, B x.2])) := by
  refine Eq.trans (b := EV (O75 L) L 9 (EC.put [false, false, false] c75.r.r.r.r.l.r.r.l.r.r.r.r.r.r.r.r.r.r.r.r.r.r.r.r.r c75.r.r.r.r.l.r.r.l.r.r.r.r.r.r.r.r.r.r.r.r.r.r) (sg75_3 a1 a2 b1 a0 p803_6) (kt75_3  L c75.r.r.r.r.r kk)) (by kernel_rfl) ?_
  refine Eq.trans (eh75_3  L a1 a2 b1 a0 p803_6 kk c75.r.r.r.r.l.r.r.l.r.r.r.r.r.r.r.r.r.r.r.r.r.r.r.r.r) ?_
  unfold tx_R16_double_3
  simp only [ee75_4]
theorem tf75_3  (L : Nat) (a1 : Int) (a2 : Int) (b1 : Bool) (a0 : Int) (p803_6 : Bool) (Q : (Int × Bool) → Prop) : tx_R16_double_3 anP  L a1 a2 b1 a0 p803_6 Q = ob (tx_R16_double_3 (anO _)  L a1 a2 b1 a0 p803_6 some) Q := by
  unfold tx_R16_double_3
  simp only [tf75_4]
  exact sf75_3  L a1 a2 b1 a0 p803_6 (fun a1 a2 p804_4 => tx_R16_double_4 (anO _)  L a1 a2 p804_4 some) Q
def sg75_2 (a1 : Int) (a2 : Int) (b1 : Bool) (a0 : Int) (p802_6 : Bool) : St := ({ fr := [(1, I a1), (2, I a2), (6, I 0), (7, B false), (8, B b1), (15, I a0), (56, B p802_6)], ob := [], base := 0 } : St)
def kt75_2  (L : Nat) (e0 : EC) (kk : PV → Prop) : Ex → St → Prop := (kBlock 0 (kSeq (EV (O75 L) L 9 e0) (kEnd Tryz.prog (RS Tryz.f75) kk)))
def sx_R16_double_2 {A : Type} (an : An A)  (L : Nat) (a1 : Int) (a2 : Int) (b1 : Bool) (a0 : Int) (p802_6 : Bool) (nx3 : Int → Int → Bool → Int → Bool → A) (out : (Int × Bool) → A) : A :=
 (an.cn p802_6
 (an.lf out (2, (a1 == a2)))
 (an.cn (a0 == 16)
 (nx3 a1 a2 b1 a0 (a0 == 16))
 (nx3 a1 a2 b1 a0 (a0 == 17))))
def tx_R16_double_2 {A : Type} (an : An A)  (L : Nat) (a1 : Int) (a2 : Int) (b1 : Bool) (a0 : Int) (p802_6 : Bool) (out : (Int × Bool) → A) : A := sx_R16_double_2 an  L a1 a2 b1 a0 p802_6 (fun a1 a2 b1 a0 p803_6 => tx_R16_double_3 an  L a1 a2 b1 a0 p803_6 out) out
theorem sf75_2  (L : Nat) (a1 : Int) (a2 : Int) (b1 : Bool) (a0 : Int) (p802_6 : Bool) (g3 : Int → Int → Bool → Int → Bool → Option (Int × Bool)) (Q : (Int × Bool) → Prop) : sx_R16_double_2 anP  L a1 a2 b1 a0 p802_6 (fun a1 a2 b1 a0 p803_6 => ob (g3 a1 a2 b1 a0 p803_6) Q) Q = ob (sx_R16_double_2 (anO _)  L a1 a2 b1 a0 p802_6 g3 some) Q := by
  unfold sx_R16_double_2
  dsimp only [anP, anO]
  try simp only [y1, y2, y3, y4, y5 Q, y6, y7, y8 Q, y9, z1, z2, z3, z4]
theorem eh75_2  (L : Nat) (a1 : Int) (a2 : Int) (b1 : Bool) (a0 : Int) (p802_6 : Bool) (kk : PV → Prop) (z3 : EC) : EV (O75 L) L 9 (EC.put [false, false, false] z3 c75.r.r.r.r.l.r.r.l.r.r.r.r.r.r.r.r.r.r.r) (sg75_2 a1 a2 b1 a0 p802_6) (kt75_2  L c75.r.r.r.r.r kk) = sx_R16_double_2 anP  L a1 a2 b1 a0 p802_6 (fun a1 a2 b1 a0 p803_6 => EV (O75 L) L 9 z3 (sg75_3 a1 a2 b1 a0 p803_6) (kt75_3  L c75.r.r.r.r.r kk)) (fun (x : (Int × Bool)) => kk (.tup [I x.1, B x.2])) := by kernel_rfl
theorem ee75_2  (L : Nat) (a1 : Int) (a2 : Int) (b1 : Bool) (a0 : Int) (p802_6 : Bool) (kk : PV → Prop) : EV (O75 L) L 9 c75.r.r.r.r.l.r.r.l.r.r.r.r.r.r.r.r.r.r.r (sg75_2 a1 a2 b1 a0 p802_6) (kt75_2  L c75.r.r.r.r.r kk) = tx_R16_double_2 anP  L a1 a2 b1 a0 p802_6 (fun (x : (Int × Bool)) => kk (.tup [I x.1, B x.2])) := by
  refine Eq.trans (b := EV (O75 L) L 9 (EC.put [false, false, false] c75.r.r.r.r.l.r.r.l.r.r.r.r.r.r.r.r.r.r.r.r.r.r c75.r.r.r.r.l.r.r.l.r.r.r.r.r.r.r.r.r.r.r) (sg75_2 a1 a2 b1 a0 p802_6) (kt75_2  L c75.r.r.r.r.r kk)) (by kernel_rfl) ?_
  refine Eq.trans (eh75_2  L a1 a2 b1 a0 p802_6 kk c75.r.r.r.r.l.r.r.l.r.r.r.r.r.r.r.r.r.r.r.r.r.r) ?_
  unfold tx_R16_double_2
  simp only [ee75_3]
theorem tf75_2  (L : Nat) (a1 : Int) (a2 : Int) (b1 : Bool) (a0 : Int) (p802_6 : Bool) (Q : (Int × Bool) → Prop) : tx_R16_double_2 anP  L a1 a2 b1 a0 p802_6 Q = ob (tx_R16_double_2 (anO _)  L a1 a2 b1 a0 p802_6 some) Q := by
  unfold tx_R16_double_2
  simp only [tf75_3]
  exact sf75_2  L a1 a2 b1 a0 p802_6 (fun a1 a2 b1 a0 p803_6 => tx_R16_double_3 (anO _)  L a1 a2 b1 a0 p803_6 some) Q
def sg75_1 (a1 : Int) (a2 : Int) (b1 : Bool) (a0 : Int) (p801_6 : Bool) : St := ({ fr := [(1, I a1), (2, I a2), (6, I 0), (7, B false), (8, B b1), (15, I a0), (16, B p801_6)], ob := [], base := 0 } : St)
def kt75_1  (L : Nat) (e0 : EC) (kk : PV → Prop) : Ex → St → Prop := (kBlock 0 (kSeq (EV (O75 L) L 9 e0) (kEnd Tryz.prog (RS Tryz.f75) kk)))
def sx_R16_double_1 {A : Type} (an : An A)  (L : Nat) (a1 : Int) (a2 : Int) (b1 : Bool) (a0 : Int) (p801_6 : Bool) (nx2 : Int → Int → Bool → Int → Bool → A) (out : (Int × Bool) → A) : A :=
 (an.cn p801_6
 (an.jp (bif b1 then (a1 == a2)
 else false) (fun j => (an.cn b1
 (an.ap j (a1 == a2))
 (an.ap j false))) (fun b2 =>
 (an.lf out (a1, b2))))
 (an.cn (a0 == 11)
 (an.jp (bif (a1 == 3) then true
 else (a2 == 3)) (fun j => (an.cn (a1 == 3)
 (an.ap j true)
 (an.ap j (a2 == 3)))) (fun b3 =>
 (an.cn b3
 (an.jp (bif b1 then (a1 != a2)
 else false) (fun j => (an.cn b1
 (an.ap j (a1 != a2))
 (an.ap j false))) (fun b4 =>
 (an.lf out (3, b4))))
 (an.lf out (1, b1)))))
 (an.cn (a0 == 12)
 (an.cn (a1 == a2)
 (an.lf out (1, b1))
 (an.jp (bif (a1 == 3) then (a2 == 1)
 else false) (fun j => (an.cn (a1 == 3)
 (an.ap j (a2 == 1))
 (an.ap j false))) (fun b5 =>
 (an.lf out (3, b5)))))
 (an.cn (a0 == 14)
 (nx2 a1 a2 b1 a0 (a0 == 14))
 (nx2 a1 a2 b1 a0 (a0 == 15))))))
def tx_R16_double_1 {A : Type} (an : An A)  (L : Nat) (a1 : Int) (a2 : Int) (b1 : Bool) (a0 : Int) (p801_6 : Bool) (out : (Int × Bool) → A) : A := sx_R16_double_1 an  L a1 a2 b1 a0 p801_6 (fun a1 a2 b1 a0 p802_6 => tx_R16_double_2 an  L a1 a2 b1 a0 p802_6 out) out
theorem sf75_1  (L : Nat) (a1 : Int) (a2 : Int) (b1 : Bool) (a0 : Int) (p801_6 : Bool) (g2 : Int → Int → Bool → Int → Bool → Option (Int × Bool)) (Q : (Int × Bool) → Prop) : sx_R16_double_1 anP  L a1 a2 b1 a0 p801_6 (fun a1 a2 b1 a0 p802_6 => ob (g2 a1 a2 b1 a0 p802_6) Q) Q = ob (sx_R16_double_1 (anO _)  L a1 a2 b1 a0 p801_6 g2 some) Q := by
  unfold sx_R16_double_1
  dsimp only [anP, anO]
  try simp only [y1, y2, y3, y4, y5 Q, y6, y7, y8 Q, y9, z1, z2, z3, z4]
theorem eh75_1  (L : Nat) (a1 : Int) (a2 : Int) (b1 : Bool) (a0 : Int) (p801_6 : Bool) (kk : PV → Prop) (z2 : EC) : EV (O75 L) L 9 (EC.put [false, false, false, false, false, false, false, false, false] z2 c75.r.r.r.r.l.r.r.l.r.r) (sg75_1 a1 a2 b1 a0 p801_6) (kt75_1  L c75.r.r.r.r.r kk) = sx_R16_double_1 anP  L a1 a2 b1 a0 p801_6 (fun a1 a2 b1 a0 p802_6 => EV (O75 L) L 9 z2 (sg75_2 a1 a2 b1 a0 p802_6) (kt75_2  L c75.r.r.r.r.r kk)) (fun (x : (Int × Bool)) => kk (.tup [I x.1, B x.2])) := by kernel_rfl
theorem ee75_1  (L : Nat) (a1 : Int) (a2 : Int) (b1 : Bool) (a0 : Int) (p801_6 : Bool) (kk : PV → Prop) : EV (O75 L) L 9 c75.r.r.r.r.l.r.r.l.r.r (sg75_1 a1 a2 b1 a0 p801_6) (kt75_1  L c75.r.r.r.r.r kk) = tx_R16_double_1 anP  L a1 a2 b1 a0 p801_6 (fun (x : (Int × Bool)) => kk (.tup [I x.1, B x.2])) := by
  refine Eq.trans (b := EV (O75 L) L 9 (EC.put [false, false, false, false, false, false, false, false, false] c75.r.r.r.r.l.r.r.l.r.r.r.r.r.r.r.r.r.r.r c75.r.r.r.r.l.r.r.l.r.r) (sg75_1 a1 a2 b1 a0 p801_6) (kt75_1  L c75.r.r.r.r.r kk)) (by kernel_rfl) ?_
  refine Eq.trans (eh75_1  L a1 a2 b1 a0 p801_6 kk c75.r.r.r.r.l.r.r.l.r.r.r.r.r.r.r.r.r.r.r) ?_
  unfold tx_R16_double_1
  simp only [ee75_2]
theorem tf75_1  (L : Nat) (a1 : Int) (a2 : Int) (b1 : Bool) (a0 : Int) (p801_6 : Bool) (Q : (Int × Bool) → Prop) : tx_R16_double_1 anP  L a1 a2 b1 a0 p801_6 Q = ob (tx_R16_double_1 (anO _)  L a1 a2 b1 a0 p801_6 some) Q := by
  unfold tx_R16_double_1
  simp only [tf75_2]
  exact sf75_1  L a1 a2 b1 a0 p801_6 (fun a1 a2 b1 a0 p802_6 => tx_R16_double_2 (anO _)  L a1 a2 b1 a0 p802_6 some) Q
def sx_R16_double_0 {A : Type} (an : An A)  (L : Nat) (a0 : Int) (a1 : Int) (a2 : Int) (nx1 : Int → Int → Bool → Int → Bool → A) (out : (Int × Bool) → A) : A :=
 (an.jp (bif (a1 != 2) then (a2 != 2)
 else false) (fun j => (an.cn (a1 != 2)
 (an.ap j (a2 != 2))
 (an.ap j false))) (fun b1 =>
 (an.cn (a0 == 9)
 (nx1 a1 a2 b1 a0 (a0 == 9))
 (an.cn (a0 == 10)
 (nx1 a1 a2 b1 a0 (a0 == 10))
 (an.cn (a0 == 13)
 (nx1 a1 a2 b1 a0 (a0 == 13))
 (an.cn (a0 == 20)
 (nx1 a1 a2 b1 a0 (a0 == 20))
 (nx1 a1 a2 b1 a0 (a0 == 21))))))))
def T_R16_double {A : Type} (an : An A)  (L : Nat) (a0 : Int) (a1 : Int) (a2 : Int) (out : (Int × Bool) → A) : A := sx_R16_double_0 an  L a0 a1 a2 (fun a1 a2 b1 a0 p801_6 => tx_R16_double_1 an  L a1 a2 b1 a0 p801_6 out) out
theorem sf75_0  (L : Nat) (a0 : Int) (a1 : Int) (a2 : Int) (g1 : Int → Int → Bool → Int → Bool → Option (Int × Bool)) (Q : (Int × Bool) → Prop) : sx_R16_double_0 anP  L a0 a1 a2 (fun a1 a2 b1 a0 p801_6 => ob (g1 a1 a2 b1 a0 p801_6) Q) Q = ob (sx_R16_double_0 (anO _)  L a0 a1 a2 g1 some) Q := by
  unfold sx_R16_double_0
  dsimp only [anP, anO]
  try simp only [y1, y2, y3, y4, y5 Q, y6, y7, y8 Q, y9, z1, z2, z3, z4]
theorem eh75_0  (L : Nat) (a0 : Int) (a1 : Int) (a2 : Int) (kk : PV → Prop) (z1 : EC) : EW (O75 L) L 9 (RS Tryz.f75) (EC.put [false, false, false, false, true, false, false, true, false, false] z1 c75) [I a0, I a1, I a2] kk = sx_R16_double_0 anP  L a0 a1 a2 (fun a1 a2 b1 a0 p801_6 => EV (O75 L) L 9 z1 (sg75_1 a1 a2 b1 a0 p801_6) (kt75_1  L c75.r.r.r.r.r kk)) (fun (x : (Int × Bool)) => kk (.tup [I x.1, B x.2])) := by kernel_rfl
def F_R16_double  (L : Nat) (a0 : Int) (a1 : Int) (a2 : Int) : Option (Int × Bool) := T_R16_double (anO _) L a0 a1 a2 some
theorem e75  (L : Nat) (a0 : Int) (a1 : Int) (a2 : Int) (kk : PV → Prop) : EW (O75 L) L 9 (RS Tryz.f75) c75 [I a0, I a1, I a2] kk = ob (F_R16_double L a0 a1 a2) (fun (x : (Int × Bool)) => kk (.tup [I x.1, B x.2])) := by
  refine Eq.trans (b := EW (O75 L) L 9 (RS Tryz.f75) (EC.put [false, false, false, false, true, false, false, true, false, false] c75.r.r.r.r.l.r.r.l.r.r c75) [I a0, I a1, I a2] kk) (by kernel_rfl) ?_
  refine Eq.trans (eh75_0  L a0 a1 a2 kk c75.r.r.r.r.l.r.r.l.r.r) ?_
  simp only [ee75_1]
  generalize (fun (x : (Int × Bool)) => kk (.tup [I x.1, B x.2])) = Q
  simp only [tf75_1]
  unfold F_R16_double T_R16_double
  exact sf75_0  L a0 a1 a2 (fun a1 a2 b1 a0 p801_6 => tx_R16_double_1 (anO _)  L a1 a2 b1 a0 p801_6 some) Q
theorem h75   (L : Nat) (a0 : Int) (a1 : Int) (a2 : Int) (r : (Int × Bool)) (h : F_R16_double L a0 a1 a2 = some r) : Holds Tryz.prog 75 [I a0, I a1, I a2] (.tup [I r.1, B r.2]) :=
  hE grwOK (s75  L) mixed Tryz.func75 (by kernel_rfl : cFn Tryz.prog inl Tryz.f75 = some c75) (er := fun (x : (Int × Bool)) => .tup [I x.1, B x.2]) (by kernel_rfl) (e75 L a0 a1 a2) h
/-! ### simulator/simulatorref01.Add -/
noncomputable def c107 : EC := (cFn Tryz.prog inl Tryz.f107).getD .stop
def O107  (L : Nat) : Oracle := (orc 105 (A1 (fun (x : Int) => I x) (cI .i64) (F_R01_Clip L)) noC)
theorem s107   (L : Nat) : SoundC Tryz.prog (O107 L) := (orc_sound (a1 _ (h105 L)) (noC_sound Tryz.prog))
def T_R01_Add {A : Type} (an : An A)  (L : Nat) (a0 : Int) (a1 : Int) (out : Int → A) : A :=
 (an.bd (F_R01_Clip L a0) fun r1 =>
 (an.bd (F_R01_Clip L a1) fun r2 =>
 (an.bd (F_R01_Clip L (w64 (r1 + r2))) fun r3 =>
 (an.lf out r3))))
def F_R01_Add  (L : Nat) (a0 : Int) (a1 : Int) : Option Int := T_R01_Add (anO _) L a0 a1 some
theorem e107  (L : Nat) (a0 : Int) (a1 : Int) (kk : PV → Prop) : EW (O107 L) L 9 (RS Tryz.f107) c107 [I a0, I a1] kk = ob (F_R01_Add L a0 a1) (fun (x : Int) => kk (I x)) := by
  refine Eq.trans (b := T_R01_Add anP L a0 a1 (fun (x : Int) => kk (I x))) (by kernel_rfl) ?_
  generalize (fun (x : Int) => kk (I x)) = Q
  unfold F_R01_Add T_R01_Add
  dsimp only [anP, anO]
  try simp only [y1, y2, y3, y4, y5 Q, y6, y7, y8 Q, y9, z1, z2, z3, z4]
theorem h107   (L : Nat) (a0 : Int) (a1 : Int) (r : Int) (h : F_R01_Add L a0 a1 = some r) : Holds Tryz.prog 107 [I a0, I a1] (I r) :=
  hE grwOK (s107  L) mixed Tryz.func107 (by kernel_rfl : cFn Tryz.prog inl Tryz.f107 = some c107) (er := fun (x : Int) => I x) (by kernel_rfl) (e107 L a0 a1) h
/-! ### simulator/simulatorref01.Abs -/
noncomputable def c171 : EC := (cFn Tryz.prog inl Tryz.f171).getD .stop
def O171  (L : Nat) : Oracle := noC
theorem s171   (L : Nat) : SoundC Tryz.prog (O171 L) := (noC_sound Tryz.prog)
def T_R01_Abs {A : Type} (an : An A)  (L : Nat) (a0 : Int) (out : Int → A) : A :=
 (an.cn (decide (a0 < 0))
 (an.lf out (w64 (0 - a0)))
 (an.lf out a0))
def F_R01_Abs  (L : Nat) (a0 : Int) : Option Int := T_R01_Abs (anO _) L a0 some
theorem e171  (L : Nat) (a0 : Int) (kk : PV → Prop) : EW (O171 L) L 9 (RS Tryz.f171) c171 [I a0] kk = ob (F_R01_Abs L a0) (fun (x : Int) => kk (I x)) := by
  refine Eq.trans (b := T_R01_Abs anP L a0 (fun (x : Int) => kk (I x))) (by kernel_rfl) ?_
  generalize (fun (x : Int) => kk (I x)) = Q
  unfold F_R01_Abs T_R01_Abs
  dsimp only [anP, anO]
  try simp only [y1, y2, y3, y4, y5 Q, y6, y7, y8 Q, y9, z1, z2, z3, z4]
theorem h171   (L : Nat) (a0 : Int) (r : Int) (h : F_R01_Abs L a0 = some r) : Holds Tryz.prog 171 [I a0] (I r) :=
  hE grwOK (s171  L) mixed Tryz.func171 (by kernel_rfl : cFn Tryz.prog inl Tryz.f171 = some c171) (er := fun (x : Int) => I x) (by kernel_rfl) (e171 L a0) h
/-! ### simulator/simulatorref01.Mul -/
noncomputable def c108 : EC := (cFn Tryz.prog inl Tryz.f108).getD .stop
def O108  (L : Nat) : Oracle := (orc 105 (A1 (fun (x : Int) => I x) (cI .i64) (F_R01_Clip L)) (orc 171 (A1 (fun (x : Int) => I x) (cI .i64) (F_R01_Abs L)) noC))
theorem s108   (L : Nat) : SoundC Tryz.prog (O108 L) := (orc_sound (a1 _ (h105 L)) (orc_sound (a1 _ (h171 L)) (noC_sound Tryz.prog)))
def T_R01_Mul {A : Type} (an : An A)  (L : Nat) (a0 : Int) (a1 : Int) (out : Int → A) : A :=
 (an.bd (F_R01_Clip L a0) fun r1 =>
 (an.bd (F_R01_Clip L a1) fun r2 =>
 (an.jp (bif (r1 == 0) then true
 else (r2 == 0)) (fun j => (an.cn (r1 == 0)
 (an.ap j true)
 (an.ap j (r2 == 0)))) (fun b3 =>
 (an.cn b3
 (an.lf out 0)
 (an.bd (F_R01_Abs L r2) fun r4 =>
 (an.bd (F_R01_Abs L r1) fun r5 =>
 (an.cn (!decide (r5 = 0))
 (an.cn (decide (r4 ≤ (w64 (Int.tdiv 1000000000000 r5))))
 (an.lf out (w64 (r1 * r2)))
 (an.cn (!((decide (r1 < 0)) == (decide (r2 < 0))))
 (an.lf out (-1000000000000))
 (an.lf out 1000000000000)))
 an.fl))))))))
def F_R01_Mul  (L : Nat) (a0 : Int) (a1 : Int) : Option Int := T_R01_Mul (anO _) L a0 a1 some
theorem e108  (L : Nat) (a0 : Int) (a1 : Int) (kk : PV → Prop) : EW (O108 L) L 9 (RS Tryz.f108) c108 [I a0, I a1] kk = ob (F_R01_Mul L a0 a1) (fun (x : Int) => kk (I x)) := by
  refine Eq.trans (b := T_R01_Mul anP L a0 a1 (fun (x : Int) => kk (I x))) (by kernel_rfl) ?_
  generalize (fun (x : Int) => kk (I x)) = Q
  unfold F_R01_Mul T_R01_Mul
  dsimp only [anP, anO]
  try simp only [y1, y2, y3, y4, y5 Q, y6, y7, y8 Q, y9, z1, z2, z3, z4]
theorem h108   (L : Nat) (a0 : Int) (a1 : Int) (r : Int) (h : F_R01_Mul L a0 a1 = some r) : Holds Tryz.prog 108 [I a0, I a1] (I r) :=
  hE grwOK (s108  L) mixed Tryz.func108 (by kernel_rfl : cFn Tryz.prog inl Tryz.f108 = some c108) (er := fun (x : Int) => I x) (by kernel_rfl) (e108 L a0 a1) h
/-! ### simulator/simulatorref01.Div -/
noncomputable def c109 : EC := (cFn Tryz.prog inl Tryz.f109).getD .stop
def O109  (L : Nat) : Oracle := (orc 105 (A1 (fun (x : Int) => I x) (cI .i64) (F_R01_Clip L)) noC)
theorem s109   (L : Nat) : SoundC Tryz.prog (O109 L) := (orc_sound (a1 _ (h105 L)) (noC_sound Tryz.prog))
def T_R01_Div {A : Type} (an : An A)  (L : Nat) (a0 : Int) (a1 : Int) (out : Int → A) : A :=
 (an.bd (F_R01_Clip L a0) fun r1 =>
 (an.bd (F_R01_Clip L a1) fun r2 =>
 (an.cn (r2 == 0)
 (an.lf out 0)
 (an.cn (!decide (r2 = 0))
 (an.cn (!decide (r2 = 0))
 (an.jp (bif ((Int.tmod r1 r2) != 0) then (!((decide (r1 < 0)) == (decide (r2 < 0))))
 else false) (fun j => (an.cn ((Int.tmod r1 r2) != 0)
 (an.ap j (!((decide (r1 < 0)) == (decide (r2 < 0)))))
 (an.ap j false))) (fun b3 =>
 (an.cn b3
 (an.lf out (w64 ((w64 (Int.tdiv r1 r2)) - 1)))
 (an.lf out (w64 (Int.tdiv r1 r2))))))
 an.fl)
 an.fl))))
def F_R01_Div  (L : Nat) (a0 : Int) (a1 : Int) : Option Int := T_R01_Div (anO _) L a0 a1 some
theorem e109  (L : Nat) (a0 : Int) (a1 : Int) (kk : PV → Prop) : EW (O109 L) L 9 (RS Tryz.f109) c109 [I a0, I a1] kk = ob (F_R01_Div L a0 a1) (fun (x : Int) => kk (I x)) := by
  refine Eq.trans (b := T_R01_Div anP L a0 a1 (fun (x : Int) => kk (I x))) (by kernel_rfl) ?_
  generalize (fun (x : Int) => kk (I x)) = Q
  unfold F_R01_Div T_R01_Div
  dsimp only [anP, anO]
  try simp only [y1, y2, y3, y4, y5 Q, y6, y7, y8 Q, y9, z1, z2, z3, z4]
theorem h109   (L : Nat) (a0 : Int) (a1 : Int) (r : Int) (h : F_R01_Div L a0 a1 = some r) : Holds Tryz.prog 109 [I a0, I a1] (I r) :=
  hE grwOK (s109  L) mixed Tryz.func109 (by kernel_rfl : cFn Tryz.prog inl Tryz.f109 = some c109) (er := fun (x : Int) => I x) (by kernel_rfl) (e109 L a0 a1) h
/-! ### simulator/simulatorref01.Mod -/
noncomputable def c110 : EC := (cFn Tryz.prog inl Tryz.f110).getD .stop
def O110  (L : Nat) : Oracle := (orc 105 (A1 (fun (x : Int) => I x) (cI .i64) (F_R01_Clip L)) (orc 109 (A2 (fun (x : Int) => I x) (cI .i64) (cI .i64) (F_R01_Div L)) noC))
theorem s110   (L : Nat) : SoundC Tryz.prog (O110 L) := (orc_sound (a1 _ (h105 L)) (orc_sound (a2 _ (h109 L)) (noC_sound Tryz.prog)))
def T_R01_Mod {A : Type} (an : An A)  (L : Nat) (a0 : Int) (a1 : Int) (out : Int → A) : A :=
 (an.bd (F_R01_Clip L a0) fun r1 =>
 (an.bd (F_R01_Clip L a1) fun r2 =>
 (an.bd (F_R01_Div L a0 a1) fun r3 =>
 (an.lf out (w64 (r1 - (w64 (r2 * r3))))))))
def F_R01_Mod  (L : Nat) (a0 : Int) (a1 : Int) : Option Int := T_R01_Mod (anO _) L a0 a1 some
theorem e110  (L : Nat) (a0 : Int) (a1 : Int) (kk : PV → Prop) : EW (O110 L) L 9 (RS Tryz.f110) c110 [I a0, I a1] kk = ob (F_R01_Mod L a0 a1) (fun (x : Int) => kk (I x)) := by
  refine Eq.trans (b := T_R01_Mod anP L a0 a1 (fun (x : Int) => kk (I x))) (by kernel_rfl) ?_
  generalize (fun (x : Int) => kk (I x)) = Q
  unfold F_R01_Mod T_R01_Mod
  dsimp only [anP, anO]
  try simp only [y1, y2, y3, y4, y5 Q, y6, y7, y8 Q, y9, z1, z2, z3, z4]
theorem h110   (L : Nat) (a0 : Int) (a1 : Int) (r : Int) (h : F_R01_Mod L a0 a1 = some r) : Holds Tryz.prog 110 [I a0, I a1] (I r) :=
  hE grwOK (s110  L) mixed Tryz.func110 (by kernel_rfl : cFn Tryz.prog inl Tryz.f110 = some c110) (er := fun (x : Int) => I x) (by kernel_rfl) (e110 L a0 a1) h
/-! ### simulator/simulatorref15.Binary -/
noncomputable def c76 : EC := (cFn Tryz.prog inl Tryz.f76).getD .stop
def O76  (L : Nat) : Oracle := (orc 105 (A1 (fun (x : Int) => I x) (cI .i64) (F_R01_Clip L)) (orc 106 (A1 (fun (x : Int) => I x) cB (F_R15_One L)) (orc 107 (A2 (fun (x : Int) => I x) (cI .i64) (cI .i64) (F_R01_Add L)) (orc 108 (A2 (fun (x : Int) => I x) (cI .i64) (cI .i64) (F_R01_Mul L)) (orc 109 (A2 (fun (x : Int) => I x) (cI .i64) (cI .i64) (F_R01_Div L)) (orc 110 (A2 (fun (x : Int) => I x) (cI .i64) (cI .i64) (F_R01_Mod L)) noC))))))
theorem s76   (L : Nat) : SoundC Tryz.prog (O76 L) := (orc_sound (a1 _ (h105 L)) (orc_sound (a1 _ (h106 L)) (orc_sound (a2 _ (h107 L)) (orc_sound (a2 _ (h108 L)) (orc_sound (a2 _ (h109 L)) (orc_sound (a2 _ (h110 L)) (noC_sound Tryz.prog)))))))
def T_R15_Binary {A : Type} (an : An A)  (L : Nat) (a0 : Int) (a1 : Int) (a2 : Int) (out : Int → A) : A :=
 (an.cn (a0 == 9)
 (an.bd (F_R01_Add L a1 a2) fun r1 =>
 (an.lf out r1))
 (an.cn (a0 == 10)
 (an.bd (F_R01_Clip L a2) fun r2 =>
 (an.bd (F_R01_Add L a1 (w64 (0 - r2))) fun r3 =>
 (an.lf out r3)))
 (an.cn (a0 == 11)
 (an.bd (F_R01_Mul L a1 a2) fun r4 =>
 (an.lf out r4))
 (an.cn (a0 == 12)
 (an.bd (F_R01_Div L a1 a2) fun r5 =>
 (an.lf out r5))
 (an.cn (a0 == 13)
 (an.bd (F_R01_Mod L a1 a2) fun r6 =>
 (an.lf out r6))
 (an.cn (a0 == 14)
 (an.bd (F_R15_One L (a1 == a2)) fun r7 =>
 (an.lf out r7))
 (an.cn (a0 == 15)
 (an.bd (F_R15_One L (a1 != a2)) fun r8 =>
 (an.lf out r8))
 (an.cn (a0 == 16)
 (an.bd (F_R15_One L (decide (a1 < a2))) fun r9 =>
 (an.lf out r9))
 (an.cn (a0 == 17)
 (an.bd (F_R15_One L (decide (a1 ≤ a2))) fun r10 =>
 (an.lf out r10))
 (an.cn (a0 == 18)
 (an.jp (bif (a1 != 0) then (a2 != 0)
 else false) (fun j => (an.cn (a1 != 0)
 (an.ap j (a2 != 0))
 (an.ap j false))) (fun b11 =>
 (an.bd (F_R15_One L b11) fun r12 =>
 (an.lf out r12))))
 (an.cn (a0 == 19)
 (an.jp (bif (a1 != 0) then true
 else (a2 != 0)) (fun j => (an.cn (a1 != 0)
 (an.ap j true)
 (an.ap j (a2 != 0)))) (fun b13 =>
 (an.bd (F_R15_One L b13) fun r14 =>
 (an.lf out r14))))
 (an.cn (a0 == 20)
 (an.lf out (if a2 < a1 then a2 else a1))
 (an.cn (a0 == 21)
 (an.lf out (if a2 > a1 then a2 else a1))
 (an.lf out 0))))))))))))))
def F_R15_Binary  (L : Nat) (a0 : Int) (a1 : Int) (a2 : Int) : Option Int := T_R15_Binary (anO _) L a0 a1 a2 some
theorem e76  (L : Nat) (a0 : Int) (a1 : Int) (a2 : Int) (kk : PV → Prop) : EW (O76 L) L 9 (RS Tryz.f76) c76 [I a0, I a1, I a2] kk = ob (F_R15_Binary L a0 a1 a2) (fun (x : Int) => kk (I x)) := by
  refine Eq.trans (b := T_R15_Binary anP L a0 a1 a2 (fun (x : Int) => kk (I x))) (by kernel_rfl) ?_
  generalize (fun (x : Int) => kk (I x)) = Q
  unfold F_R15_Binary T_R15_Binary
  dsimp only [anP, anO]
  try simp only [y1, y2, y3, y4, y5 Q, y6, y7, y8 Q, y9, z1, z2, z3, z4]
theorem h76   (L : Nat) (a0 : Int) (a1 : Int) (a2 : Int) (r : Int) (h : F_R15_Binary L a0 a1 a2 = some r) : Holds Tryz.prog 76 [I a0, I a1, I a2] (I r) :=
  hE grwOK (s76  L) mixed Tryz.func76 (by kernel_rfl : cFn Tryz.prog inl Tryz.f76 = some c76) (er := fun (x : Int) => I x) (by kernel_rfl) (e76 L a0 a1 a2) h
/-! ### simulator/simulatorref16.node -/
noncomputable def c44 : EC := (cFn Tryz.prog inl Tryz.f44).getD .stop
def O44  (L : Nat) : Oracle := (orc 71 (A1 (fun (x : (Int × Int × Bool)) => .tup [I x.1, I x.2.1, B x.2.2]) ca_api_Expr (F_R16_constant L)) (orc 72 (A2 (fun (x : (Int × Bool)) => .tup [I x.1, B x.2]) (cI .i64) (cI .i64) (F_R16_single L)) (orc 73 (A2 (fun (x : api_Expr) => .agg (enapi_Expr x)) (cI .i64) (cI .i64) (F_R09_Const L)) (orc 74 (A2 (fun (x : Int) => I x) (cI .i64) (cI .i64) (F_R15_Unary L)) (orc 75 (A3 (fun (x : (Int × Bool)) => .tup [I x.1, B x.2]) (cI .i64) (cI .i64) (cI .i64) (F_R16_double L)) (orc 76 (A3 (fun (x : Int) => I x) (cI .i64) (cI .i64) (cI .i64) (F_R15_Binary L)) noC))))))
theorem s44   (L : Nat) : SoundC Tryz.prog (O44 L) := (orc_sound (a1 _ (h71 L)) (orc_sound (a2 _ (h72 L)) (orc_sound (a2 _ (h73 L)) (orc_sound (a2 _ (h74 L)) (orc_sound (a3 _ (h75 L)) (orc_sound (a3 _ (h76 L)) (noC_sound Tryz.prog)))))))
def T_R16_node {A : Type} (an : An A)  (L : Nat) (a0 : api_Expr) (out : api_Expr → A) : A :=
 (an.jp (bif (a0.Op == 7) then true
 else ((a0.Kids.length : Int) == 0)) (fun j => (an.cn (a0.Op == 7)
 (an.ap j true)
 (an.ap j ((a0.Kids.length : Int) == 0)))) (fun b1 =>
 (an.cn b1
 (an.lf out (api_Expr.cp a0))
 (an.gd ((0 : Int) ≤ 0)
 (an.gd (0 < ((a0.Kids.length : Nat) : Int))
 (an.bd (F_R16_constant L (api_Expr.cp (a0.Kids.getD 0 default))) fun r2 =>
 (an.cn (!r2.2.2)
 (an.lf out (api_Expr.cp a0))
 (an.cn ((a0.Kids.length : Int) == 1)
 (an.bd (F_R16_single L a0.Op r2.1) fun r3 =>
 (an.cn (!r3.2)
 (an.lf out (api_Expr.cp a0))
 (an.bd (F_R15_Unary L a0.Op r2.2.1) fun r4 =>
 (an.bd (F_R09_Const L r3.1 r4) fun r5 =>
 (an.lf out (api_Expr.cp r5))))))
 (an.gd ((0 : Int) ≤ 1)
 (an.gd (1 < ((a0.Kids.length : Nat) : Int))
 (an.bd (F_R16_constant L (api_Expr.cp (a0.Kids.getD 1 default))) fun r6 =>
 (an.bd (F_R16_double L a0.Op r2.1 r6.1) fun r7 =>
 (an.jp (bif (!r6.2.2) then true
 else (!r7.2)) (fun j => (an.cn (!r6.2.2)
 (an.ap j true)
 (an.ap j (!r7.2)))) (fun b8 =>
 (an.cn b8
 (an.lf out (api_Expr.cp a0))
 (an.bd (F_R15_Binary L a0.Op r2.2.1 r6.2.1) fun r9 =>
 (an.bd (F_R09_Const L r7.1 r9) fun r10 =>
 (an.lf out (api_Expr.cp r10)))))))))))))))))))
def F_R16_node  (L : Nat) (a0 : api_Expr) : Option api_Expr := T_R16_node (anO _) L a0 some
theorem e44  (L : Nat) (a0 : api_Expr) (kk : PV → Prop) : EW (O44 L) L 9 (RS Tryz.f44) c44 [.agg (enapi_Expr a0)] kk = ob (F_R16_node L a0) (fun (x : api_Expr) => kk (.agg (enapi_Expr x))) := by
  refine Eq.trans (b := T_R16_node anP L a0 (fun (x : api_Expr) => kk (.agg (enapi_Expr x)))) (by kernel_rfl) ?_
  generalize (fun (x : api_Expr) => kk (.agg (enapi_Expr x))) = Q
  unfold F_R16_node T_R16_node
  dsimp only [anP, anO]
  try simp only [y1, y2, y3, y4, y5 Q, y6, y7, y8 Q, y9, z1, z2, z3, z4]
  try simp only [z5, z6, y1, y2, y3, y4, y5 Q, y6, y7, y8 Q, y9, z1, z2, z3, z4]
theorem h44   (L : Nat) (a0 : api_Expr) (r : api_Expr) (h : F_R16_node L a0 = some r) : Holds Tryz.prog 44 [.agg (enapi_Expr a0)] (.agg (enapi_Expr r)) :=
  hE grwOK (s44  L) mixed Tryz.func44 (by kernel_rfl : cFn Tryz.prog inl Tryz.f44 = some c44) (er := fun (x : api_Expr) => .agg (enapi_Expr x)) (by kernel_rfl) (e44 L a0) h
/-! ### simulator/simulatorref16.fold -/
noncomputable def c26 : EC := (cFn Tryz.prog inl Tryz.f26).getD .stop
def O26 (rec26 : api_Expr → Option api_Expr) (L : Nat) : Oracle := (orc 26 (A1 (fun (x : api_Expr) => .agg (enapi_Expr x)) ca_api_Expr rec26) (orc 44 (A1 (fun (x : api_Expr) => .agg (enapi_Expr x)) ca_api_Expr (F_R16_node L)) noC))
theorem s26 (rec26 : api_Expr → Option api_Expr) (hr26 : ∀ (y0 : api_Expr) (r : api_Expr), rec26 y0 = some r → Holds Tryz.prog 26 [.agg (enapi_Expr y0)] (.agg (enapi_Expr r))) (L : Nat) : SoundC Tryz.prog (O26 rec26 L) := (orc_sound (a1 _ hr26) (orc_sound (a1 _ (h44 L)) (noC_sound Tryz.prog)))
def sh26_1 (a0 : api_Expr) (v1_0 : Int) (v1_12 : List api_Expr) : St := ({ fr := [(0, .any), (1, .loc 1 0), (2, .loc 2 0), (3, .loc 3 0), (4, I v1_0)], ob := [(1, (enapi_Expr a0)), (2, [I 0, S (⟨#[]⟩ : ByteArray), I 0, .lst true (.t25 [])]), (3, [I a0.Op, S a0.Name, I a0.N, .lst true (.t25 v1_12)])], base := 0 } : St)
def KK26_1 (a0 : api_Expr) (K : Ex → St → Prop) : Nat × (Int × List api_Expr) → Prop := fun o => seln o.1 [K (.exit 0) (sh26_1 a0 o.2.1 o.2.2)]
def lb_R16_fold_1 {A : Type} (an : An A) (rec26 : api_Expr → Option api_Expr) (L : Nat) (a0 : api_Expr) (rec : Int → List api_Expr → A) (out : Nat × (Int × List api_Expr) → A) (v1_0 : Int) (v1_12 : List api_Expr) : A :=
 (an.cn (decide (v1_0 < (a0.Kids.length : Int)))
 (an.gd ((0 : Int) ≤ v1_0)
 (an.gd (v1_0 < ((a0.Kids.length : Nat) : Int))
 (an.bd (rec26 (api_Expr.cp (a0.Kids.getD (Int.toNat v1_0) default))) fun r1 =>
 (an.gd ((v1_12.length + [(api_Expr.cp r1)].length) * 56 ≤ 140737488355328)
 (an.gd (v1_12.length + [(api_Expr.cp r1)].length ≤ maxLen)
 (rec (w64 (v1_0 + 1)) (v1_12 ++ [(api_Expr.cp r1)])))))))
 (an.lf out (0, (v1_0, v1_12))))
def lp_R16_fold_1 (rec26 : api_Expr → Option api_Expr) (L : Nat) (a0 : api_Expr) : Nat → Int → List api_Expr → Option (Nat × (Int × List api_Expr))
  | 0, _, _ => none
  | n + 1, v1_0, v1_12 => lb_R16_fold_1 (anO _) rec26 L a0 (lp_R16_fold_1 rec26 L a0 n) some v1_0 v1_12
theorem ln26_1 (rec26 : api_Expr → Option api_Expr) (L : Nat) (a0 : api_Expr) (g : Int → List api_Expr → Option (Nat × (Int × List api_Expr))) (Q : Nat × (Int × List api_Expr) → Prop) (v1_0 : Int) (v1_12 : List api_Expr) : lb_R16_fold_1 anP rec26 L a0 (fun v1_0 v1_12 => ob (g v1_0 v1_12) Q) Q v1_0 v1_12 = ob (lb_R16_fold_1 (anO _) rec26 L a0 g some v1_0 v1_12) Q := by
  unfold lb_R16_fold_1
  dsimp only [anP, anO]
  try simp only [y1, y2, y3, y4, y5 Q, y6, y7, y8 Q, y9, z1, z2, z3, z4]
theorem le26_1 (rec26 : api_Expr → Option api_Expr) (L : Nat) (a0 : api_Expr) (n : Nat) (v1_0 : Int) (v1_12 : List api_Expr) (K : Ex → St → Prop) : loopN (EV (O26 rec26 L) L 9 c26.r.r.r.r.l.r.r.l.l) [0, 1, 2, 3, 4] [1, 2, 3] n (sh26_1 a0 v1_0 v1_12) K = ob (lp_R16_fold_1 rec26 L a0 n v1_0 v1_12) (fun o => KK26_1 a0 K o) := by
  induction n generalizing v1_0 v1_12 with
  | zero => rfl
  | succ n ih =>
    refine Eq.trans (b := lb_R16_fold_1 anP rec26 L a0 (fun v1_0 v1_12 => loopN (EV (O26 rec26 L) L 9 c26.r.r.r.r.l.r.r.l.l) [0, 1, 2, 3, 4] [1, 2, 3] n (sh26_1 a0 v1_0 v1_12) K) (KK26_1 a0 K) v1_0 v1_12) (by kernel_rfl) ?_
    simp only [ih]
    exact ln26_1 rec26 L a0 (lp_R16_fold_1 rec26 L a0 n) (KK26_1 a0 K) v1_0 v1_12
def kc26_1 (rec26 : api_Expr → Option api_Expr) (L : Nat)  (kk : PV → Prop) : Ex → St → Prop := (kBlock 0 (kSeq (EV (O26 rec26 L) L 9 c26.r.r.r.r.r) (kEnd Tryz.prog (RS Tryz.f26) kk)))
theorem q26_1 (rec26 : api_Expr → Option api_Expr) (L : Nat) (a0 : api_Expr) (kk : PV → Prop) (o1 : Nat × (Int × List api_Expr)) : KK26_1 a0 (kc26_1 rec26 L kk) o1 =
 (seln o1.1 [(ob (F_R16_node L (api_Expr.mk a0.Op a0.Name a0.N o1.2.2)) fun r2 =>
 (ob (some (api_Expr.cp r2)) (fun (x : api_Expr) => kk (.agg (enapi_Expr x)))))]) := by kernel_rfl
def T_R16_fold {A : Type} (an : An A) (rec26 : api_Expr → Option api_Expr) (L : Nat) (a0 : api_Expr) (out : api_Expr → A) : A :=
 (an.bd (lp_R16_fold_1 rec26 L a0 L 0 []) fun o1 =>
 (an.sl o1.1 [(an.bd (F_R16_node L (api_Expr.mk a0.Op a0.Name a0.N o1.2.2)) fun r2 =>
 (an.lf out (api_Expr.cp r2)))]))
def B_R16_fold (rec26 : api_Expr → Option api_Expr) (L : Nat) (a0 : api_Expr) : Option api_Expr := T_R16_fold (anO _) rec26 L a0 some
theorem e26 (rec26 : api_Expr → Option api_Expr) (L : Nat) (a0 : api_Expr) (kk : PV → Prop) : EW (O26 rec26 L) L 9 (RS Tryz.f26) c26 [.agg (enapi_Expr a0)] kk = ob (B_R16_fold rec26 L a0) (fun (x : api_Expr) => kk (.agg (enapi_Expr x))) := by
  refine Eq.trans (b := T_R16_fold anP rec26 L a0 (fun (x : api_Expr) => kk (.agg (enapi_Expr x)))) ?_ ?_
  · refine Eq.trans (b := (loopN (EV (O26 rec26 L) L 9 c26.r.r.r.r.l.r.r.l.l) [0, 1, 2, 3, 4] [1, 2, 3] L (sh26_1 a0 0 []) (kc26_1 rec26 L kk))) (by kernel_rfl) ?_
    unfold T_R16_fold
    dsimp only [anP]
    simp only [le26_1, q26_1]
  generalize (fun (x : api_Expr) => kk (.agg (enapi_Expr x))) = Q
  unfold B_R16_fold T_R16_fold
  dsimp only [anP, anO]
  try simp only [y1, y2, y3, y4, y5 Q, y6, y7, y8 Q, y9, z1, z2, z3, z4]
theorem b26 (rec26 : api_Expr → Option api_Expr) (hr26 : ∀ (y0 : api_Expr) (r : api_Expr), rec26 y0 = some r → Holds Tryz.prog 26 [.agg (enapi_Expr y0)] (.agg (enapi_Expr r))) (L : Nat) (a0 : api_Expr) (r : api_Expr) (h : B_R16_fold rec26 L a0 = some r) : Holds Tryz.prog 26 [.agg (enapi_Expr a0)] (.agg (enapi_Expr r)) :=
  hE grwOK (s26 rec26 hr26 L) mixed Tryz.func26 (by kernel_rfl : cFn Tryz.prog inl Tryz.f26 = some c26) (er := fun (x : api_Expr) => .agg (enapi_Expr x)) (by kernel_rfl) (e26 rec26 L a0) h
def F_R16_fold : Nat → api_Expr → Option api_Expr
  | 0, _ => none
  | L + 1, a0 => B_R16_fold (F_R16_fold L) L a0
theorem hall26 : ∀ L, (∀ (y0 : api_Expr) (r : api_Expr), F_R16_fold L y0 = some r → Holds Tryz.prog 26 [.agg (enapi_Expr y0)] (.agg (enapi_Expr r))) := by
  intro L
  induction L with
  | zero => exact fun _ r h => (by cases h)
  | succ L ih =>
    have i26 := ih
    exact fun y0 r h => b26 (F_R16_fold L) i26 L y0 r h
theorem h26 (L : Nat) : ∀ (y0 : api_Expr) (r : api_Expr), F_R16_fold L y0 = some r → Holds Tryz.prog 26 [.agg (enapi_Expr y0)] (.agg (enapi_Expr r)) := hall26 L
/-! ### simulator/simulatorref16.Fold -/
noncomputable def c10 : EC := (cFn Tryz.prog inl Tryz.f10).getD .stop
def O10  (L : Nat) : Oracle := (orc 11 (A1 (fun (x : Int) => I x) ca_api_Expr (F_R09_Check L)) (orc 26 (A1 (fun (x : api_Expr) => .agg (enapi_Expr x)) ca_api_Expr (F_R16_fold L)) noC))
theorem s10   (L : Nat) : SoundC Tryz.prog (O10 L) := (orc_sound (a1 _ (h11 L)) (orc_sound (a1 _ (h26 L)) (noC_sound Tryz.prog)))
def T_R16_Fold {A : Type} (an : An A)  (L : Nat) (a0 : api_Expr) (out : api_Expr → A) : A :=
 (an.bd (F_R09_Check L (api_Expr.cp a0)) fun r1 =>
 (an.cn (r1 != 0)
 (an.lf out (api_Expr.cp a0))
 (an.bd (F_R16_fold L (api_Expr.cp a0)) fun r2 =>
 (an.bd (F_R09_Check L (api_Expr.cp r2)) fun r3 =>
 (an.cn (r3 != 0)
 (an.lf out (api_Expr.cp a0))
 (an.lf out (api_Expr.cp r2)))))))
def F_R16_Fold  (L : Nat) (a0 : api_Expr) : Option api_Expr := T_R16_Fold (anO _) L a0 some
theorem e10  (L : Nat) (a0 : api_Expr) (kk : PV → Prop) : EW (O10 L) L 9 (RS Tryz.f10) c10 [.agg (enapi_Expr a0)] kk = ob (F_R16_Fold L a0) (fun (x : api_Expr) => kk (.agg (enapi_Expr x))) := by
  refine Eq.trans (b := T_R16_Fold anP L a0 (fun (x : api_Expr) => kk (.agg (enapi_Expr x)))) (by kernel_rfl) ?_
  generalize (fun (x : api_Expr) => kk (.agg (enapi_Expr x))) = Q
  unfold F_R16_Fold T_R16_Fold
  dsimp only [anP, anO]
  try simp only [y1, y2, y3, y4, y5 Q, y6, y7, y8 Q, y9, z1, z2, z3, z4]
theorem h10   (L : Nat) (a0 : api_Expr) (r : api_Expr) (h : F_R16_Fold L a0 = some r) : Holds Tryz.prog 10 [.agg (enapi_Expr a0)] (.agg (enapi_Expr r)) :=
  hE grwOK (s10  L) mixed Tryz.func10 (by kernel_rfl : cFn Tryz.prog inl Tryz.f10 = some c10) (er := fun (x : api_Expr) => .agg (enapi_Expr x)) (by kernel_rfl) (e10 L a0) h
/-! ### simulator/simulatorref09.Same -/
noncomputable def c9 : EC := (cFn Tryz.prog inl Tryz.f9).getD .stop
def O9 (rec9 : api_Expr → api_Expr → Option Bool) (rec25 : (List api_Expr) → (List api_Expr) → Option Bool) (L : Nat) : Oracle := (orc 9 (A2 (fun (x : Bool) => B x) ca_api_Expr ca_api_Expr rec9) (orc 25 (A2 (fun (x : Bool) => B x) cl25 cl25 rec25) noC))
theorem s9 (rec9 : api_Expr → api_Expr → Option Bool) (rec25 : (List api_Expr) → (List api_Expr) → Option Bool) (hr9 : ∀ (y0 : api_Expr) (y1 : api_Expr) (r : Bool), rec9 y0 y1 = some r → Holds Tryz.prog 9 [.agg (enapi_Expr y0), .agg (enapi_Expr y1)] (B r)) (hr25 : ∀ (y0 : (List api_Expr)) (y1 : (List api_Expr)) (r : Bool), rec25 y0 y1 = some r → Holds Tryz.prog 25 [.lst false (.t25 y0), .lst false (.t25 y1)] (B r)) (L : Nat) : SoundC Tryz.prog (O9 rec9 rec25 L) := (orc_sound (a2 _ hr9) (orc_sound (a2 _ hr25) (noC_sound Tryz.prog)))
def T_R09_Same {A : Type} (an : An A) (rec9 : api_Expr → api_Expr → Option Bool) (rec25 : (List api_Expr) → (List api_Expr) → Option Bool) (L : Nat) (a0 : api_Expr) (a1 : api_Expr) (out : Bool → A) : A :=
 (an.jp (bif (a0.Op != a1.Op) then true
 else (!(a0.Name.toList == a1.Name.toList))) (fun j => (an.cn (a0.Op != a1.Op)
 (an.ap j true)
 (an.ap j (!(a0.Name.toList == a1.Name.toList))))) (fun b1 =>
 (an.jp (bif b1 then true
 else (a0.N != a1.N)) (fun j => (an.cn b1
 (an.ap j true)
 (an.ap j (a0.N != a1.N)))) (fun b2 =>
 (an.cn b2
 (an.lf out false)
 (an.bd (rec25 a0.Kids a1.Kids) fun r3 =>
 (an.lf out r3)))))))
def B_R09_Same (rec9 : api_Expr → api_Expr → Option Bool) (rec25 : (List api_Expr) → (List api_Expr) → Option Bool) (L : Nat) (a0 : api_Expr) (a1 : api_Expr) : Option Bool := T_R09_Same (anO _) rec9 rec25 L a0 a1 some
theorem e9 (rec9 : api_Expr → api_Expr → Option Bool) (rec25 : (List api_Expr) → (List api_Expr) → Option Bool) (L : Nat) (a0 : api_Expr) (a1 : api_Expr) (kk : PV → Prop) : EW (O9 rec9 rec25 L) L 9 (RS Tryz.f9) c9 [.agg (enapi_Expr a0), .agg (enapi_Expr a1)] kk = ob (B_R09_Same rec9 rec25 L a0 a1) (fun (x : Bool) => kk (B x)) := by
  refine Eq.trans (b := T_R09_Same anP rec9 rec25 L a0 a1 (fun (x : Bool) => kk (B x))) (by kernel_rfl) ?_
  generalize (fun (x : Bool) => kk (B x)) = Q
  unfold B_R09_Same T_R09_Same
  dsimp only [anP, anO]
  try simp only [y1, y2, y3, y4, y5 Q, y6, y7, y8 Q, y9, z1, z2, z3, z4]
theorem b9 (rec9 : api_Expr → api_Expr → Option Bool) (rec25 : (List api_Expr) → (List api_Expr) → Option Bool) (hr9 : ∀ (y0 : api_Expr) (y1 : api_Expr) (r : Bool), rec9 y0 y1 = some r → Holds Tryz.prog 9 [.agg (enapi_Expr y0), .agg (enapi_Expr y1)] (B r)) (hr25 : ∀ (y0 : (List api_Expr)) (y1 : (List api_Expr)) (r : Bool), rec25 y0 y1 = some r → Holds Tryz.prog 25 [.lst false (.t25 y0), .lst false (.t25 y1)] (B r)) (L : Nat) (a0 : api_Expr) (a1 : api_Expr) (r : Bool) (h : B_R09_Same rec9 rec25 L a0 a1 = some r) : Holds Tryz.prog 9 [.agg (enapi_Expr a0), .agg (enapi_Expr a1)] (B r) :=
  hE grwOK (s9 rec9 rec25 hr9 hr25 L) mixed Tryz.func9 (by kernel_rfl : cFn Tryz.prog inl Tryz.f9 = some c9) (er := fun (x : Bool) => B x) (by kernel_rfl) (e9 rec9 rec25 L a0 a1) h
/-! ### simulator/simulatorref09.SameAll -/
noncomputable def c25 : EC := (cFn Tryz.prog inl Tryz.f25).getD .stop
def O25 (rec9 : api_Expr → api_Expr → Option Bool) (rec25 : (List api_Expr) → (List api_Expr) → Option Bool) (L : Nat) : Oracle := (orc 9 (A2 (fun (x : Bool) => B x) ca_api_Expr ca_api_Expr rec9) (orc 25 (A2 (fun (x : Bool) => B x) cl25 cl25 rec25) noC))
theorem s25 (rec9 : api_Expr → api_Expr → Option Bool) (rec25 : (List api_Expr) → (List api_Expr) → Option Bool) (hr9 : ∀ (y0 : api_Expr) (y1 : api_Expr) (r : Bool), rec9 y0 y1 = some r → Holds Tryz.prog 9 [.agg (enapi_Expr y0), .agg (enapi_Expr y1)] (B r)) (hr25 : ∀ (y0 : (List api_Expr)) (y1 : (List api_Expr)) (r : Bool), rec25 y0 y1 = some r → Holds Tryz.prog 25 [.lst false (.t25 y0), .lst false (.t25 y1)] (B r)) (L : Nat) : SoundC Tryz.prog (O25 rec9 rec25 L) := (orc_sound (a2 _ hr9) (orc_sound (a2 _ hr25) (noC_sound Tryz.prog)))
def sh25_1 (a0 : (List api_Expr)) (a1 : (List api_Expr)) (v1_2 : Bool) (v1_3 : Int) : St := ({ fr := [(0, .lst false (.t25 a0)), (1, .lst false (.t25 a1)), (4, B v1_2), (5, I v1_3)], ob := [], base := 0 } : St)
def KK25_1 (a0 : (List api_Expr)) (a1 : (List api_Expr)) (K : Ex → St → Prop) : Nat × (Bool × Int) → Prop := fun o => seln o.1 [K .ret (sh25_1 a0 a1 o.2.1 o.2.2), K (.exit 0) (sh25_1 a0 a1 o.2.1 o.2.2)]
def lb_R09_SameAll_1 {A : Type} (an : An A) (rec9 : api_Expr → api_Expr → Option Bool) (rec25 : (List api_Expr) → (List api_Expr) → Option Bool) (L : Nat) (a0 : (List api_Expr)) (a1 : (List api_Expr)) (rec : Bool → Int → A) (out : Nat × (Bool × Int) → A) (v1_2 : Bool) (v1_3 : Int) : A :=
 (an.cn (decide (v1_3 < (a0.length : Int)))
 (an.gd ((0 : Int) ≤ v1_3)
 (an.gd (v1_3 < ((a0.length : Nat) : Int))
 (an.gd ((0 : Int) ≤ v1_3)
 (an.gd (v1_3 < ((a1.length : Nat) : Int))
 (an.bd (rec9 (api_Expr.cp (a0.getD (Int.toNat v1_3) default)) (api_Expr.cp (a1.getD (Int.toNat v1_3) default))) fun r1 =>
 (an.cn (!r1)
 (an.lf out (0, (false, v1_3)))
 (rec v1_2 (w64 (v1_3 + 1)))))))))
 (an.lf out (1, (v1_2, v1_3))))
def lp_R09_SameAll_1 (rec9 : api_Expr → api_Expr → Option Bool) (rec25 : (List api_Expr) → (List api_Expr) → Option Bool) (L : Nat) (a0 : (List api_Expr)) (a1 : (List api_Expr)) : Nat → Bool → Int → Option (Nat × (Bool × Int))
  | 0, _, _ => none
  | n + 1, v1_2, v1_3 => lb_R09_SameAll_1 (anO _) rec9 rec25 L a0 a1 (lp_R09_SameAll_1 rec9 rec25 L a0 a1 n) some v1_2 v1_3
theorem ln25_1 (rec9 : api_Expr → api_Expr → Option Bool) (rec25 : (List api_Expr) → (List api_Expr) → Option Bool) (L : Nat) (a0 : (List api_Expr)) (a1 : (List api_Expr)) (g : Bool → Int → Option (Nat × (Bool × Int))) (Q : Nat × (Bool × Int) → Prop) (v1_2 : Bool) (v1_3 : Int) : lb_R09_SameAll_1 anP rec9 rec25 L a0 a1 (fun v1_2 v1_3 => ob (g v1_2 v1_3) Q) Q v1_2 v1_3 = ob (lb_R09_SameAll_1 (anO _) rec9 rec25 L a0 a1 g some v1_2 v1_3) Q := by
  unfold lb_R09_SameAll_1
  dsimp only [anP, anO]
  try simp only [y1, y2, y3, y4, y5 Q, y6, y7, y8 Q, y9, z1, z2, z3, z4]
theorem le25_1 (rec9 : api_Expr → api_Expr → Option Bool) (rec25 : (List api_Expr) → (List api_Expr) → Option Bool) (L : Nat) (a0 : (List api_Expr)) (a1 : (List api_Expr)) (n : Nat) (v1_2 : Bool) (v1_3 : Int) (K : Ex → St → Prop) : loopN (EV (O25 rec9 rec25 L) L 9 c25.r.r.r.r.l.r.r.l.l) [0, 1, 4, 5] [] n (sh25_1 a0 a1 v1_2 v1_3) K = ob (lp_R09_SameAll_1 rec9 rec25 L a0 a1 n v1_2 v1_3) (fun o => KK25_1 a0 a1 K o) := by
  induction n generalizing v1_2 v1_3 with
  | zero => rfl
  | succ n ih =>
    refine Eq.trans (b := lb_R09_SameAll_1 anP rec9 rec25 L a0 a1 (fun v1_2 v1_3 => loopN (EV (O25 rec9 rec25 L) L 9 c25.r.r.r.r.l.r.r.l.l) [0, 1, 4, 5] [] n (sh25_1 a0 a1 v1_2 v1_3) K) (KK25_1 a0 a1 K) v1_2 v1_3) (by kernel_rfl) ?_
    simp only [ih]
    exact ln25_1 rec9 rec25 L a0 a1 (lp_R09_SameAll_1 rec9 rec25 L a0 a1 n) (KK25_1 a0 a1 K) v1_2 v1_3
def kc25_1 (rec9 : api_Expr → api_Expr → Option Bool) (rec25 : (List api_Expr) → (List api_Expr) → Option Bool) (L : Nat)  (kk : PV → Prop) : Ex → St → Prop := (kBlock 0 (kSeq (EV (O25 rec9 rec25 L) L 9 c25.r.r.r.r.r) (kEnd Tryz.prog (RS Tryz.f25) kk)))
theorem q25_1 (rec9 : api_Expr → api_Expr → Option Bool) (rec25 : (List api_Expr) → (List api_Expr) → Option Bool) (L : Nat) (a0 : (List api_Expr)) (a1 : (List api_Expr)) (kk : PV → Prop) (o1 : Nat × (Bool × Int)) : KK25_1 a0 a1 (kc25_1 rec9 rec25 L kk) o1 =
 (seln o1.1 [(ob (some o1.2.1) (fun (x : Bool) => kk (B x))),
 (ob (some true) (fun (x : Bool) => kk (B x)))]) := by kernel_rfl
def T_R09_SameAll {A : Type} (an : An A) (rec9 : api_Expr → api_Expr → Option Bool) (rec25 : (List api_Expr) → (List api_Expr) → Option Bool) (L : Nat) (a0 : (List api_Expr)) (a1 : (List api_Expr)) (out : Bool → A) : A :=
 (an.cn ((a0.length : Int) != (a1.length : Int))
 (an.lf out false)
 (an.bd (lp_R09_SameAll_1 rec9 rec25 L a0 a1 L false 0) fun o1 =>
 (an.sl o1.1 [(an.lf out o1.2.1),
 (an.lf out true)])))
def B_R09_SameAll (rec9 : api_Expr → api_Expr → Option Bool) (rec25 : (List api_Expr) → (List api_Expr) → Option Bool) (L : Nat) (a0 : (List api_Expr)) (a1 : (List api_Expr)) : Option Bool := T_R09_SameAll (anO _) rec9 rec25 L a0 a1 some
theorem e25 (rec9 : api_Expr → api_Expr → Option Bool) (rec25 : (List api_Expr) → (List api_Expr) → Option Bool) (L : Nat) (a0 : (List api_Expr)) (a1 : (List api_Expr)) (kk : PV → Prop) : EW (O25 rec9 rec25 L) L 9 (RS Tryz.f25) c25 [.lst false (.t25 a0), .lst false (.t25 a1)] kk = ob (B_R09_SameAll rec9 rec25 L a0 a1) (fun (x : Bool) => kk (B x)) := by
  refine Eq.trans (b := T_R09_SameAll anP rec9 rec25 L a0 a1 (fun (x : Bool) => kk (B x))) ?_ ?_
  · refine Eq.trans (b := (br ((a0.length : Int) != (a1.length : Int))
 (ob (some false) (fun (x : Bool) => kk (B x)))
 (loopN (EV (O25 rec9 rec25 L) L 9 c25.r.r.r.r.l.r.r.l.l) [0, 1, 4, 5] [] L (sh25_1 a0 a1 false 0) (kc25_1 rec9 rec25 L kk)))) (by kernel_rfl) ?_
    unfold T_R09_SameAll
    dsimp only [anP]
    simp only [le25_1, q25_1]
  generalize (fun (x : Bool) => kk (B x)) = Q
  unfold B_R09_SameAll T_R09_SameAll
  dsimp only [anP, anO]
  try simp only [y1, y2, y3, y4, y5 Q, y6, y7, y8 Q, y9, z1, z2, z3, z4]
theorem b25 (rec9 : api_Expr → api_Expr → Option Bool) (rec25 : (List api_Expr) → (List api_Expr) → Option Bool) (hr9 : ∀ (y0 : api_Expr) (y1 : api_Expr) (r : Bool), rec9 y0 y1 = some r → Holds Tryz.prog 9 [.agg (enapi_Expr y0), .agg (enapi_Expr y1)] (B r)) (hr25 : ∀ (y0 : (List api_Expr)) (y1 : (List api_Expr)) (r : Bool), rec25 y0 y1 = some r → Holds Tryz.prog 25 [.lst false (.t25 y0), .lst false (.t25 y1)] (B r)) (L : Nat) (a0 : (List api_Expr)) (a1 : (List api_Expr)) (r : Bool) (h : B_R09_SameAll rec9 rec25 L a0 a1 = some r) : Holds Tryz.prog 25 [.lst false (.t25 a0), .lst false (.t25 a1)] (B r) :=
  hE grwOK (s25 rec9 rec25 hr9 hr25 L) mixed Tryz.func25 (by kernel_rfl : cFn Tryz.prog inl Tryz.f25 = some c25) (er := fun (x : Bool) => B x) (by kernel_rfl) (e25 rec9 rec25 L a0 a1) h
mutual
def F_R09_Same : Nat → api_Expr → api_Expr → Option Bool
  | 0, _, _ => none
  | L + 1, a0, a1 => B_R09_Same (F_R09_Same L) (F_R09_SameAll L) L a0 a1
def F_R09_SameAll : Nat → (List api_Expr) → (List api_Expr) → Option Bool
  | 0, _, _ => none
  | L + 1, a0, a1 => B_R09_SameAll (F_R09_Same L) (F_R09_SameAll L) L a0 a1
end
theorem hall9 : ∀ L, (∀ (y0 : api_Expr) (y1 : api_Expr) (r : Bool), F_R09_Same L y0 y1 = some r → Holds Tryz.prog 9 [.agg (enapi_Expr y0), .agg (enapi_Expr y1)] (B r)) ∧ (∀ (y0 : (List api_Expr)) (y1 : (List api_Expr)) (r : Bool), F_R09_SameAll L y0 y1 = some r → Holds Tryz.prog 25 [.lst false (.t25 y0), .lst false (.t25 y1)] (B r)) := by
  intro L
  induction L with
  | zero => exact ⟨fun _ _ r h => (by cases h), fun _ _ r h => (by cases h)⟩
  | succ L ih =>
    obtain ⟨i9, i25⟩ := ih
    exact ⟨fun y0 y1 r h => b9 (F_R09_Same L) (F_R09_SameAll L) i9 i25 L y0 y1 r h, fun y0 y1 r h => b25 (F_R09_Same L) (F_R09_SameAll L) i9 i25 L y0 y1 r h⟩
theorem h9 (L : Nat) : ∀ (y0 : api_Expr) (y1 : api_Expr) (r : Bool), F_R09_Same L y0 y1 = some r → Holds Tryz.prog 9 [.agg (enapi_Expr y0), .agg (enapi_Expr y1)] (B r) := (hall9 L).1
theorem h25 (L : Nat) : ∀ (y0 : (List api_Expr)) (y1 : (List api_Expr)) (r : Bool), F_R09_SameAll L y0 y1 = some r → Holds Tryz.prog 25 [.lst false (.t25 y0), .lst false (.t25 y1)] (B r) := (hall9 L).2
end Go.Proofs.YtonfmpiikdmndaaGreat.Ev
