import Derived.Test.YtonfmpiikdmndaaGreatG4
namespace Go.Proofs.YtonfmpiikdmndaaGreat.Ev
open Go
set_option maxRecDepth 100000
set_option linter.unusedVariables false
set_option linter.unusedSimpArgs false
set_option linter.unnecessarySimpa false
/-! ### simulator/simulatorlaw16.BindFolds -/
noncomputable def c3 : EC := (cFn Tryz.prog inl Tryz.f3).getD .stop
def O3  (L : Nat) : Oracle := (orc 6 (A1 (fun (x : Int) => I x) ca_api_Expr (F_R09_Nodes L)) (orc 7 (A0 (fun (x : Bool) => B x)  (F_L16_awake L)) (orc 8 (A1 (fun (x : api_Expr) => .agg (enapi_Expr x)) ca_api_Expr (F_bind_Fold L)) (orc 9 (A2 (fun (x : Bool) => B x) ca_api_Expr ca_api_Expr (F_R09_Same L)) (orc 10 (A1 (fun (x : api_Expr) => .agg (enapi_Expr x)) ca_api_Expr (F_R16_Fold L)) (orc 11 (A1 (fun (x : Int) => I x) ca_api_Expr (F_R09_Check L)) noC))))))
theorem s3   (L : Nat) : SoundC Tryz.prog (O3 L) := (orc_sound (a1 _ (h6 L)) (orc_sound (a0 _ (h7 L)) (orc_sound (a1 _ (h8 L)) (orc_sound (a2 _ (h9 L)) (orc_sound (a1 _ (h10 L)) (orc_sound (a1 _ (h11 L)) (noC_sound Tryz.prog)))))))
def T_L16_BindFolds {A : Type} (an : An A)  (L : Nat) (a0 : api_Expr) (out : Bool → A) : A :=
 (an.bd (F_R09_Nodes L (api_Expr.cp a0)) fun r1 =>
 (an.cn (decide (r1 > 200))
 (an.bd (F_L16_awake L) fun r2 =>
 (an.lf out r2))
 (an.bd (F_bind_Fold L (api_Expr.cp a0)) fun r3 =>
 (an.bd (F_R16_Fold L (api_Expr.cp a0)) fun r4 =>
 (an.bd (F_R09_Same L (api_Expr.cp r3) (api_Expr.cp r4)) fun r5 =>
 (an.cn (!r5)
 (an.lf out false)
 (an.bd (F_R09_Nodes L (api_Expr.cp r3)) fun r6 =>
 (an.bd (F_R09_Nodes L (api_Expr.cp a0)) fun r7 =>
 (an.cn (decide (r6 > r7))
 (an.lf out false)
 (an.bd (F_R09_Check L (api_Expr.cp r3)) fun r8 =>
 (an.bd (F_R09_Check L (api_Expr.cp a0)) fun r9 =>
 (an.cn (r8 != r9)
 (an.lf out false)
 (an.bd (F_bind_Fold L (api_Expr.cp r3)) fun r10 =>
 (an.bd (F_R09_Same L (api_Expr.cp r10) (api_Expr.cp r3)) fun r11 =>
 (an.cn r11
 (an.bd (F_L16_awake L) fun r12 =>
 (an.lf out r12))
 (an.lf out false))))))))))))))))
def F_L16_BindFolds  (L : Nat) (a0 : api_Expr) : Option Bool := T_L16_BindFolds (anO _) L a0 some
theorem e3  (L : Nat) (a0 : api_Expr) (kk : PV → Prop) : EW (O3 L) L 9 (RS Tryz.f3) c3 [.agg (enapi_Expr a0)] kk = ob (F_L16_BindFolds L a0) (fun (x : Bool) => kk (B x)) := by
  refine Eq.trans (b := T_L16_BindFolds anP L a0 (fun (x : Bool) => kk (B x))) (by kernel_rfl) ?_
  generalize (fun (x : Bool) => kk (B x)) = Q
  unfold F_L16_BindFolds T_L16_BindFolds
  dsimp only [anP, anO]
  try simp only [y1, y2, y3, y4, y5 Q, y6, y7, y8 Q, y9, z1, z2, z3, z4]
theorem h3   (L : Nat) (a0 : api_Expr) (r : Bool) (h : F_L16_BindFolds L a0 = some r) : Holds Tryz.prog 3 [.agg (enapi_Expr a0)] (B r) :=
  hE grwOK (s3  L) mixed Tryz.func3 (by kernel_rfl : cFn Tryz.prog inl Tryz.f3 = some c3) (er := fun (x : Bool) => B x) (by kernel_rfl) (e3 L a0) h
/-! ### simulator/simulatorlaw16.small -/
noncomputable def c12 : EC := (cFn Tryz.prog inl Tryz.f12).getD .stop
def O12  (L : Nat) : Oracle := noC
theorem s12   (L : Nat) : SoundC Tryz.prog (O12 L) := (noC_sound Tryz.prog)
def T_L16_small {A : Type} (an : An A)  (L : Nat) (a0 : api_SiteDecl) (out : Bool → A) : A :=
 (an.jp (bif (decide ((a0.Vars.length : Int) ≤ 100)) then (decide ((a0.Resources.length : Int) ≤ 100))
 else false) (fun j => (an.cn (decide ((a0.Vars.length : Int) ≤ 100))
 (an.ap j (decide ((a0.Resources.length : Int) ≤ 100)))
 (an.ap j false))) (fun b1 =>
 (an.jp (bif b1 then (decide ((a0.Stores.length : Int) ≤ 100))
 else false) (fun j => (an.cn b1
 (an.ap j (decide ((a0.Stores.length : Int) ≤ 100)))
 (an.ap j false))) (fun b2 =>
 (an.jp (bif b2 then (decide ((a0.Belts.length : Int) ≤ 100))
 else false) (fun j => (an.cn b2
 (an.ap j (decide ((a0.Belts.length : Int) ≤ 100)))
 (an.ap j false))) (fun b3 =>
 (an.jp (bif b3 then (decide ((a0.Queues.length : Int) ≤ 100))
 else false) (fun j => (an.cn b3
 (an.ap j (decide ((a0.Queues.length : Int) ≤ 100)))
 (an.ap j false))) (fun b4 =>
 (an.jp (bif b4 then (decide ((a0.Streams.length : Int) ≤ 100))
 else false) (fun j => (an.cn b4
 (an.ap j (decide ((a0.Streams.length : Int) ≤ 100)))
 (an.ap j false))) (fun b5 =>
 (an.jp (bif b5 then (decide ((a0.Tallies.length : Int) ≤ 100))
 else false) (fun j => (an.cn b5
 (an.ap j (decide ((a0.Tallies.length : Int) ≤ 100)))
 (an.ap j false))) (fun b6 =>
 (an.jp (bif b6 then (decide ((a0.Levels.length : Int) ≤ 100))
 else false) (fun j => (an.cn b6
 (an.ap j (decide ((a0.Levels.length : Int) ≤ 100)))
 (an.ap j false))) (fun b7 =>
 (an.jp (bif b7 then (decide ((a0.Counts.length : Int) ≤ 100))
 else false) (fun j => (an.cn b7
 (an.ap j (decide ((a0.Counts.length : Int) ≤ 100)))
 (an.ap j false))) (fun b8 =>
 (an.jp (bif b8 then (decide ((a0.Routines.length : Int) ≤ 100))
 else false) (fun j => (an.cn b8
 (an.ap j (decide ((a0.Routines.length : Int) ≤ 100)))
 (an.ap j false))) (fun b9 =>
 (an.lf out b9)))))))))))))))))))
def F_L16_small  (L : Nat) (a0 : api_SiteDecl) : Option Bool := T_L16_small (anO _) L a0 some
theorem e12  (L : Nat) (a0 : api_SiteDecl) (kk : PV → Prop) : EW (O12 L) L 9 (RS Tryz.f12) c12 [.agg (enapi_SiteDecl a0)] kk = ob (F_L16_small L a0) (fun (x : Bool) => kk (B x)) := by
  refine Eq.trans (b := T_L16_small anP L a0 (fun (x : Bool) => kk (B x))) (by kernel_rfl) ?_
  generalize (fun (x : Bool) => kk (B x)) = Q
  unfold F_L16_small T_L16_small
  dsimp only [anP, anO]
  try simp only [y1, y2, y3, y4, y5 Q, y6, y7, y8 Q, y9, z1, z2, z3, z4]
theorem h12   (L : Nat) (a0 : api_SiteDecl) (r : Bool) (h : F_L16_small L a0 = some r) : Holds Tryz.prog 12 [.agg (enapi_SiteDecl a0)] (B r) :=
  hE grwOK (s12  L) mixed Tryz.func12 (by kernel_rfl : cFn Tryz.prog inl Tryz.f12 = some c12) (er := fun (x : Bool) => B x) (by kernel_rfl) (e12 L a0) h
/-! ### simulator/simulatorlaw16.BindTypes -/
noncomputable def c4 : EC := (cFn Tryz.prog inl Tryz.f4).getD .stop
def O4  (L : Nat) : Oracle := (orc 6 (A1 (fun (x : Int) => I x) ca_api_Expr (F_R09_Nodes L)) (orc 7 (A0 (fun (x : Bool) => B x)  (F_L16_awake L)) (orc 8 (A1 (fun (x : api_Expr) => .agg (enapi_Expr x)) ca_api_Expr (F_bind_Fold L)) (orc 12 (A1 (fun (x : Bool) => B x) ca_api_SiteDecl (F_L16_small L)) (orc 13 (A2 (fun (x : (Int × Int)) => .tup [I x.1, I x.2]) ca_api_Env ca_api_Expr (F_typing_Expr L)) noC)))))
theorem s4   (L : Nat) : SoundC Tryz.prog (O4 L) := (orc_sound (a1 _ (h6 L)) (orc_sound (a0 _ (h7 L)) (orc_sound (a1 _ (h8 L)) (orc_sound (a1 _ (h12 L)) (orc_sound (a2 _ (h13 L)) (noC_sound Tryz.prog))))))
def T_L16_BindTypes {A : Type} (an : An A)  (L : Nat) (a0 : api_Env) (a1 : api_Expr) (out : Bool → A) : A :=
 (an.bd (F_R09_Nodes L (api_Expr.cp a1)) fun r1 =>
 (an.jp (bif (decide (r1 > 200)) then true
 else (decide ((a0.Params.length : Int) > 100))) (fun j => (an.cn (decide (r1 > 200))
 (an.ap j true)
 (an.ap j (decide ((a0.Params.length : Int) > 100))))) (fun b2 =>
 (an.jp (bif b2 then true
 else (decide ((a0.Locals.length : Int) > 100))) (fun j => (an.cn b2
 (an.ap j true)
 (an.ap j (decide ((a0.Locals.length : Int) > 100))))) (fun b3 =>
 (an.jb (bif b3 then (some true)
 else (Option.bind (F_L16_small L a0.Site) fun r5 =>
 (some (!r5)))) (fun j => (an.cn b3
 (an.lf j true)
 (an.bd (F_L16_small L a0.Site) fun r6 =>
 (an.lf j (!r6))))) (fun b4 =>
 (an.cn b4
 (an.bd (F_L16_awake L) fun r7 =>
 (an.lf out r7))
 (an.bd (F_typing_Expr L a0 (api_Expr.cp a1)) fun r8 =>
 (an.cn (r8.2 != 0)
 (an.bd (F_L16_awake L) fun r9 =>
 (an.lf out r9))
 (an.bd (F_bind_Fold L (api_Expr.cp a1)) fun r10 =>
 (an.bd (F_typing_Expr L a0 (api_Expr.cp r10)) fun r11 =>
 (an.jp (bif (r11.2 == 0) then (r8.1 == r11.1)
 else false) (fun j => (an.cn (r11.2 == 0)
 (an.ap j (r8.1 == r11.1))
 (an.ap j false))) (fun b12 =>
 (an.jb (bif b12 then (Option.bind (F_L16_awake L) fun r14 =>
 (some r14))
 else (some false)) (fun j => (an.cn b12
 (an.bd (F_L16_awake L) fun r15 =>
 (an.lf j r15))
 (an.lf j false))) (fun b13 =>
 (an.lf out b13)))))))))))))))))
def F_L16_BindTypes  (L : Nat) (a0 : api_Env) (a1 : api_Expr) : Option Bool := T_L16_BindTypes (anO _) L a0 a1 some
theorem e4  (L : Nat) (a0 : api_Env) (a1 : api_Expr) (kk : PV → Prop) : EW (O4 L) L 9 (RS Tryz.f4) c4 [.agg (enapi_Env a0), .agg (enapi_Expr a1)] kk = ob (F_L16_BindTypes L a0 a1) (fun (x : Bool) => kk (B x)) := by
  refine Eq.trans (b := T_L16_BindTypes anP L a0 a1 (fun (x : Bool) => kk (B x))) (by kernel_rfl) ?_
  generalize (fun (x : Bool) => kk (B x)) = Q
  unfold F_L16_BindTypes T_L16_BindTypes
  dsimp only [anP, anO]
  try simp only [y1, y2, y3, y4, y5 Q, y6, y7, y8 Q, y9, z1, z2, z3, z4]
theorem h4   (L : Nat) (a0 : api_Env) (a1 : api_Expr) (r : Bool) (h : F_L16_BindTypes L a0 a1 = some r) : Holds Tryz.prog 4 [.agg (enapi_Env a0), .agg (enapi_Expr a1)] (B r) :=
  hE grwOK (s4  L) mixed Tryz.func4 (by kernel_rfl : cFn Tryz.prog inl Tryz.f4 = some c4) (er := fun (x : Bool) => B x) (by kernel_rfl) (e4 L a0 a1) h
/-! ### simulator/simulatorref09.CheckCode -/
noncomputable def c14 : EC := (cFn Tryz.prog inl Tryz.f14).getD .stop
def O14  (L : Nat) : Oracle := (orc 27 (A2 (fun (x : Int) => I x) ca_api_Expr cB (F_R09_check L)) noC)
theorem s14   (L : Nat) : SoundC Tryz.prog (O14 L) := (orc_sound (a2 _ (h27 L)) (noC_sound Tryz.prog))
def T_R09_CheckCode {A : Type} (an : An A)  (L : Nat) (a0 : api_Expr) (out : Int → A) : A :=
 (an.bd (F_R09_check L (api_Expr.cp a0) true) fun r1 =>
 (an.lf out r1))
def F_R09_CheckCode  (L : Nat) (a0 : api_Expr) : Option Int := T_R09_CheckCode (anO _) L a0 some
theorem e14  (L : Nat) (a0 : api_Expr) (kk : PV → Prop) : EW (O14 L) L 9 (RS Tryz.f14) c14 [.agg (enapi_Expr a0)] kk = ob (F_R09_CheckCode L a0) (fun (x : Int) => kk (I x)) := by
  refine Eq.trans (b := T_R09_CheckCode anP L a0 (fun (x : Int) => kk (I x))) (by kernel_rfl) ?_
  generalize (fun (x : Int) => kk (I x)) = Q
  unfold F_R09_CheckCode T_R09_CheckCode
  dsimp only [anP, anO]
  try simp only [y1, y2, y3, y4, y5 Q, y6, y7, y8 Q, y9, z1, z2, z3, z4]
theorem h14   (L : Nat) (a0 : api_Expr) (r : Int) (h : F_R09_CheckCode L a0 = some r) : Holds Tryz.prog 14 [.agg (enapi_Expr a0)] (I r) :=
  hE grwOK (s14  L) mixed Tryz.func14 (by kernel_rfl : cFn Tryz.prog inl Tryz.f14 = some c14) (er := fun (x : Int) => I x) (by kernel_rfl) (e14 L a0) h
/-! ### simulator/expr.CheckCode -/
noncomputable def c29 : EC := (cFn Tryz.prog inl Tryz.f29).getD .stop
def O29  (L : Nat) : Oracle := (orc 39 (A2 (fun (x : Int) => I x) ca_expr_kind ca_api_Expr (F_expr_kind_check L)) noC)
theorem s29   (L : Nat) : SoundC Tryz.prog (O29 L) := (orc_sound (a2 _ (h39 L)) (noC_sound Tryz.prog))
def T_expr_CheckCode {A : Type} (an : An A)  (L : Nat) (a0 : api_Expr) (out : Int → A) : A :=
 (an.bd (F_expr_kind_check L (⟨true⟩ : expr_kind) (api_Expr.cp a0)) fun r1 =>
 (an.lf out r1))
def F_expr_CheckCode  (L : Nat) (a0 : api_Expr) : Option Int := T_expr_CheckCode (anO _) L a0 some
theorem e29  (L : Nat) (a0 : api_Expr) (kk : PV → Prop) : EW (O29 L) L 9 (RS Tryz.f29) c29 [.agg (enapi_Expr a0)] kk = ob (F_expr_CheckCode L a0) (fun (x : Int) => kk (I x)) := by
  refine Eq.trans (b := T_expr_CheckCode anP L a0 (fun (x : Int) => kk (I x))) (by kernel_rfl) ?_
  generalize (fun (x : Int) => kk (I x)) = Q
  unfold F_expr_CheckCode T_expr_CheckCode
  dsimp only [anP, anO]
  try simp only [y1, y2, y3, y4, y5 Q, y6, y7, y8 Q, y9, z1, z2, z3, z4]
theorem h29   (L : Nat) (a0 : api_Expr) (r : Int) (h : F_expr_CheckCode L a0 = some r) : Holds Tryz.prog 29 [.agg (enapi_Expr a0)] (I r) :=
  hE grwOK (s29  L) mixed Tryz.func29 (by kernel_rfl : cFn Tryz.prog inl Tryz.f29 = some c29) (er := fun (x : Int) => I x) (by kernel_rfl) (e29 L a0) h
/-! ### simulator/eval.element -/
noncomputable def c85 : EC := (cFn Tryz.prog inl Tryz.f85).getD .stop
def O85  (L : Nat) : Oracle := noC
theorem s85   (L : Nat) : SoundC Tryz.prog (O85 L) := (noC_sound Tryz.prog)
def T_eval_element {A : Type} (an : An A)  (L : Nat) (a0 : (List Int)) (a1 : Int) (out : Int → A) : A :=
 (an.jp (bif (decide (a1 < 0)) then true
 else (decide (a1 ≥ (a0.length : Int)))) (fun j => (an.cn (decide (a1 < 0))
 (an.ap j true)
 (an.ap j (decide (a1 ≥ (a0.length : Int)))))) (fun b1 =>
 (an.cn b1
 (an.lf out 0)
 (an.gd ((0 : Int) ≤ a1)
 (an.gd (a1 < ((a0.length : Nat) : Int))
 (an.lf out (a0.getD (Int.toNat a1) default)))))))
def F_eval_element  (L : Nat) (a0 : (List Int)) (a1 : Int) : Option Int := T_eval_element (anO _) L a0 a1 some
theorem e85  (L : Nat) (a0 : (List Int)) (a1 : Int) (kk : PV → Prop) : EW (O85 L) L 9 (RS Tryz.f85) c85 [.lst false (.t3 a0), I a1] kk = ob (F_eval_element L a0 a1) (fun (x : Int) => kk (I x)) := by
  refine Eq.trans (b := T_eval_element anP L a0 a1 (fun (x : Int) => kk (I x))) (by kernel_rfl) ?_
  generalize (fun (x : Int) => kk (I x)) = Q
  unfold F_eval_element T_eval_element
  dsimp only [anP, anO]
  try simp only [y1, y2, y3, y4, y5 Q, y6, y7, y8 Q, y9, z1, z2, z3, z4]
  try simp only [z5, z6, y1, y2, y3, y4, y5 Q, y6, y7, y8 Q, y9, z1, z2, z3, z4]
theorem h85   (L : Nat) (a0 : (List Int)) (a1 : Int) (r : Int) (h : F_eval_element L a0 a1 = some r) : Holds Tryz.prog 85 [.lst false (.t3 a0), I a1] (I r) :=
  hE grwOK (s85  L) mixed Tryz.func85 (by kernel_rfl : cFn Tryz.prog inl Tryz.f85 = some c85) (er := fun (x : Int) => I x) (by kernel_rfl) (e85 L a0 a1) h
/-! ### simulator/eval.leaf -/
noncomputable def c52 : EC := (cFn Tryz.prog inl Tryz.f52).getD .stop
def O52  (L : Nat) : Oracle := (orc 85 (A2 (fun (x : Int) => I x) cl3 (cI .i64) (F_eval_element L)) noC)
theorem s52   (L : Nat) : SoundC Tryz.prog (O52 L) := (orc_sound (a2 _ (h85 L)) (noC_sound Tryz.prog))
def T_eval_leaf {A : Type} (an : An A)  (L : Nat) (a0 : api_View) (a1 : api_Expr) (out : Int → A) : A :=
 (an.cn (a1.Op == 1)
 (an.cn (a1.Op == 1)
 (an.lf out a1.N)
 (an.cn (a1.Op == 4)
 (an.lf out a0.Now)
 (an.cn (a1.Op == 25)
 (an.bd (F_eval_element L a0.Slots a1.N) fun r1 =>
 (an.lf out r1))
 (an.cn (a1.Op == 26)
 (an.bd (F_eval_element L a0.Vars a1.N) fun r2 =>
 (an.lf out r2))
 (an.cn (a1.Op == 22)
 (an.bd (F_eval_element L a0.Free a1.N) fun r3 =>
 (an.lf out r3))
 (an.cn (a1.Op == 23)
 (an.bd (F_eval_element L a0.Size a1.N) fun r4 =>
 (an.lf out r4))
 (an.bd (F_eval_element L a0.Waiting a1.N) fun r5 =>
 (an.lf out r5))))))))
 (an.cn (a1.Op == 2)
 (an.lf out a1.N)
 (an.cn (a1.Op == 4)
 (an.lf out a0.Now)
 (an.cn (a1.Op == 25)
 (an.bd (F_eval_element L a0.Slots a1.N) fun r6 =>
 (an.lf out r6))
 (an.cn (a1.Op == 26)
 (an.bd (F_eval_element L a0.Vars a1.N) fun r7 =>
 (an.lf out r7))
 (an.cn (a1.Op == 22)
 (an.bd (F_eval_element L a0.Free a1.N) fun r8 =>
 (an.lf out r8))
 (an.cn (a1.Op == 23)
 (an.bd (F_eval_element L a0.Size a1.N) fun r9 =>
 (an.lf out r9))
 (an.bd (F_eval_element L a0.Waiting a1.N) fun r10 =>
 (an.lf out r10)))))))))
def F_eval_leaf  (L : Nat) (a0 : api_View) (a1 : api_Expr) : Option Int := T_eval_leaf (anO _) L a0 a1 some
theorem e52  (L : Nat) (a0 : api_View) (a1 : api_Expr) (kk : PV → Prop) : EW (O52 L) L 9 (RS Tryz.f52) c52 [.agg (enapi_View a0), .agg (enapi_Expr a1)] kk = ob (F_eval_leaf L a0 a1) (fun (x : Int) => kk (I x)) := by
  refine Eq.trans (b := T_eval_leaf anP L a0 a1 (fun (x : Int) => kk (I x))) (by kernel_rfl) ?_
  generalize (fun (x : Int) => kk (I x)) = Q
  unfold F_eval_leaf T_eval_leaf
  dsimp only [anP, anO]
  try simp only [y1, y2, y3, y4, y5 Q, y6, y7, y8 Q, y9, z1, z2, z3, z4]
theorem h52   (L : Nat) (a0 : api_View) (a1 : api_Expr) (r : Int) (h : F_eval_leaf L a0 a1 = some r) : Holds Tryz.prog 52 [.agg (enapi_View a0), .agg (enapi_Expr a1)] (I r) :=
  hE grwOK (s52  L) mixed Tryz.func52 (by kernel_rfl : cFn Tryz.prog inl Tryz.f52 = some c52) (er := fun (x : Int) => I x) (by kernel_rfl) (e52 L a0 a1) h
/-! ### simulator/eval.value -/
noncomputable def c30 : EC := (cFn Tryz.prog inl Tryz.f30).getD .stop
def O30 (rec30 : api_View → api_Expr → Option Int) (L : Nat) : Oracle := (orc 30 (A2 (fun (x : Int) => I x) ca_api_View ca_api_Expr rec30) (orc 42 (A2 (fun (x : Int) => I x) (cI .i64) (cI .i64) (F_eval_Unary L)) (orc 43 (A3 (fun (x : Int) => I x) (cI .i64) (cI .i64) (cI .i64) (F_eval_Binary L)) (orc 52 (A2 (fun (x : Int) => I x) ca_api_View ca_api_Expr (F_eval_leaf L)) noC))))
theorem s30 (rec30 : api_View → api_Expr → Option Int) (hr30 : ∀ (y0 : api_View) (y1 : api_Expr) (r : Int), rec30 y0 y1 = some r → Holds Tryz.prog 30 [.agg (enapi_View y0), .agg (enapi_Expr y1)] (I r)) (L : Nat) : SoundC Tryz.prog (O30 rec30 L) := (orc_sound (a2 _ hr30) (orc_sound (a2 _ (h42 L)) (orc_sound (a3 _ (h43 L)) (orc_sound (a2 _ (h52 L)) (noC_sound Tryz.prog)))))
def T_eval_value {A : Type} (an : An A) (rec30 : api_View → api_Expr → Option Int) (L : Nat) (a0 : api_View) (a1 : api_Expr) (out : Int → A) : A :=
 (an.cn ((a1.Kids.length : Int) == 0)
 (an.bd (F_eval_leaf L a0 (api_Expr.cp a1)) fun r1 =>
 (an.lf out r1))
 (an.cn ((a1.Kids.length : Int) == 1)
 (an.gd ((0 : Int) ≤ 0)
 (an.gd (0 < ((a1.Kids.length : Nat) : Int))
 (an.bd (rec30 a0 (api_Expr.cp (a1.Kids.getD 0 default))) fun r2 =>
 (an.bd (F_eval_Unary L a1.Op r2) fun r3 =>
 (an.lf out r3)))))
 (an.gd ((0 : Int) ≤ 0)
 (an.gd (0 < ((a1.Kids.length : Nat) : Int))
 (an.bd (rec30 a0 (api_Expr.cp (a1.Kids.getD 0 default))) fun r4 =>
 (an.gd ((0 : Int) ≤ 1)
 (an.gd (1 < ((a1.Kids.length : Nat) : Int))
 (an.bd (rec30 a0 (api_Expr.cp (a1.Kids.getD 1 default))) fun r5 =>
 (an.bd (F_eval_Binary L a1.Op r4 r5) fun r6 =>
 (an.lf out r6))))))))))
def B_eval_value (rec30 : api_View → api_Expr → Option Int) (L : Nat) (a0 : api_View) (a1 : api_Expr) : Option Int := T_eval_value (anO _) rec30 L a0 a1 some
theorem e30 (rec30 : api_View → api_Expr → Option Int) (L : Nat) (a0 : api_View) (a1 : api_Expr) (kk : PV → Prop) : EW (O30 rec30 L) L 9 (RS Tryz.f30) c30 [.agg (enapi_View a0), .agg (enapi_Expr a1)] kk = ob (B_eval_value rec30 L a0 a1) (fun (x : Int) => kk (I x)) := by
  refine Eq.trans (b := T_eval_value anP rec30 L a0 a1 (fun (x : Int) => kk (I x))) (by kernel_rfl) ?_
  generalize (fun (x : Int) => kk (I x)) = Q
  unfold B_eval_value T_eval_value
  dsimp only [anP, anO]
  try simp only [y1, y2, y3, y4, y5 Q, y6, y7, y8 Q, y9, z1, z2, z3, z4]
theorem b30 (rec30 : api_View → api_Expr → Option Int) (hr30 : ∀ (y0 : api_View) (y1 : api_Expr) (r : Int), rec30 y0 y1 = some r → Holds Tryz.prog 30 [.agg (enapi_View y0), .agg (enapi_Expr y1)] (I r)) (L : Nat) (a0 : api_View) (a1 : api_Expr) (r : Int) (h : B_eval_value rec30 L a0 a1 = some r) : Holds Tryz.prog 30 [.agg (enapi_View a0), .agg (enapi_Expr a1)] (I r) :=
  hE grwOK (s30 rec30 hr30 L) mixed Tryz.func30 (by kernel_rfl : cFn Tryz.prog inl Tryz.f30 = some c30) (er := fun (x : Int) => I x) (by kernel_rfl) (e30 rec30 L a0 a1) h
def F_eval_value : Nat → api_View → api_Expr → Option Int
  | 0, _, _ => none
  | L + 1, a0, a1 => B_eval_value (F_eval_value L) L a0 a1
theorem hall30 : ∀ L, (∀ (y0 : api_View) (y1 : api_Expr) (r : Int), F_eval_value L y0 y1 = some r → Holds Tryz.prog 30 [.agg (enapi_View y0), .agg (enapi_Expr y1)] (I r)) := by
  intro L
  induction L with
  | zero => exact fun _ _ r h => (by cases h)
  | succ L ih =>
    have i30 := ih
    exact fun y0 y1 r h => b30 (F_eval_value L) i30 L y0 y1 r h
theorem h30 (L : Nat) : ∀ (y0 : api_View) (y1 : api_Expr) (r : Int), F_eval_value L y0 y1 = some r → Holds Tryz.prog 30 [.agg (enapi_View y0), .agg (enapi_Expr y1)] (I r) := hall30 L
/-! ### simulator/eval.Expr -/
noncomputable def c15 : EC := (cFn Tryz.prog inl Tryz.f15).getD .stop
def O15  (L : Nat) : Oracle := (orc 29 (A1 (fun (x : Int) => I x) ca_api_Expr (F_expr_CheckCode L)) (orc 30 (A2 (fun (x : Int) => I x) ca_api_View ca_api_Expr (F_eval_value L)) noC))
theorem s15   (L : Nat) : SoundC Tryz.prog (O15 L) := (orc_sound (a1 _ (h29 L)) (orc_sound (a2 _ (h30 L)) (noC_sound Tryz.prog)))
def T_eval_Expr {A : Type} (an : An A)  (L : Nat) (a0 : api_View) (a1 : api_Expr) (out : Int → A) : A :=
 (an.bd (F_expr_CheckCode L (api_Expr.cp a1)) fun r1 =>
 (an.cn (r1 != 0)
 (an.lf out 0)
 (an.bd (F_eval_value L a0 (api_Expr.cp a1)) fun r2 =>
 (an.lf out r2))))
def F_eval_Expr  (L : Nat) (a0 : api_View) (a1 : api_Expr) : Option Int := T_eval_Expr (anO _) L a0 a1 some
theorem e15  (L : Nat) (a0 : api_View) (a1 : api_Expr) (kk : PV → Prop) : EW (O15 L) L 9 (RS Tryz.f15) c15 [.agg (enapi_View a0), .agg (enapi_Expr a1)] kk = ob (F_eval_Expr L a0 a1) (fun (x : Int) => kk (I x)) := by
  refine Eq.trans (b := T_eval_Expr anP L a0 a1 (fun (x : Int) => kk (I x))) (by kernel_rfl) ?_
  generalize (fun (x : Int) => kk (I x)) = Q
  unfold F_eval_Expr T_eval_Expr
  dsimp only [anP, anO]
  try simp only [y1, y2, y3, y4, y5 Q, y6, y7, y8 Q, y9, z1, z2, z3, z4]
theorem h15   (L : Nat) (a0 : api_View) (a1 : api_Expr) (r : Int) (h : F_eval_Expr L a0 a1 = some r) : Holds Tryz.prog 15 [.agg (enapi_View a0), .agg (enapi_Expr a1)] (I r) :=
  hE grwOK (s15  L) mixed Tryz.func15 (by kernel_rfl : cFn Tryz.prog inl Tryz.f15 = some c15) (er := fun (x : Int) => I x) (by kernel_rfl) (e15 L a0 a1) h
/-! ### simulator/simulatorlaw16.BindValues -/
noncomputable def c5 : EC := (cFn Tryz.prog inl Tryz.f5).getD .stop
def O5  (L : Nat) : Oracle := (orc 6 (A1 (fun (x : Int) => I x) ca_api_Expr (F_R09_Nodes L)) (orc 7 (A0 (fun (x : Bool) => B x)  (F_L16_awake L)) (orc 8 (A1 (fun (x : api_Expr) => .agg (enapi_Expr x)) ca_api_Expr (F_bind_Fold L)) (orc 11 (A1 (fun (x : Int) => I x) ca_api_Expr (F_R09_Check L)) (orc 14 (A1 (fun (x : Int) => I x) ca_api_Expr (F_R09_CheckCode L)) (orc 15 (A2 (fun (x : Int) => I x) ca_api_View ca_api_Expr (F_eval_Expr L)) noC))))))
theorem s5   (L : Nat) : SoundC Tryz.prog (O5 L) := (orc_sound (a1 _ (h6 L)) (orc_sound (a0 _ (h7 L)) (orc_sound (a1 _ (h8 L)) (orc_sound (a1 _ (h11 L)) (orc_sound (a1 _ (h14 L)) (orc_sound (a2 _ (h15 L)) (noC_sound Tryz.prog)))))))
def T_L16_BindValues {A : Type} (an : An A)  (L : Nat) (a0 : api_Expr) (a1 : Int) (out : Bool → A) : A :=
 (an.bd (F_R09_Nodes L (api_Expr.cp a0)) fun r1 =>
 (an.jb (bif (decide (r1 > 200)) then (some true)
 else (Option.bind (F_R09_Check L (api_Expr.cp a0)) fun r3 =>
 (some (r3 != 0)))) (fun j => (an.cn (decide (r1 > 200))
 (an.lf j true)
 (an.bd (F_R09_Check L (api_Expr.cp a0)) fun r4 =>
 (an.lf j (r4 != 0))))) (fun b2 =>
 (an.jb (bif b2 then (some true)
 else (Option.bind (F_R09_CheckCode L (api_Expr.cp a0)) fun r6 =>
 (some (r6 != 0)))) (fun j => (an.cn b2
 (an.lf j true)
 (an.bd (F_R09_CheckCode L (api_Expr.cp a0)) fun r7 =>
 (an.lf j (r7 != 0))))) (fun b5 =>
 (an.cn b5
 (an.bd (F_L16_awake L) fun r8 =>
 (an.lf out r8))
 (an.bd (F_bind_Fold L (api_Expr.cp a0)) fun r9 =>
 (an.bd (F_eval_Expr L (⟨a1, [], [], [], [], []⟩ : api_View) (api_Expr.cp r9)) fun r10 =>
 (an.bd (F_eval_Expr L (⟨a1, [], [], [], [], []⟩ : api_View) (api_Expr.cp a0)) fun r11 =>
 (an.cn (r10 == r11)
 (an.bd (F_L16_awake L) fun r12 =>
 (an.lf out r12))
 (an.lf out false)))))))))))
def F_L16_BindValues  (L : Nat) (a0 : api_Expr) (a1 : Int) : Option Bool := T_L16_BindValues (anO _) L a0 a1 some
theorem e5  (L : Nat) (a0 : api_Expr) (a1 : Int) (kk : PV → Prop) : EW (O5 L) L 9 (RS Tryz.f5) c5 [.agg (enapi_Expr a0), I a1] kk = ob (F_L16_BindValues L a0 a1) (fun (x : Bool) => kk (B x)) := by
  refine Eq.trans (b := T_L16_BindValues anP L a0 a1 (fun (x : Bool) => kk (B x))) (by kernel_rfl) ?_
  generalize (fun (x : Bool) => kk (B x)) = Q
  unfold F_L16_BindValues T_L16_BindValues
  dsimp only [anP, anO]
  try simp only [y1, y2, y3, y4, y5 Q, y6, y7, y8 Q, y9, z1, z2, z3, z4]
theorem h5   (L : Nat) (a0 : api_Expr) (a1 : Int) (r : Bool) (h : F_L16_BindValues L a0 a1 = some r) : Holds Tryz.prog 5 [.agg (enapi_Expr a0), I a1] (B r) :=
  hE grwOK (s5  L) mixed Tryz.func5 (by kernel_rfl : cFn Tryz.prog inl Tryz.f5 = some c5) (er := fun (x : Bool) => B x) (by kernel_rfl) (e5 L a0 a1) h
end Go.Proofs.YtonfmpiikdmndaaGreat.Ev
