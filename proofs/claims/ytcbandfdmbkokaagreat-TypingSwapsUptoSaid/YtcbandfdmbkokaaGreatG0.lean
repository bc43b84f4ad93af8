import Derived.Test.YtcbandfdmbkokaaGreatFx
import Derived.Test.YtcbandfdmbkokaaGreatFu
namespace Go.Proofs.YtcbandfdmbkokaaGreat.Ev
open Go
set_option maxRecDepth 100000
set_option linter.unusedVariables false
set_option linter.unusedSimpArgs false
set_option linter.unnecessarySimpa false
section
variable {α β σ : Type}
theorem y1 (t x y : Bool) (j : Bool → Prop) : br t (ap j x) (ap j y) = ap j (bif t then x else y) := br_br t x y j
theorem y2 (e : Bool) (J : Bool → Prop) : jn (fun j => ap j e) J = J e := rfl
theorem y3 (k : α → Prop) {t : Option σ} {r : σ → Option α} : jn (fun j => ob t j) (fun o => ob (r o) k) = ob (t.bind r) k := jn_ob k
theorem y4 (p : Prop) : nj p = p := rfl
theorem y5 (k : α → Prop) : False = ob none k := rfl
theorem y6 (k : α → Prop) {t : Bool} {a b : Option α} : br t (ob a k) (ob b k) = ob (bif t then a else b) k := br_ob k
theorem y7 (k : α → Prop) {x : Option β} {g : β → Option α} : ob x (fun r => ob (g r) k) = ob (x.bind g) k := ob_ob k
theorem y8 (k : α → Prop) {p : Prop} [Decidable p] {a : Option α} : gd p (ob a k) = ob (if p then a else none) k := gd_ob k
theorem y9 (k : α → Prop) {r : Option Nat} {a : Nat → Option α} {b : Option α} : fk r (fun i => ob (a i) k) (ob b k) = ob (fko r a b) k := fk_ob k
theorem z1 (k : α → Prop) {n : Nat} {a : Option α} : seln n [ob a k] = ob (selo n [a]) k := sel1_ob k
theorem z2 (k : α → Prop) {n : Nat} {a b : Option α} : seln n [ob a k, ob b k] = ob (selo n [a, b]) k := sel2_ob k
theorem z3 (k : α → Prop) {n : Nat} {a b c : Option α} : seln n [ob a k, ob b k, ob c k] = ob (selo n [a, b, c]) k := sel3_ob k
theorem z4 (k : α → Prop) {n : Nat} {a b c d : Option α} : seln n [ob a k, ob b k, ob c k, ob d k] = ob (selo n [a, b, c, d]) k := sel4_ob k
theorem z5 (k : Bool → Prop) {p : Prop} [Decidable p] {a : Option Bool} : gd p (ob a k) = ob (if p then a else none) k := gd_ob k
theorem z6 {p : Prop} [Decidable p] {x : Option α} {f : α → Option β} : Option.bind (if p then x else none) f = if p then Option.bind x f else none := by by_cases h : p <;> simp [h]
end
theorem mixed : Tryz.prog.follows .mixedOrders = true := by kernel_rfl
def inl : Nat → Bool := fun f => inL f [59, 60, 61, 62, 103, 104, 105, 106, 107, 108, 109, 110, 111, 115, 116, 117, 118, 119, 120, 121, 122, 123, 124, 125, 126, 127, 128, 130, 131, 132, 134, 136, 137, 150, 170, 171, 172, 173, 174, 175, 176, 177, 181, 182, 194, 195, 196, 197, 200, 201, 219, 220, 226, 227, 228, 230, 231, 234]
def jn4 : Nat → Bool := fun f => inL f [170, 172, 174, 176, 181]
def grow226_ren : Go.Shelf.Ren := ⟨fun | 4 => 226 | n => n, fun | 22 => 23 | 25 => 68 | 3 => 3 | 4 => 4 | 9 => 9 | 20 => 20 | 0 => 0 | n => n, fun | n => n⟩
theorem grow226_n4 : Go.Proofs.Lays8.n4 Tryz.prog grow226_ren := {
  mixed := by kernel_rfl
  f4 := ⟨Tryz.f226.name, by decide, Tryz.func226.trans (congrArg some (by kernel_rfl))⟩
  t0 := Tryz.underlying0
  a0 := Tryz.isAgg0
  z0 := Tryz.sizeOf0
  v0 := Tryz.zeroValue0
  t3 := Tryz.underlying3
  a3 := Tryz.isAgg3
  z3 := Tryz.sizeOf3
  v3 := Tryz.zeroValue3
  t4 := Tryz.underlying4
  a4 := Tryz.isAgg4
  z4 := Tryz.sizeOf4
  v4 := Tryz.zeroValue4
  t9 := Tryz.underlying9
  a9 := Tryz.isAgg9
  z9 := Tryz.sizeOf9
  v9 := Tryz.zeroValue9
  t20 := Tryz.underlying20
  a20 := Tryz.isAgg20
  z20 := Tryz.sizeOf20
  v20 := Tryz.zeroValue20
  t22 := Tryz.underlying23
  a22 := Tryz.isAgg23
  z22 := Tryz.sizeOf23
  v22 := Tryz.zeroValue23 }
theorem grow226 : GrowOK Tryz.prog 226 68 24 := grow_ok2 grow226_n4 rfl rfl (by kernel_rfl) (sz := 2) (by kernel_rfl) (by decide) (fun x h => by injection (h : some (LX.t68 []) = some x) with h; subst h; rfl)
def grw (f : Nat) : Option (Nat × Nat) := match Nat.beq f 226 with
  | true => some (68, 24)
  | false => none
theorem grwOK : SoundG Tryz.prog grw := by
  intro f e b h
  unfold grw at h
  cases h226 : Nat.beq f 226 with
  | true =>
    rw [h226] at h
    have := Nat.eq_of_beq_eq_true h226
    subst this
    injection h with h
    injection h with h1 h2
    subst h1; subst h2
    exact grow226
  | false =>
    rw [h226] at h
    cases h

def EI (O : Oracle) (M d : Nat) : Inl := evI Tryz.prog inl grw jn4 O M d
def EV (O : Oracle) (M d : Nat) : EC → St → (Ex → St → Prop) → Prop := evC Tryz.prog O (evI Tryz.prog inl grw jn4 O M d) M
def EW (O : Oracle) (M d : Nat) : List ResultVar → EC → List PV → (PV → Prop) → Prop := evFn Tryz.prog O (evI Tryz.prog inl grw jn4 O M d) M
def YO (O : Oracle) (M d f : Nat) (a : List PV) (b : List (Nat × List PV)) (k : PV → List (Nat × List PV) → Prop) : Prop := Yo Tryz.prog inl grw O M d f a b k
def RS (f : Func) : List ResultVar := f.results.toList
def cl3 : Cd (List Int) := ⟨fun x => .lst false (.t3 x), dl3, fun h => LeI.of_le (dl3_le h)⟩
def cl4 : Cd (List Bool) := ⟨fun x => .lst false (.t4 x), dl4, fun h => LeI.of_le (dl4_le h)⟩
def cl9 : Cd (List ByteArray) := ⟨fun x => .lst false (.t9 x), dl9, fun h => LeI.of_le (dl9_le h)⟩
def cl23 : Cd (List (List api_Field)) := ⟨fun x => .lst false (.t23 x), dl23, fun h => LeI.of_le (dl23_le h)⟩
def cl27 : Cd (List (List ByteArray)) := ⟨fun x => .lst false (.t27 x), dl27, fun h => LeI.of_le (dl27_le h)⟩
def cl32 : Cd (List api_SiteDecl) := ⟨fun x => .lst false (.t32 x), dl32, fun h => LeI.of_le (dl32_le h)⟩
def cl38 : Cd (List api_Expr) := ⟨fun x => .lst false (.t38 x), dl38, fun h => LeI.of_le (dl38_le h)⟩
def cl41 : Cd (List Int) := ⟨fun x => .lst false (.t41 x), dl41, fun h => LeI.of_le (dl41_le h)⟩
def cl68 : Cd (List api_Field) := ⟨fun x => .lst false (.t68 x), dl68, fun h => LeI.of_le (dl68_le h)⟩
def cl72 : Cd (List api_Value) := ⟨fun x => .lst false (.t72 x), dl72, fun h => LeI.of_le (dl72_le h)⟩
def cl74 : Cd (List api_Routine) := ⟨fun x => .lst false (.t74 x), dl74, fun h => LeI.of_le (dl74_le h)⟩
def cl82 : Cd (List api_Stmt) := ⟨fun x => .lst false (.t82 x), dl82, fun h => LeI.of_le (dl82_le h)⟩
def cl149 : Cd (List api_ResourceDecl) := ⟨fun x => .lst false (.t149 x), dl149, fun h => LeI.of_le (dl149_le h)⟩
def cl156 : Cd (List api_StoreDecl) := ⟨fun x => .lst false (.t156 x), dl156, fun h => LeI.of_le (dl156_le h)⟩
def cl160 : Cd (List api_BeltDecl) := ⟨fun x => .lst false (.t160 x), dl160, fun h => LeI.of_le (dl160_le h)⟩
def cl166 : Cd (List api_Start) := ⟨fun x => .lst false (.t166 x), dl166, fun h => LeI.of_le (dl166_le h)⟩
def cl172 : Cd (List api_Link) := ⟨fun x => .lst false (.t172 x), dl172, fun h => LeI.of_le (dl172_le h)⟩
def cl173 : Cd (List Arr2_ByteArray) := ⟨fun x => .lst false (.t173 x), dl173, fun h => LeI.of_le (dl173_le h)⟩
def cl184 : Cd (List api_Law) := ⟨fun x => .lst false (.t184 x), dl184, fun h => LeI.of_le (dl184_le h)⟩
def cl188 : Cd (List St_is_name) := ⟨fun x => .lst false (.t188 x), dl188, fun h => LeI.of_le (dl188_le h)⟩
def cl190 : Cd (List St_is_e) := ⟨fun x => .lst false (.t190 x), dl190, fun h => LeI.of_le (dl190_le h)⟩
def cl228 : Cd (List api_Change) := ⟨fun x => .lst false (.t228 x), dl228, fun h => LeI.of_le (dl228_le h)⟩
def cl234 : Cd (List api_Term) := ⟨fun x => .lst false (.t234 x), dl234, fun h => LeI.of_le (dl234_le h)⟩
def enSt_x_y_signed_code (x : St_x_y_signed_code) : List PV := [I x.u_x, I x.u_y, B x.u_signed, V .u8 x.u_code]
def deSt_x_y_signed_code (r : List PV) : Option St_x_y_signed_code := match r with
  | [c0, c1, c2, c3] => match dInt .i64 c0, dInt .i64 c1, dBool c2, dInt .u8 c3 with
    | some a0, some a1, some a2, some a3 => some (St_x_y_signed_code.mk a0 a1 a2 a3)
    | _, _, _, _ => none
  | _ => none
theorem deSt_x_y_signed_code_le (r : List PV) (x : St_x_y_signed_code) (h : deSt_x_y_signed_code r = some x) : RowLe r (enSt_x_y_signed_code x) := by
  unfold deSt_x_y_signed_code at h
  split at h
  · split at h
    · rename_i h0 h1 h2 h3
      injection h with h; subst h; exact (.cons (dInt_le h0) (.cons (dInt_le h1) (.cons (dBool_le h2) (.cons (dInt_le h3) RowLe.nil))))
    · cases h
  · cases h
def da_St_x_y_signed_code : PV → Option St_x_y_signed_code
  | .agg r => deSt_x_y_signed_code r
  | _ => none
theorem da_St_x_y_signed_code_le {p : PV} {x : St_x_y_signed_code} (h : da_St_x_y_signed_code p = some x) : LeI p (.agg (enSt_x_y_signed_code x)) := by
  unfold da_St_x_y_signed_code at h
  split at h
  · exact .agg (deSt_x_y_signed_code_le _ _ h)
  · cases h
def ca_St_x_y_signed_code : Cd St_x_y_signed_code := ⟨fun x => .agg (enSt_x_y_signed_code x), da_St_x_y_signed_code, da_St_x_y_signed_code_le⟩
def dp_St_x_y_signed_code : PV → Option St_x_y_signed_code
  | .ref r => deSt_x_y_signed_code r
  | _ => none
theorem dp_St_x_y_signed_code_le {p : PV} {x : St_x_y_signed_code} (h : dp_St_x_y_signed_code p = some x) : LeI p (.ref (enSt_x_y_signed_code x)) := by
  unfold dp_St_x_y_signed_code at h
  split at h
  · exact .ref (deSt_x_y_signed_code_le _ _ h)
  · cases h
def cp_St_x_y_signed_code : Cd St_x_y_signed_code := ⟨fun x => .ref (enSt_x_y_signed_code x), dp_St_x_y_signed_code, dp_St_x_y_signed_code_le⟩
def enSt_msg_addr (x : St_msg_addr) : List PV := [S x.u_msg, V .u64 x.u_addr]
def deSt_msg_addr (r : List PV) : Option St_msg_addr := match r with
  | [c0, c1] => match dStr c0, dInt .u64 c1 with
    | some a0, some a1 => some (St_msg_addr.mk a0 a1)
    | _, _ => none
  | _ => none
theorem deSt_msg_addr_le (r : List PV) (x : St_msg_addr) (h : deSt_msg_addr r = some x) : RowLe r (enSt_msg_addr x) := by
  unfold deSt_msg_addr at h
  split at h
  · split at h
    · rename_i h0 h1
      injection h with h; subst h; exact (.cons (dStr_le h0) (.cons (dInt_le h1) RowLe.nil))
    · cases h
  · cases h
def da_St_msg_addr : PV → Option St_msg_addr
  | .agg r => deSt_msg_addr r
  | _ => none
theorem da_St_msg_addr_le {p : PV} {x : St_msg_addr} (h : da_St_msg_addr p = some x) : LeI p (.agg (enSt_msg_addr x)) := by
  unfold da_St_msg_addr at h
  split at h
  · exact .agg (deSt_msg_addr_le _ _ h)
  · cases h
def ca_St_msg_addr : Cd St_msg_addr := ⟨fun x => .agg (enSt_msg_addr x), da_St_msg_addr, da_St_msg_addr_le⟩
def dp_St_msg_addr : PV → Option St_msg_addr
  | .ref r => deSt_msg_addr r
  | _ => none
theorem dp_St_msg_addr_le {p : PV} {x : St_msg_addr} (h : dp_St_msg_addr p = some x) : LeI p (.ref (enSt_msg_addr x)) := by
  unfold dp_St_msg_addr at h
  split at h
  · exact .ref (deSt_msg_addr_le _ _ h)
  · cases h
def cp_St_msg_addr : Cd St_msg_addr := ⟨fun x => .ref (enSt_msg_addr x), dp_St_msg_addr, dp_St_msg_addr_le⟩
def enapi_SiteDecl (x : api_SiteDecl) : List PV := [S x.Name, .lst false (.t72 x.Vars), .lst false (.t149 x.Resources), .lst false (.t156 x.Stores), .lst false (.t160 x.Belts), .lst false (.t9 x.Queues), .lst false (.t9 x.Streams), .lst false (.t9 x.Tallies), .lst false (.t9 x.Levels), .lst false (.t9 x.Counts), .lst false (.t74 x.Routines), .lst false (.t166 x.Starts), .lst false (.t184 x.Laws)]
def deapi_SiteDecl (r : List PV) : Option api_SiteDecl := match r with
  | [c0, c1, c2, c3, c4, c5, c6, c7, c8, c9, c10, c11, c12] => match dStr c0, dl72 c1, dl149 c2, dl156 c3, dl160 c4, dl9 c5, dl9 c6, dl9 c7, dl9 c8, dl9 c9, dl74 c10, dl166 c11, dl184 c12 with
    | some a0, some a1, some a2, some a3, some a4, some a5, some a6, some a7, some a8, some a9, some a10, some a11, some a12 => some (api_SiteDecl.mk a0 a1 a2 a3 a4 a5 a6 a7 a8 a9 a10 a11 a12)
    | _, _, _, _, _, _, _, _, _, _, _, _, _ => none
  | _ => none
theorem deapi_SiteDecl_le (r : List PV) (x : api_SiteDecl) (h : deapi_SiteDecl r = some x) : RowLe r (enapi_SiteDecl x) := by
  unfold deapi_SiteDecl at h
  split at h
  · split at h
    · rename_i h0 h1 h2 h3 h4 h5 h6 h7 h8 h9 h10 h11 h12
      injection h with h; subst h; exact (.cons (dStr_le h0) (.cons (dl72_le h1) (.cons (dl149_le h2) (.cons (dl156_le h3) (.cons (dl160_le h4) (.cons (dl9_le h5) (.cons (dl9_le h6) (.cons (dl9_le h7) (.cons (dl9_le h8) (.cons (dl9_le h9) (.cons (dl74_le h10) (.cons (dl166_le h11) (.cons (dl184_le h12) RowLe.nil)))))))))))))
    · cases h
  · cases h
def da_api_SiteDecl : PV → Option api_SiteDecl
  | .agg r => deapi_SiteDecl r
  | _ => none
theorem da_api_SiteDecl_le {p : PV} {x : api_SiteDecl} (h : da_api_SiteDecl p = some x) : LeI p (.agg (enapi_SiteDecl x)) := by
  unfold da_api_SiteDecl at h
  split at h
  · exact .agg (deapi_SiteDecl_le _ _ h)
  · cases h
def ca_api_SiteDecl : Cd api_SiteDecl := ⟨fun x => .agg (enapi_SiteDecl x), da_api_SiteDecl, da_api_SiteDecl_le⟩
def dp_api_SiteDecl : PV → Option api_SiteDecl
  | .ref r => deapi_SiteDecl r
  | _ => none
theorem dp_api_SiteDecl_le {p : PV} {x : api_SiteDecl} (h : dp_api_SiteDecl p = some x) : LeI p (.ref (enapi_SiteDecl x)) := by
  unfold dp_api_SiteDecl at h
  split at h
  · exact .ref (deapi_SiteDecl_le _ _ h)
  · cases h
def cp_api_SiteDecl : Cd api_SiteDecl := ⟨fun x => .ref (enapi_SiteDecl x), dp_api_SiteDecl, dp_api_SiteDecl_le⟩
def enapi_Env (x : api_Env) : List PV := [.lst false (.t72 x.Params), .lst false (.t68 x.Locals), S x.Site.Name, .lst false (.t72 x.Site.Vars), .lst false (.t149 x.Site.Resources), .lst false (.t156 x.Site.Stores), .lst false (.t160 x.Site.Belts), .lst false (.t9 x.Site.Queues), .lst false (.t9 x.Site.Streams), .lst false (.t9 x.Site.Tallies), .lst false (.t9 x.Site.Levels), .lst false (.t9 x.Site.Counts), .lst false (.t74 x.Site.Routines), .lst false (.t166 x.Site.Starts), .lst false (.t184 x.Site.Laws)]
def deapi_Env (r : List PV) : Option api_Env := match r with
  | [c0, c1, c2, c3, c4, c5, c6, c7, c8, c9, c10, c11, c12, c13, c14] => match dl72 c0, dl68 c1, dStr c2, dl72 c3, dl149 c4, dl156 c5, dl160 c6, dl9 c7, dl9 c8, dl9 c9, dl9 c10, dl9 c11, dl74 c12, dl166 c13, dl184 c14 with
    | some a0, some a1, some a2, some a3, some a4, some a5, some a6, some a7, some a8, some a9, some a10, some a11, some a12, some a13, some a14 => some (api_Env.mk a0 a1 (api_SiteDecl.mk a2 a3 a4 a5 a6 a7 a8 a9 a10 a11 a12 a13 a14))
    | _, _, _, _, _, _, _, _, _, _, _, _, _, _, _ => none
  | _ => none
theorem deapi_Env_le (r : List PV) (x : api_Env) (h : deapi_Env r = some x) : RowLe r (enapi_Env x) := by
  unfold deapi_Env at h
  split at h
  · split at h
    · rename_i h0 h1 h2 h3 h4 h5 h6 h7 h8 h9 h10 h11 h12 h13 h14
      injection h with h; subst h; exact (.cons (dl72_le h0) (.cons (dl68_le h1) (.cons (dStr_le h2) (.cons (dl72_le h3) (.cons (dl149_le h4) (.cons (dl156_le h5) (.cons (dl160_le h6) (.cons (dl9_le h7) (.cons (dl9_le h8) (.cons (dl9_le h9) (.cons (dl9_le h10) (.cons (dl9_le h11) (.cons (dl74_le h12) (.cons (dl166_le h13) (.cons (dl184_le h14) RowLe.nil)))))))))))))))
    · cases h
  · cases h
def da_api_Env : PV → Option api_Env
  | .agg r => deapi_Env r
  | _ => none
theorem da_api_Env_le {p : PV} {x : api_Env} (h : da_api_Env p = some x) : LeI p (.agg (enapi_Env x)) := by
  unfold da_api_Env at h
  split at h
  · exact .agg (deapi_Env_le _ _ h)
  · cases h
def ca_api_Env : Cd api_Env := ⟨fun x => .agg (enapi_Env x), da_api_Env, da_api_Env_le⟩
def dp_api_Env : PV → Option api_Env
  | .ref r => deapi_Env r
  | _ => none
theorem dp_api_Env_le {p : PV} {x : api_Env} (h : dp_api_Env p = some x) : LeI p (.ref (enapi_Env x)) := by
  unfold dp_api_Env at h
  split at h
  · exact .ref (deapi_Env_le _ _ h)
  · cases h
def cp_api_Env : Cd api_Env := ⟨fun x => .ref (enapi_Env x), dp_api_Env, dp_api_Env_le⟩
def enapi_Expr (x : api_Expr) : List PV := [I x.Op, S x.Name, I x.N, .lst false (.t38 x.Kids)]
def deapi_Expr (r : List PV) : Option api_Expr := match r with
  | [c0, c1, c2, c3] => match dInt .i64 c0, dStr c1, dInt .i64 c2, dl38 c3 with
    | some a0, some a1, some a2, some a3 => some (api_Expr.mk a0 a1 a2 a3)
    | _, _, _, _ => none
  | _ => none
theorem deapi_Expr_le (r : List PV) (x : api_Expr) (h : deapi_Expr r = some x) : RowLe r (enapi_Expr x) := by
  unfold deapi_Expr at h
  split at h
  · split at h
    · rename_i h0 h1 h2 h3
      injection h with h; subst h; exact (.cons (dInt_le h0) (.cons (dStr_le h1) (.cons (dInt_le h2) (.cons (dl38_le h3) RowLe.nil))))
    · cases h
  · cases h
def da_api_Expr : PV → Option api_Expr
  | .agg r => deapi_Expr r
  | _ => none
theorem da_api_Expr_le {p : PV} {x : api_Expr} (h : da_api_Expr p = some x) : LeI p (.agg (enapi_Expr x)) := by
  unfold da_api_Expr at h
  split at h
  · exact .agg (deapi_Expr_le _ _ h)
  · cases h
def ca_api_Expr : Cd api_Expr := ⟨fun x => .agg (enapi_Expr x), da_api_Expr, da_api_Expr_le⟩
def dp_api_Expr : PV → Option api_Expr
  | .ref r => deapi_Expr r
  | _ => none
theorem dp_api_Expr_le {p : PV} {x : api_Expr} (h : dp_api_Expr p = some x) : LeI p (.ref (enapi_Expr x)) := by
  unfold dp_api_Expr at h
  split at h
  · exact .ref (deapi_Expr_le _ _ h)
  · cases h
def cp_api_Expr : Cd api_Expr := ⟨fun x => .ref (enapi_Expr x), dp_api_Expr, dp_api_Expr_le⟩
def enapi_Model (x : api_Model) : List PV := [S x.Name, .lst false (.t72 x.Params), .lst false (.t32 x.Sites), .lst false (.t172 x.Links)]
def deapi_Model (r : List PV) : Option api_Model := match r with
  | [c0, c1, c2, c3] => match dStr c0, dl72 c1, dl32 c2, dl172 c3 with
    | some a0, some a1, some a2, some a3 => some (api_Model.mk a0 a1 a2 a3)
    | _, _, _, _ => none
  | _ => none
theorem deapi_Model_le (r : List PV) (x : api_Model) (h : deapi_Model r = some x) : RowLe r (enapi_Model x) := by
  unfold deapi_Model at h
  split at h
  · split at h
    · rename_i h0 h1 h2 h3
      injection h with h; subst h; exact (.cons (dStr_le h0) (.cons (dl72_le h1) (.cons (dl32_le h2) (.cons (dl172_le h3) RowLe.nil))))
    · cases h
  · cases h
def da_api_Model : PV → Option api_Model
  | .agg r => deapi_Model r
  | _ => none
theorem da_api_Model_le {p : PV} {x : api_Model} (h : da_api_Model p = some x) : LeI p (.agg (enapi_Model x)) := by
  unfold da_api_Model at h
  split at h
  · exact .agg (deapi_Model_le _ _ h)
  · cases h
def ca_api_Model : Cd api_Model := ⟨fun x => .agg (enapi_Model x), da_api_Model, da_api_Model_le⟩
def dp_api_Model : PV → Option api_Model
  | .ref r => deapi_Model r
  | _ => none
theorem dp_api_Model_le {p : PV} {x : api_Model} (h : dp_api_Model p = some x) : LeI p (.ref (enapi_Model x)) := by
  unfold dp_api_Model at h
  split at h
  · exact .ref (deapi_Model_le _ _ h)
  · cases h
def cp_api_Model : Cd api_Model := ⟨fun x => .ref (enapi_Model x), dp_api_Model, dp_api_Model_le⟩
def enL14_Case (x : L14_Case) : List PV := [S x.M.Name, .lst false (.t72 x.M.Params), .lst false (.t32 x.M.Sites), .lst false (.t172 x.M.Links), I x.Site, .lst false (.t68 x.Locals), .lst false (.t82 x.A), .lst false (.t82 x.B)]
def deL14_Case (r : List PV) : Option L14_Case := match r with
  | [c0, c1, c2, c3, c4, c5, c6, c7] => match dStr c0, dl72 c1, dl32 c2, dl172 c3, dInt .i64 c4, dl68 c5, dl82 c6, dl82 c7 with
    | some a0, some a1, some a2, some a3, some a4, some a5, some a6, some a7 => some (L14_Case.mk (api_Model.mk a0 a1 a2 a3) a4 a5 a6 a7)
    | _, _, _, _, _, _, _, _ => none
  | _ => none
theorem deL14_Case_le (r : List PV) (x : L14_Case) (h : deL14_Case r = some x) : RowLe r (enL14_Case x) := by
  unfold deL14_Case at h
  split at h
  · split at h
    · rename_i h0 h1 h2 h3 h4 h5 h6 h7
      injection h with h; subst h; exact (.cons (dStr_le h0) (.cons (dl72_le h1) (.cons (dl32_le h2) (.cons (dl172_le h3) (.cons (dInt_le h4) (.cons (dl68_le h5) (.cons (dl82_le h6) (.cons (dl82_le h7) RowLe.nil))))))))
    · cases h
  · cases h
def da_L14_Case : PV → Option L14_Case
  | .agg r => deL14_Case r
  | _ => none
theorem da_L14_Case_le {p : PV} {x : L14_Case} (h : da_L14_Case p = some x) : LeI p (.agg (enL14_Case x)) := by
  unfold da_L14_Case at h
  split at h
  · exact .agg (deL14_Case_le _ _ h)
  · cases h
def ca_L14_Case : Cd L14_Case := ⟨fun x => .agg (enL14_Case x), da_L14_Case, da_L14_Case_le⟩
def dp_L14_Case : PV → Option L14_Case
  | .ref r => deL14_Case r
  | _ => none
theorem dp_L14_Case_le {p : PV} {x : L14_Case} (h : dp_L14_Case p = some x) : LeI p (.ref (enL14_Case x)) := by
  unfold dp_L14_Case at h
  split at h
  · exact .ref (deL14_Case_le _ _ h)
  · cases h
def cp_L14_Case : Cd L14_Case := ⟨fun x => .ref (enL14_Case x), dp_L14_Case, dp_L14_Case_le⟩
def enL14_Swap (x : L14_Swap) : List PV := [I x.E.Op, S x.E.Name, I x.E.N, .lst false (.t38 x.E.Kids), I x.By.Op, S x.By.Name, I x.By.N, .lst false (.t38 x.By.Kids), S x.Name]
def deL14_Swap (r : List PV) : Option L14_Swap := match r with
  | [c0, c1, c2, c3, c4, c5, c6, c7, c8] => match dInt .i64 c0, dStr c1, dInt .i64 c2, dl38 c3, dInt .i64 c4, dStr c5, dInt .i64 c6, dl38 c7, dStr c8 with
    | some a0, some a1, some a2, some a3, some a4, some a5, some a6, some a7, some a8 => some (L14_Swap.mk (api_Expr.mk a0 a1 a2 a3) (api_Expr.mk a4 a5 a6 a7) a8)
    | _, _, _, _, _, _, _, _, _ => none
  | _ => none
theorem deL14_Swap_le (r : List PV) (x : L14_Swap) (h : deL14_Swap r = some x) : RowLe r (enL14_Swap x) := by
  unfold deL14_Swap at h
  split at h
  · split at h
    · rename_i h0 h1 h2 h3 h4 h5 h6 h7 h8
      injection h with h; subst h; exact (.cons (dInt_le h0) (.cons (dStr_le h1) (.cons (dInt_le h2) (.cons (dl38_le h3) (.cons (dInt_le h4) (.cons (dStr_le h5) (.cons (dInt_le h6) (.cons (dl38_le h7) (.cons (dStr_le h8) RowLe.nil)))))))))
    · cases h
  · cases h
def da_L14_Swap : PV → Option L14_Swap
  | .agg r => deL14_Swap r
  | _ => none
theorem da_L14_Swap_le {p : PV} {x : L14_Swap} (h : da_L14_Swap p = some x) : LeI p (.agg (enL14_Swap x)) := by
  unfold da_L14_Swap at h
  split at h
  · exact .agg (deL14_Swap_le _ _ h)
  · cases h
def ca_L14_Swap : Cd L14_Swap := ⟨fun x => .agg (enL14_Swap x), da_L14_Swap, da_L14_Swap_le⟩
def dp_L14_Swap : PV → Option L14_Swap
  | .ref r => deL14_Swap r
  | _ => none
theorem dp_L14_Swap_le {p : PV} {x : L14_Swap} (h : dp_L14_Swap p = some x) : LeI p (.ref (enL14_Swap x)) := by
  unfold dp_L14_Swap at h
  split at h
  · exact .ref (deL14_Swap_le _ _ h)
  · cases h
def cp_L14_Swap : Cd L14_Swap := ⟨fun x => .ref (enL14_Swap x), dp_L14_Swap, dp_L14_Swap_le⟩
def enapi_Field (x : api_Field) : List PV := [S x.Name, I x.Type_]
def deapi_Field (r : List PV) : Option api_Field := match r with
  | [c0, c1] => match dStr c0, dInt .i64 c1 with
    | some a0, some a1 => some (api_Field.mk a0 a1)
    | _, _ => none
  | _ => none
theorem deapi_Field_le (r : List PV) (x : api_Field) (h : deapi_Field r = some x) : RowLe r (enapi_Field x) := by
  unfold deapi_Field at h
  split at h
  · split at h
    · rename_i h0 h1
      injection h with h; subst h; exact (.cons (dStr_le h0) (.cons (dInt_le h1) RowLe.nil))
    · cases h
  · cases h
def da_api_Field : PV → Option api_Field
  | .agg r => deapi_Field r
  | _ => none
theorem da_api_Field_le {p : PV} {x : api_Field} (h : da_api_Field p = some x) : LeI p (.agg (enapi_Field x)) := by
  unfold da_api_Field at h
  split at h
  · exact .agg (deapi_Field_le _ _ h)
  · cases h
def ca_api_Field : Cd api_Field := ⟨fun x => .agg (enapi_Field x), da_api_Field, da_api_Field_le⟩
def dp_api_Field : PV → Option api_Field
  | .ref r => deapi_Field r
  | _ => none
theorem dp_api_Field_le {p : PV} {x : api_Field} (h : dp_api_Field p = some x) : LeI p (.ref (enapi_Field x)) := by
  unfold dp_api_Field at h
  split at h
  · exact .ref (deapi_Field_le _ _ h)
  · cases h
def cp_api_Field : Cd api_Field := ⟨fun x => .ref (enapi_Field x), dp_api_Field, dp_api_Field_le⟩
def enapi_Value (x : api_Value) : List PV := [S x.Name, I x.Type_, I x.N]
def deapi_Value (r : List PV) : Option api_Value := match r with
  | [c0, c1, c2] => match dStr c0, dInt .i64 c1, dInt .i64 c2 with
    | some a0, some a1, some a2 => some (api_Value.mk a0 a1 a2)
    | _, _, _ => none
  | _ => none
theorem deapi_Value_le (r : List PV) (x : api_Value) (h : deapi_Value r = some x) : RowLe r (enapi_Value x) := by
  unfold deapi_Value at h
  split at h
  · split at h
    · rename_i h0 h1 h2
      injection h with h; subst h; exact (.cons (dStr_le h0) (.cons (dInt_le h1) (.cons (dInt_le h2) RowLe.nil)))
    · cases h
  · cases h
def da_api_Value : PV → Option api_Value
  | .agg r => deapi_Value r
  | _ => none
theorem da_api_Value_le {p : PV} {x : api_Value} (h : da_api_Value p = some x) : LeI p (.agg (enapi_Value x)) := by
  unfold da_api_Value at h
  split at h
  · exact .agg (deapi_Value_le _ _ h)
  · cases h
def ca_api_Value : Cd api_Value := ⟨fun x => .agg (enapi_Value x), da_api_Value, da_api_Value_le⟩
def dp_api_Value : PV → Option api_Value
  | .ref r => deapi_Value r
  | _ => none
theorem dp_api_Value_le {p : PV} {x : api_Value} (h : dp_api_Value p = some x) : LeI p (.ref (enapi_Value x)) := by
  unfold dp_api_Value at h
  split at h
  · exact .ref (deapi_Value_le _ _ h)
  · cases h
def cp_api_Value : Cd api_Value := ⟨fun x => .ref (enapi_Value x), dp_api_Value, dp_api_Value_le⟩
def enapi_Routine (x : api_Routine) : List PV := [S x.Name, .lst false (.t68 x.Params), .lst false (.t68 x.Locals), .lst false (.t82 x.Body)]
def deapi_Routine (r : List PV) : Option api_Routine := match r with
  | [c0, c1, c2, c3] => match dStr c0, dl68 c1, dl68 c2, dl82 c3 with
    | some a0, some a1, some a2, some a3 => some (api_Routine.mk a0 a1 a2 a3)
    | _, _, _, _ => none
  | _ => none
theorem deapi_Routine_le (r : List PV) (x : api_Routine) (h : deapi_Routine r = some x) : RowLe r (enapi_Routine x) := by
  unfold deapi_Routine at h
  split at h
  · split at h
    · rename_i h0 h1 h2 h3
      injection h with h; subst h; exact (.cons (dStr_le h0) (.cons (dl68_le h1) (.cons (dl68_le h2) (.cons (dl82_le h3) RowLe.nil))))
    · cases h
  · cases h
def da_api_Routine : PV → Option api_Routine
  | .agg r => deapi_Routine r
  | _ => none
theorem da_api_Routine_le {p : PV} {x : api_Routine} (h : da_api_Routine p = some x) : LeI p (.agg (enapi_Routine x)) := by
  unfold da_api_Routine at h
  split at h
  · exact .agg (deapi_Routine_le _ _ h)
  · cases h
def ca_api_Routine : Cd api_Routine := ⟨fun x => .agg (enapi_Routine x), da_api_Routine, da_api_Routine_le⟩
def dp_api_Routine : PV → Option api_Routine
  | .ref r => deapi_Routine r
  | _ => none
theorem dp_api_Routine_le {p : PV} {x : api_Routine} (h : dp_api_Routine p = some x) : LeI p (.ref (enapi_Routine x)) := by
  unfold dp_api_Routine at h
  split at h
  · exact .ref (deapi_Routine_le _ _ h)
  · cases h
def cp_api_Routine : Cd api_Routine := ⟨fun x => .ref (enapi_Routine x), dp_api_Routine, dp_api_Routine_le⟩
def enapi_Dist (x : api_Dist) : List PV := [I x.Op, I x.A, I x.B, I x.N, .lst false (.t3 x.Values), .lst false (.t3 x.Weights)]
def deapi_Dist (r : List PV) : Option api_Dist := match r with
  | [c0, c1, c2, c3, c4, c5] => match dInt .i64 c0, dInt .i64 c1, dInt .i64 c2, dInt .i64 c3, dl3 c4, dl3 c5 with
    | some a0, some a1, some a2, some a3, some a4, some a5 => some (api_Dist.mk a0 a1 a2 a3 a4 a5)
    | _, _, _, _, _, _ => none
  | _ => none
theorem deapi_Dist_le (r : List PV) (x : api_Dist) (h : deapi_Dist r = some x) : RowLe r (enapi_Dist x) := by
  unfold deapi_Dist at h
  split at h
  · split at h
    · rename_i h0 h1 h2 h3 h4 h5
      injection h with h; subst h; exact (.cons (dInt_le h0) (.cons (dInt_le h1) (.cons (dInt_le h2) (.cons (dInt_le h3) (.cons (dl3_le h4) (.cons (dl3_le h5) RowLe.nil))))))
    · cases h
  · cases h
def da_api_Dist : PV → Option api_Dist
  | .agg r => deapi_Dist r
  | _ => none
theorem da_api_Dist_le {p : PV} {x : api_Dist} (h : da_api_Dist p = some x) : LeI p (.agg (enapi_Dist x)) := by
  unfold da_api_Dist at h
  split at h
  · exact .agg (deapi_Dist_le _ _ h)
  · cases h
def ca_api_Dist : Cd api_Dist := ⟨fun x => .agg (enapi_Dist x), da_api_Dist, da_api_Dist_le⟩
def dp_api_Dist : PV → Option api_Dist
  | .ref r => deapi_Dist r
  | _ => none
theorem dp_api_Dist_le {p : PV} {x : api_Dist} (h : dp_api_Dist p = some x) : LeI p (.ref (enapi_Dist x)) := by
  unfold dp_api_Dist at h
  split at h
  · exact .ref (deapi_Dist_le _ _ h)
  · cases h
def cp_api_Dist : Cd api_Dist := ⟨fun x => .ref (enapi_Dist x), dp_api_Dist, dp_api_Dist_le⟩
def enapi_Stmt (x : api_Stmt) : List PV := [I x.Op, S x.Name, S x.Of, I x.E.Op, S x.E.Name, I x.E.N, .lst false (.t38 x.E.Kids), I x.F.Op, S x.F.Name, I x.F.N, .lst false (.t38 x.F.Kids), .lst false (.t38 x.Args), I x.Dist.Op, I x.Dist.A, I x.Dist.B, I x.Dist.N, .lst false (.t3 x.Dist.Values), .lst false (.t3 x.Dist.Weights), B x.Flag, .lst false (.t82 x.Body), .lst false (.t82 x.Else)]
def deapi_Stmt (r : List PV) : Option api_Stmt := match r with
  | [c0, c1, c2, c3, c4, c5, c6, c7, c8, c9, c10, c11, c12, c13, c14, c15, c16, c17, c18, c19, c20] => match dInt .i64 c0, dStr c1, dStr c2, dInt .i64 c3, dStr c4, dInt .i64 c5, dl38 c6, dInt .i64 c7, dStr c8, dInt .i64 c9, dl38 c10, dl38 c11, dInt .i64 c12, dInt .i64 c13, dInt .i64 c14, dInt .i64 c15, dl3 c16, dl3 c17, dBool c18, dl82 c19, dl82 c20 with
    | some a0, some a1, some a2, some a3, some a4, some a5, some a6, some a7, some a8, some a9, some a10, some a11, some a12, some a13, some a14, some a15, some a16, some a17, some a18, some a19, some a20 => some (api_Stmt.mk a0 a1 a2 (api_Expr.mk a3 a4 a5 a6) (api_Expr.mk a7 a8 a9 a10) a11 (api_Dist.mk a12 a13 a14 a15 a16 a17) a18 a19 a20)
    | _, _, _, _, _, _, _, _, _, _, _, _, _, _, _, _, _, _, _, _, _ => none
  | _ => none
theorem deapi_Stmt_le (r : List PV) (x : api_Stmt) (h : deapi_Stmt r = some x) : RowLe r (enapi_Stmt x) := by
  unfold deapi_Stmt at h
  split at h
  · split at h
    · rename_i h0 h1 h2 h3 h4 h5 h6 h7 h8 h9 h10 h11 h12 h13 h14 h15 h16 h17 h18 h19 h20
      injection h with h; subst h; exact (.cons (dInt_le h0) (.cons (dStr_le h1) (.cons (dStr_le h2) (.cons (dInt_le h3) (.cons (dStr_le h4) (.cons (dInt_le h5) (.cons (dl38_le h6) (.cons (dInt_le h7) (.cons (dStr_le h8) (.cons (dInt_le h9) (.cons (dl38_le h10) (.cons (dl38_le h11) (.cons (dInt_le h12) (.cons (dInt_le h13) (.cons (dInt_le h14) (.cons (dInt_le h15) (.cons (dl3_le h16) (.cons (dl3_le h17) (.cons (dBool_le h18) (.cons (dl82_le h19) (.cons (dl82_le h20) RowLe.nil)))))))))))))))))))))
    · cases h
  · cases h
def da_api_Stmt : PV → Option api_Stmt
  | .agg r => deapi_Stmt r
  | _ => none
theorem da_api_Stmt_le {p : PV} {x : api_Stmt} (h : da_api_Stmt p = some x) : LeI p (.agg (enapi_Stmt x)) := by
  unfold da_api_Stmt at h
  split at h
  · exact .agg (deapi_Stmt_le _ _ h)
  · cases h
def ca_api_Stmt : Cd api_Stmt := ⟨fun x => .agg (enapi_Stmt x), da_api_Stmt, da_api_Stmt_le⟩
def dp_api_Stmt : PV → Option api_Stmt
  | .ref r => deapi_Stmt r
  | _ => none
theorem dp_api_Stmt_le {p : PV} {x : api_Stmt} (h : dp_api_Stmt p = some x) : LeI p (.ref (enapi_Stmt x)) := by
  unfold dp_api_Stmt at h
  split at h
  · exact .ref (deapi_Stmt_le _ _ h)
  · cases h
def cp_api_Stmt : Cd api_Stmt := ⟨fun x => .ref (enapi_Stmt x), dp_api_Stmt, dp_api_Stmt_le⟩
def entyping_routine (x : typing_routine) : List PV := [S x.u_m.Name, .lst false (.t72 x.u_m.Params), .lst false (.t32 x.u_m.Sites), .lst false (.t172 x.u_m.Links), I x.u_site, .lst false (.t72 x.u_env.Params), .lst false (.t68 x.u_env.Locals), S x.u_env.Site.Name, .lst false (.t72 x.u_env.Site.Vars), .lst false (.t149 x.u_env.Site.Resources), .lst false (.t156 x.u_env.Site.Stores), .lst false (.t160 x.u_env.Site.Belts), .lst false (.t9 x.u_env.Site.Queues), .lst false (.t9 x.u_env.Site.Streams), .lst false (.t9 x.u_env.Site.Tallies), .lst false (.t9 x.u_env.Site.Levels), .lst false (.t9 x.u_env.Site.Counts), .lst false (.t74 x.u_env.Site.Routines), .lst false (.t166 x.u_env.Site.Starts), .lst false (.t184 x.u_env.Site.Laws)]
def detyping_routine (r : List PV) : Option typing_routine := match r with
  | [c0, c1, c2, c3, c4, c5, c6, c7, c8, c9, c10, c11, c12, c13, c14, c15, c16, c17, c18, c19] => match dStr c0, dl72 c1, dl32 c2, dl172 c3, dInt .i64 c4, dl72 c5, dl68 c6, dStr c7, dl72 c8, dl149 c9, dl156 c10, dl160 c11, dl9 c12, dl9 c13, dl9 c14, dl9 c15, dl9 c16, dl74 c17, dl166 c18, dl184 c19 with
    | some a0, some a1, some a2, some a3, some a4, some a5, some a6, some a7, some a8, some a9, some a10, some a11, some a12, some a13, some a14, some a15, some a16, some a17, some a18, some a19 => some (typing_routine.mk (api_Model.mk a0 a1 a2 a3) a4 (api_Env.mk a5 a6 (api_SiteDecl.mk a7 a8 a9 a10 a11 a12 a13 a14 a15 a16 a17 a18 a19)))
    | _, _, _, _, _, _, _, _, _, _, _, _, _, _, _, _, _, _, _, _ => none
  | _ => none
theorem detyping_routine_le (r : List PV) (x : typing_routine) (h : detyping_routine r = some x) : RowLe r (entyping_routine x) := by
  unfold detyping_routine at h
  split at h
  · split at h
    · rename_i h0 h1 h2 h3 h4 h5 h6 h7 h8 h9 h10 h11 h12 h13 h14 h15 h16 h17 h18 h19
      injection h with h; subst h; exact (.cons (dStr_le h0) (.cons (dl72_le h1) (.cons (dl32_le h2) (.cons (dl172_le h3) (.cons (dInt_le h4) (.cons (dl72_le h5) (.cons (dl68_le h6) (.cons (dStr_le h7) (.cons (dl72_le h8) (.cons (dl149_le h9) (.cons (dl156_le h10) (.cons (dl160_le h11) (.cons (dl9_le h12) (.cons (dl9_le h13) (.cons (dl9_le h14) (.cons (dl9_le h15) (.cons (dl9_le h16) (.cons (dl74_le h17) (.cons (dl166_le h18) (.cons (dl184_le h19) RowLe.nil))))))))))))))))))))
    · cases h
  · cases h
def da_typing_routine : PV → Option typing_routine
  | .agg r => detyping_routine r
  | _ => none
theorem da_typing_routine_le {p : PV} {x : typing_routine} (h : da_typing_routine p = some x) : LeI p (.agg (entyping_routine x)) := by
  unfold da_typing_routine at h
  split at h
  · exact .agg (detyping_routine_le _ _ h)
  · cases h
def ca_typing_routine : Cd typing_routine := ⟨fun x => .agg (entyping_routine x), da_typing_routine, da_typing_routine_le⟩
def dp_typing_routine : PV → Option typing_routine
  | .ref r => detyping_routine r
  | _ => none
theorem dp_typing_routine_le {p : PV} {x : typing_routine} (h : dp_typing_routine p = some x) : LeI p (.ref (entyping_routine x)) := by
  unfold dp_typing_routine at h
  split at h
  · exact .ref (detyping_routine_le _ _ h)
  · cases h
def cp_typing_routine : Cd typing_routine := ⟨fun x => .ref (entyping_routine x), dp_typing_routine, dp_typing_routine_le⟩
def enexpr_kind (x : expr_kind) : List PV := [B x.u_code]
def deexpr_kind (r : List PV) : Option expr_kind := match r with
  | [c0] => match dBool c0 with
    | some a0 => some (expr_kind.mk a0)
    | _ => none
  | _ => none
theorem deexpr_kind_le (r : List PV) (x : expr_kind) (h : deexpr_kind r = some x) : RowLe r (enexpr_kind x) := by
  unfold deexpr_kind at h
  split at h
  · split at h
    · rename_i h0
      injection h with h; subst h; exact (.cons (dBool_le h0) RowLe.nil)
    · cases h
  · cases h
def da_expr_kind : PV → Option expr_kind
  | .agg r => deexpr_kind r
  | _ => none
theorem da_expr_kind_le {p : PV} {x : expr_kind} (h : da_expr_kind p = some x) : LeI p (.agg (enexpr_kind x)) := by
  unfold da_expr_kind at h
  split at h
  · exact .agg (deexpr_kind_le _ _ h)
  · cases h
def ca_expr_kind : Cd expr_kind := ⟨fun x => .agg (enexpr_kind x), da_expr_kind, da_expr_kind_le⟩
def dp_expr_kind : PV → Option expr_kind
  | .ref r => deexpr_kind r
  | _ => none
theorem dp_expr_kind_le {p : PV} {x : expr_kind} (h : dp_expr_kind p = some x) : LeI p (.ref (enexpr_kind x)) := by
  unfold dp_expr_kind at h
  split at h
  · exact .ref (deexpr_kind_le _ _ h)
  · cases h
def cp_expr_kind : Cd expr_kind := ⟨fun x => .ref (enexpr_kind x), dp_expr_kind, dp_expr_kind_le⟩
def enstmt_use (x : stmt_use) : List PV := [B x.u_name, B x.u_of, B x.u_e, B x.u_f, B x.u_args, B x.u_dist, B x.u_flag, B x.u_body, B x.u_other]
def destmt_use (r : List PV) : Option stmt_use := match r with
  | [c0, c1, c2, c3, c4, c5, c6, c7, c8] => match dBool c0, dBool c1, dBool c2, dBool c3, dBool c4, dBool c5, dBool c6, dBool c7, dBool c8 with
    | some a0, some a1, some a2, some a3, some a4, some a5, some a6, some a7, some a8 => some (stmt_use.mk a0 a1 a2 a3 a4 a5 a6 a7 a8)
    | _, _, _, _, _, _, _, _, _ => none
  | _ => none
theorem destmt_use_le (r : List PV) (x : stmt_use) (h : destmt_use r = some x) : RowLe r (enstmt_use x) := by
  unfold destmt_use at h
  split at h
  · split at h
    · rename_i h0 h1 h2 h3 h4 h5 h6 h7 h8
      injection h with h; subst h; exact (.cons (dBool_le h0) (.cons (dBool_le h1) (.cons (dBool_le h2) (.cons (dBool_le h3) (.cons (dBool_le h4) (.cons (dBool_le h5) (.cons (dBool_le h6) (.cons (dBool_le h7) (.cons (dBool_le h8) RowLe.nil)))))))))
    · cases h
  · cases h
def da_stmt_use : PV → Option stmt_use
  | .agg r => destmt_use r
  | _ => none
theorem da_stmt_use_le {p : PV} {x : stmt_use} (h : da_stmt_use p = some x) : LeI p (.agg (enstmt_use x)) := by
  unfold da_stmt_use at h
  split at h
  · exact .agg (destmt_use_le _ _ h)
  · cases h
def ca_stmt_use : Cd stmt_use := ⟨fun x => .agg (enstmt_use x), da_stmt_use, da_stmt_use_le⟩
def dp_stmt_use : PV → Option stmt_use
  | .ref r => destmt_use r
  | _ => none
theorem dp_stmt_use_le {p : PV} {x : stmt_use} (h : dp_stmt_use p = some x) : LeI p (.ref (enstmt_use x)) := by
  unfold dp_stmt_use at h
  split at h
  · exact .ref (destmt_use_le _ _ h)
  · cases h
def cp_stmt_use : Cd stmt_use := ⟨fun x => .ref (enstmt_use x), dp_stmt_use, dp_stmt_use_le⟩
def enapi_Fault (x : api_Fault) : List PV := [S x.Stream, I x.Up.Op, I x.Up.A, I x.Up.B, I x.Up.N, .lst false (.t3 x.Up.Values), .lst false (.t3 x.Up.Weights), I x.Down.Op, I x.Down.A, I x.Down.B, I x.Down.N, .lst false (.t3 x.Down.Values), .lst false (.t3 x.Down.Weights)]
def deapi_Fault (r : List PV) : Option api_Fault := match r with
  | [c0, c1, c2, c3, c4, c5, c6, c7, c8, c9, c10, c11, c12] => match dStr c0, dInt .i64 c1, dInt .i64 c2, dInt .i64 c3, dInt .i64 c4, dl3 c5, dl3 c6, dInt .i64 c7, dInt .i64 c8, dInt .i64 c9, dInt .i64 c10, dl3 c11, dl3 c12 with
    | some a0, some a1, some a2, some a3, some a4, some a5, some a6, some a7, some a8, some a9, some a10, some a11, some a12 => some (api_Fault.mk a0 (api_Dist.mk a1 a2 a3 a4 a5 a6) (api_Dist.mk a7 a8 a9 a10 a11 a12))
    | _, _, _, _, _, _, _, _, _, _, _, _, _ => none
  | _ => none
theorem deapi_Fault_le (r : List PV) (x : api_Fault) (h : deapi_Fault r = some x) : RowLe r (enapi_Fault x) := by
  unfold deapi_Fault at h
  split at h
  · split at h
    · rename_i h0 h1 h2 h3 h4 h5 h6 h7 h8 h9 h10 h11 h12
      injection h with h; subst h; exact (.cons (dStr_le h0) (.cons (dInt_le h1) (.cons (dInt_le h2) (.cons (dInt_le h3) (.cons (dInt_le h4) (.cons (dl3_le h5) (.cons (dl3_le h6) (.cons (dInt_le h7) (.cons (dInt_le h8) (.cons (dInt_le h9) (.cons (dInt_le h10) (.cons (dl3_le h11) (.cons (dl3_le h12) RowLe.nil)))))))))))))
    · cases h
  · cases h
def da_api_Fault : PV → Option api_Fault
  | .agg r => deapi_Fault r
  | _ => none
theorem da_api_Fault_le {p : PV} {x : api_Fault} (h : da_api_Fault p = some x) : LeI p (.agg (enapi_Fault x)) := by
  unfold da_api_Fault at h
  split at h
  · exact .agg (deapi_Fault_le _ _ h)
  · cases h
def ca_api_Fault : Cd api_Fault := ⟨fun x => .agg (enapi_Fault x), da_api_Fault, da_api_Fault_le⟩
def dp_api_Fault : PV → Option api_Fault
  | .ref r => deapi_Fault r
  | _ => none
theorem dp_api_Fault_le {p : PV} {x : api_Fault} (h : dp_api_Fault p = some x) : LeI p (.ref (enapi_Fault x)) := by
  unfold dp_api_Fault at h
  split at h
  · exact .ref (deapi_Fault_le _ _ h)
  · cases h
def cp_api_Fault : Cd api_Fault := ⟨fun x => .ref (enapi_Fault x), dp_api_Fault, dp_api_Fault_le⟩
def enapi_ResourceDecl (x : api_ResourceDecl) : List PV := [S x.Name, I x.Units, .lst false (.t228 x.Shift), I x.Cycle, S x.Fault.Stream, I x.Fault.Up.Op, I x.Fault.Up.A, I x.Fault.Up.B, I x.Fault.Up.N, .lst false (.t3 x.Fault.Up.Values), .lst false (.t3 x.Fault.Up.Weights), I x.Fault.Down.Op, I x.Fault.Down.A, I x.Fault.Down.B, I x.Fault.Down.N, .lst false (.t3 x.Fault.Down.Values), .lst false (.t3 x.Fault.Down.Weights)]
def deapi_ResourceDecl (r : List PV) : Option api_ResourceDecl := match r with
  | [c0, c1, c2, c3, c4, c5, c6, c7, c8, c9, c10, c11, c12, c13, c14, c15, c16] => match dStr c0, dInt .i64 c1, dl228 c2, dInt .i64 c3, dStr c4, dInt .i64 c5, dInt .i64 c6, dInt .i64 c7, dInt .i64 c8, dl3 c9, dl3 c10, dInt .i64 c11, dInt .i64 c12, dInt .i64 c13, dInt .i64 c14, dl3 c15, dl3 c16 with
    | some a0, some a1, some a2, some a3, some a4, some a5, some a6, some a7, some a8, some a9, some a10, some a11, some a12, some a13, some a14, some a15, some a16 => some (api_ResourceDecl.mk a0 a1 a2 a3 (api_Fault.mk a4 (api_Dist.mk a5 a6 a7 a8 a9 a10) (api_Dist.mk a11 a12 a13 a14 a15 a16)))
    | _, _, _, _, _, _, _, _, _, _, _, _, _, _, _, _, _ => none
  | _ => none
theorem deapi_ResourceDecl_le (r : List PV) (x : api_ResourceDecl) (h : deapi_ResourceDecl r = some x) : RowLe r (enapi_ResourceDecl x) := by
  unfold deapi_ResourceDecl at h
  split at h
  · split at h
    · rename_i h0 h1 h2 h3 h4 h5 h6 h7 h8 h9 h10 h11 h12 h13 h14 h15 h16
      injection h with h; subst h; exact (.cons (dStr_le h0) (.cons (dInt_le h1) (.cons (dl228_le h2) (.cons (dInt_le h3) (.cons (dStr_le h4) (.cons (dInt_le h5) (.cons (dInt_le h6) (.cons (dInt_le h7) (.cons (dInt_le h8) (.cons (dl3_le h9) (.cons (dl3_le h10) (.cons (dInt_le h11) (.cons (dInt_le h12) (.cons (dInt_le h13) (.cons (dInt_le h14) (.cons (dl3_le h15) (.cons (dl3_le h16) RowLe.nil)))))))))))))))))
    · cases h
  · cases h
def da_api_ResourceDecl : PV → Option api_ResourceDecl
  | .agg r => deapi_ResourceDecl r
  | _ => none
theorem da_api_ResourceDecl_le {p : PV} {x : api_ResourceDecl} (h : da_api_ResourceDecl p = some x) : LeI p (.agg (enapi_ResourceDecl x)) := by
  unfold da_api_ResourceDecl at h
  split at h
  · exact .agg (deapi_ResourceDecl_le _ _ h)
  · cases h
def ca_api_ResourceDecl : Cd api_ResourceDecl := ⟨fun x => .agg (enapi_ResourceDecl x), da_api_ResourceDecl, da_api_ResourceDecl_le⟩
def dp_api_ResourceDecl : PV → Option api_ResourceDecl
  | .ref r => deapi_ResourceDecl r
  | _ => none
theorem dp_api_ResourceDecl_le {p : PV} {x : api_ResourceDecl} (h : dp_api_ResourceDecl p = some x) : LeI p (.ref (enapi_ResourceDecl x)) := by
  unfold dp_api_ResourceDecl at h
  split at h
  · exact .ref (deapi_ResourceDecl_le _ _ h)
  · cases h
def cp_api_ResourceDecl : Cd api_ResourceDecl := ⟨fun x => .ref (enapi_ResourceDecl x), dp_api_ResourceDecl, dp_api_ResourceDecl_le⟩
def enapi_StoreDecl (x : api_StoreDecl) : List PV := [S x.Name, I x.Room, I x.Policy]
def deapi_StoreDecl (r : List PV) : Option api_StoreDecl := match r with
  | [c0, c1, c2] => match dStr c0, dInt .i64 c1, dInt .i64 c2 with
    | some a0, some a1, some a2 => some (api_StoreDecl.mk a0 a1 a2)
    | _, _, _ => none
  | _ => none
theorem deapi_StoreDecl_le (r : List PV) (x : api_StoreDecl) (h : deapi_StoreDecl r = some x) : RowLe r (enapi_StoreDecl x) := by
  unfold deapi_StoreDecl at h
  split at h
  · split at h
    · rename_i h0 h1 h2
      injection h with h; subst h; exact (.cons (dStr_le h0) (.cons (dInt_le h1) (.cons (dInt_le h2) RowLe.nil)))
    · cases h
  · cases h
def da_api_StoreDecl : PV → Option api_StoreDecl
  | .agg r => deapi_StoreDecl r
  | _ => none
theorem da_api_StoreDecl_le {p : PV} {x : api_StoreDecl} (h : da_api_StoreDecl p = some x) : LeI p (.agg (enapi_StoreDecl x)) := by
  unfold da_api_StoreDecl at h
  split at h
  · exact .agg (deapi_StoreDecl_le _ _ h)
  · cases h
def ca_api_StoreDecl : Cd api_StoreDecl := ⟨fun x => .agg (enapi_StoreDecl x), da_api_StoreDecl, da_api_StoreDecl_le⟩
def dp_api_StoreDecl : PV → Option api_StoreDecl
  | .ref r => deapi_StoreDecl r
  | _ => none
theorem dp_api_StoreDecl_le {p : PV} {x : api_StoreDecl} (h : dp_api_StoreDecl p = some x) : LeI p (.ref (enapi_StoreDecl x)) := by
  unfold dp_api_StoreDecl at h
  split at h
  · exact .ref (deapi_StoreDecl_le _ _ h)
  · cases h
def cp_api_StoreDecl : Cd api_StoreDecl := ⟨fun x => .ref (enapi_StoreDecl x), dp_api_StoreDecl, dp_api_StoreDecl_le⟩
def enapi_BeltDecl (x : api_BeltDecl) : List PV := [S x.Name, I x.Length, I x.Step]
def deapi_BeltDecl (r : List PV) : Option api_BeltDecl := match r with
  | [c0, c1, c2] => match dStr c0, dInt .i64 c1, dInt .i64 c2 with
    | some a0, some a1, some a2 => some (api_BeltDecl.mk a0 a1 a2)
    | _, _, _ => none
  | _ => none
theorem deapi_BeltDecl_le (r : List PV) (x : api_BeltDecl) (h : deapi_BeltDecl r = some x) : RowLe r (enapi_BeltDecl x) := by
  unfold deapi_BeltDecl at h
  split at h
  · split at h
    · rename_i h0 h1 h2
      injection h with h; subst h; exact (.cons (dStr_le h0) (.cons (dInt_le h1) (.cons (dInt_le h2) RowLe.nil)))
    · cases h
  · cases h
def da_api_BeltDecl : PV → Option api_BeltDecl
  | .agg r => deapi_BeltDecl r
  | _ => none
theorem da_api_BeltDecl_le {p : PV} {x : api_BeltDecl} (h : da_api_BeltDecl p = some x) : LeI p (.agg (enapi_BeltDecl x)) := by
  unfold da_api_BeltDecl at h
  split at h
  · exact .agg (deapi_BeltDecl_le _ _ h)
  · cases h
def ca_api_BeltDecl : Cd api_BeltDecl := ⟨fun x => .agg (enapi_BeltDecl x), da_api_BeltDecl, da_api_BeltDecl_le⟩
def dp_api_BeltDecl : PV → Option api_BeltDecl
  | .ref r => deapi_BeltDecl r
  | _ => none
theorem dp_api_BeltDecl_le {p : PV} {x : api_BeltDecl} (h : dp_api_BeltDecl p = some x) : LeI p (.ref (enapi_BeltDecl x)) := by
  unfold dp_api_BeltDecl at h
  split at h
  · exact .ref (deapi_BeltDecl_le _ _ h)
  · cases h
def cp_api_BeltDecl : Cd api_BeltDecl := ⟨fun x => .ref (enapi_BeltDecl x), dp_api_BeltDecl, dp_api_BeltDecl_le⟩
def enapi_Start (x : api_Start) : List PV := [S x.Routine, .lst false (.t3 x.Args), I x.At, I x.Every, I x.Until]
def deapi_Start (r : List PV) : Option api_Start := match r with
  | [c0, c1, c2, c3, c4] => match dStr c0, dl3 c1, dInt .i64 c2, dInt .i64 c3, dInt .i64 c4 with
    | some a0, some a1, some a2, some a3, some a4 => some (api_Start.mk a0 a1 a2 a3 a4)
    | _, _, _, _, _ => none
  | _ => none
theorem deapi_Start_le (r : List PV) (x : api_Start) (h : deapi_Start r = some x) : RowLe r (enapi_Start x) := by
  unfold deapi_Start at h
  split at h
  · split at h
    · rename_i h0 h1 h2 h3 h4
      injection h with h; subst h; exact (.cons (dStr_le h0) (.cons (dl3_le h1) (.cons (dInt_le h2) (.cons (dInt_le h3) (.cons (dInt_le h4) RowLe.nil)))))
    · cases h
  · cases h
def da_api_Start : PV → Option api_Start
  | .agg r => deapi_Start r
  | _ => none
theorem da_api_Start_le {p : PV} {x : api_Start} (h : da_api_Start p = some x) : LeI p (.agg (enapi_Start x)) := by
  unfold da_api_Start at h
  split at h
  · exact .agg (deapi_Start_le _ _ h)
  · cases h
def ca_api_Start : Cd api_Start := ⟨fun x => .agg (enapi_Start x), da_api_Start, da_api_Start_le⟩
def dp_api_Start : PV → Option api_Start
  | .ref r => deapi_Start r
  | _ => none
theorem dp_api_Start_le {p : PV} {x : api_Start} (h : dp_api_Start p = some x) : LeI p (.ref (enapi_Start x)) := by
  unfold dp_api_Start at h
  split at h
  · exact .ref (deapi_Start_le _ _ h)
  · cases h
def cp_api_Start : Cd api_Start := ⟨fun x => .ref (enapi_Start x), dp_api_Start, dp_api_Start_le⟩
def enapi_Link (x : api_Link) : List PV := [S x.From, S x.To, I x.Delay]
def deapi_Link (r : List PV) : Option api_Link := match r with
  | [c0, c1, c2] => match dStr c0, dStr c1, dInt .i64 c2 with
    | some a0, some a1, some a2 => some (api_Link.mk a0 a1 a2)
    | _, _, _ => none
  | _ => none
theorem deapi_Link_le (r : List PV) (x : api_Link) (h : deapi_Link r = some x) : RowLe r (enapi_Link x) := by
  unfold deapi_Link at h
  split at h
  · split at h
    · rename_i h0 h1 h2
      injection h with h; subst h; exact (.cons (dStr_le h0) (.cons (dStr_le h1) (.cons (dInt_le h2) RowLe.nil)))
    · cases h
  · cases h
def da_api_Link : PV → Option api_Link
  | .agg r => deapi_Link r
  | _ => none
theorem da_api_Link_le {p : PV} {x : api_Link} (h : da_api_Link p = some x) : LeI p (.agg (enapi_Link x)) := by
  unfold da_api_Link at h
  split at h
  · exact .agg (deapi_Link_le _ _ h)
  · cases h
def ca_api_Link : Cd api_Link := ⟨fun x => .agg (enapi_Link x), da_api_Link, da_api_Link_le⟩
def dp_api_Link : PV → Option api_Link
  | .ref r => deapi_Link r
  | _ => none
theorem dp_api_Link_le {p : PV} {x : api_Link} (h : dp_api_Link p = some x) : LeI p (.ref (enapi_Link x)) := by
  unfold dp_api_Link at h
  split at h
  · exact .ref (deapi_Link_le _ _ h)
  · cases h
def cp_api_Link : Cd api_Link := ⟨fun x => .ref (enapi_Link x), dp_api_Link, dp_api_Link_le⟩
def enArr2_ByteArray (x : Arr2_ByteArray) : List PV := [S x.a0, S x.a1]
def deArr2_ByteArray (r : List PV) : Option Arr2_ByteArray := match r with
  | [c0, c1] => match dStr c0, dStr c1 with
    | some a0, some a1 => some (Arr2_ByteArray.mk a0 a1)
    | _, _ => none
  | _ => none
theorem deArr2_ByteArray_le (r : List PV) (x : Arr2_ByteArray) (h : deArr2_ByteArray r = some x) : RowLe r (enArr2_ByteArray x) := by
  unfold deArr2_ByteArray at h
  split at h
  · split at h
    · rename_i h0 h1
      injection h with h; subst h; exact (.cons (dStr_le h0) (.cons (dStr_le h1) RowLe.nil))
    · cases h
  · cases h
def da_Arr2_ByteArray : PV → Option Arr2_ByteArray
  | .agg r => deArr2_ByteArray r
  | _ => none
theorem da_Arr2_ByteArray_le {p : PV} {x : Arr2_ByteArray} (h : da_Arr2_ByteArray p = some x) : LeI p (.agg (enArr2_ByteArray x)) := by
  unfold da_Arr2_ByteArray at h
  split at h
  · exact .agg (deArr2_ByteArray_le _ _ h)
  · cases h
def ca_Arr2_ByteArray : Cd Arr2_ByteArray := ⟨fun x => .agg (enArr2_ByteArray x), da_Arr2_ByteArray, da_Arr2_ByteArray_le⟩
def dp_Arr2_ByteArray : PV → Option Arr2_ByteArray
  | .ref r => deArr2_ByteArray r
  | _ => none
theorem dp_Arr2_ByteArray_le {p : PV} {x : Arr2_ByteArray} (h : dp_Arr2_ByteArray p = some x) : LeI p (.ref (enArr2_ByteArray x)) := by
  unfold dp_Arr2_ByteArray at h
  split at h
  · exact .ref (deArr2_ByteArray_le _ _ h)
  · cases h
def cp_Arr2_ByteArray : Cd Arr2_ByteArray := ⟨fun x => .ref (enArr2_ByteArray x), dp_Arr2_ByteArray, dp_Arr2_ByteArray_le⟩
def enapi_Law (x : api_Law) : List PV := [S x.Name, .lst false (.t234 x.Terms), I x.Total]
def deapi_Law (r : List PV) : Option api_Law := match r with
  | [c0, c1, c2] => match dStr c0, dl234 c1, dInt .i64 c2 with
    | some a0, some a1, some a2 => some (api_Law.mk a0 a1 a2)
    | _, _, _ => none
  | _ => none
theorem deapi_Law_le (r : List PV) (x : api_Law) (h : deapi_Law r = some x) : RowLe r (enapi_Law x) := by
  unfold deapi_Law at h
  split at h
  · split at h
    · rename_i h0 h1 h2
      injection h with h; subst h; exact (.cons (dStr_le h0) (.cons (dl234_le h1) (.cons (dInt_le h2) RowLe.nil)))
    · cases h
  · cases h
def da_api_Law : PV → Option api_Law
  | .agg r => deapi_Law r
  | _ => none
theorem da_api_Law_le {p : PV} {x : api_Law} (h : da_api_Law p = some x) : LeI p (.agg (enapi_Law x)) := by
  unfold da_api_Law at h
  split at h
  · exact .agg (deapi_Law_le _ _ h)
  · cases h
def ca_api_Law : Cd api_Law := ⟨fun x => .agg (enapi_Law x), da_api_Law, da_api_Law_le⟩
def dp_api_Law : PV → Option api_Law
  | .ref r => deapi_Law r
  | _ => none
theorem dp_api_Law_le {p : PV} {x : api_Law} (h : dp_api_Law p = some x) : LeI p (.ref (enapi_Law x)) := by
  unfold dp_api_Law at h
  split at h
  · exact .ref (deapi_Law_le _ _ h)
  · cases h
def cp_api_Law : Cd api_Law := ⟨fun x => .ref (enapi_Law x), dp_api_Law, dp_api_Law_le⟩
def enSt_is_name (x : St_is_name) : List PV := [B x.u_is, S x.u_name]
def deSt_is_name (r : List PV) : Option St_is_name := match r with
  | [c0, c1] => match dBool c0, dStr c1 with
    | some a0, some a1 => some (St_is_name.mk a0 a1)
    | _, _ => none
  | _ => none
theorem deSt_is_name_le (r : List PV) (x : St_is_name) (h : deSt_is_name r = some x) : RowLe r (enSt_is_name x) := by
  unfold deSt_is_name at h
  split at h
  · split at h
    · rename_i h0 h1
      injection h with h; subst h; exact (.cons (dBool_le h0) (.cons (dStr_le h1) RowLe.nil))
    · cases h
  · cases h
def da_St_is_name : PV → Option St_is_name
  | .agg r => deSt_is_name r
  | _ => none
theorem da_St_is_name_le {p : PV} {x : St_is_name} (h : da_St_is_name p = some x) : LeI p (.agg (enSt_is_name x)) := by
  unfold da_St_is_name at h
  split at h
  · exact .agg (deSt_is_name_le _ _ h)
  · cases h
def ca_St_is_name : Cd St_is_name := ⟨fun x => .agg (enSt_is_name x), da_St_is_name, da_St_is_name_le⟩
def dp_St_is_name : PV → Option St_is_name
  | .ref r => deSt_is_name r
  | _ => none
theorem dp_St_is_name_le {p : PV} {x : St_is_name} (h : dp_St_is_name p = some x) : LeI p (.ref (enSt_is_name x)) := by
  unfold dp_St_is_name at h
  split at h
  · exact .ref (deSt_is_name_le _ _ h)
  · cases h
def cp_St_is_name : Cd St_is_name := ⟨fun x => .ref (enSt_is_name x), dp_St_is_name, dp_St_is_name_le⟩
def enSt_is_e (x : St_is_e) : List PV := [B x.u_is, I x.u_e.Op, S x.u_e.Name, I x.u_e.N, .lst false (.t38 x.u_e.Kids)]
def deSt_is_e (r : List PV) : Option St_is_e := match r with
  | [c0, c1, c2, c3, c4] => match dBool c0, dInt .i64 c1, dStr c2, dInt .i64 c3, dl38 c4 with
    | some a0, some a1, some a2, some a3, some a4 => some (St_is_e.mk a0 (api_Expr.mk a1 a2 a3 a4))
    | _, _, _, _, _ => none
  | _ => none
theorem deSt_is_e_le (r : List PV) (x : St_is_e) (h : deSt_is_e r = some x) : RowLe r (enSt_is_e x) := by
  unfold deSt_is_e at h
  split at h
  · split at h
    · rename_i h0 h1 h2 h3 h4
      injection h with h; subst h; exact (.cons (dBool_le h0) (.cons (dInt_le h1) (.cons (dStr_le h2) (.cons (dInt_le h3) (.cons (dl38_le h4) RowLe.nil)))))
    · cases h
  · cases h
def da_St_is_e : PV → Option St_is_e
  | .agg r => deSt_is_e r
  | _ => none
theorem da_St_is_e_le {p : PV} {x : St_is_e} (h : da_St_is_e p = some x) : LeI p (.agg (enSt_is_e x)) := by
  unfold da_St_is_e at h
  split at h
  · exact .agg (deSt_is_e_le _ _ h)
  · cases h
def ca_St_is_e : Cd St_is_e := ⟨fun x => .agg (enSt_is_e x), da_St_is_e, da_St_is_e_le⟩
def dp_St_is_e : PV → Option St_is_e
  | .ref r => deSt_is_e r
  | _ => none
theorem dp_St_is_e_le {p : PV} {x : St_is_e} (h : dp_St_is_e p = some x) : LeI p (.ref (enSt_is_e x)) := by
  unfold dp_St_is_e at h
  split at h
  · exact .ref (deSt_is_e_le _ _ h)
  · cases h
def cp_St_is_e : Cd St_is_e := ⟨fun x => .ref (enSt_is_e x), dp_St_is_e, dp_St_is_e_le⟩
def enR10_Form (x : R10_Form) : List PV := [B x.Name, B x.Of, B x.E, B x.F, B x.Args, B x.Dist, B x.Flag, B x.Body, B x.Else]
def deR10_Form (r : List PV) : Option R10_Form := match r with
  | [c0, c1, c2, c3, c4, c5, c6, c7, c8] => match dBool c0, dBool c1, dBool c2, dBool c3, dBool c4, dBool c5, dBool c6, dBool c7, dBool c8 with
    | some a0, some a1, some a2, some a3, some a4, some a5, some a6, some a7, some a8 => some (R10_Form.mk a0 a1 a2 a3 a4 a5 a6 a7 a8)
    | _, _, _, _, _, _, _, _, _ => none
  | _ => none
theorem deR10_Form_le (r : List PV) (x : R10_Form) (h : deR10_Form r = some x) : RowLe r (enR10_Form x) := by
  unfold deR10_Form at h
  split at h
  · split at h
    · rename_i h0 h1 h2 h3 h4 h5 h6 h7 h8
      injection h with h; subst h; exact (.cons (dBool_le h0) (.cons (dBool_le h1) (.cons (dBool_le h2) (.cons (dBool_le h3) (.cons (dBool_le h4) (.cons (dBool_le h5) (.cons (dBool_le h6) (.cons (dBool_le h7) (.cons (dBool_le h8) RowLe.nil)))))))))
    · cases h
  · cases h
def da_R10_Form : PV → Option R10_Form
  | .agg r => deR10_Form r
  | _ => none
theorem da_R10_Form_le {p : PV} {x : R10_Form} (h : da_R10_Form p = some x) : LeI p (.agg (enR10_Form x)) := by
  unfold da_R10_Form at h
  split at h
  · exact .agg (deR10_Form_le _ _ h)
  · cases h
def ca_R10_Form : Cd R10_Form := ⟨fun x => .agg (enR10_Form x), da_R10_Form, da_R10_Form_le⟩
def dp_R10_Form : PV → Option R10_Form
  | .ref r => deR10_Form r
  | _ => none
theorem dp_R10_Form_le {p : PV} {x : R10_Form} (h : dp_R10_Form p = some x) : LeI p (.ref (enR10_Form x)) := by
  unfold dp_R10_Form at h
  split at h
  · exact .ref (deR10_Form_le _ _ h)
  · cases h
def cp_R10_Form : Cd R10_Form := ⟨fun x => .ref (enR10_Form x), dp_R10_Form, dp_R10_Form_le⟩
def enapi_Change (x : api_Change) : List PV := [I x.At, I x.Units]
def deapi_Change (r : List PV) : Option api_Change := match r with
  | [c0, c1] => match dInt .i64 c0, dInt .i64 c1 with
    | some a0, some a1 => some (api_Change.mk a0 a1)
    | _, _ => none
  | _ => none
theorem deapi_Change_le (r : List PV) (x : api_Change) (h : deapi_Change r = some x) : RowLe r (enapi_Change x) := by
  unfold deapi_Change at h
  split at h
  · split at h
    · rename_i h0 h1
      injection h with h; subst h; exact (.cons (dInt_le h0) (.cons (dInt_le h1) RowLe.nil))
    · cases h
  · cases h
def da_api_Change : PV → Option api_Change
  | .agg r => deapi_Change r
  | _ => none
theorem da_api_Change_le {p : PV} {x : api_Change} (h : da_api_Change p = some x) : LeI p (.agg (enapi_Change x)) := by
  unfold da_api_Change at h
  split at h
  · exact .agg (deapi_Change_le _ _ h)
  · cases h
def ca_api_Change : Cd api_Change := ⟨fun x => .agg (enapi_Change x), da_api_Change, da_api_Change_le⟩
def dp_api_Change : PV → Option api_Change
  | .ref r => deapi_Change r
  | _ => none
theorem dp_api_Change_le {p : PV} {x : api_Change} (h : dp_api_Change p = some x) : LeI p (.ref (enapi_Change x)) := by
  unfold dp_api_Change at h
  split at h
  · exact .ref (deapi_Change_le _ _ h)
  · cases h
def cp_api_Change : Cd api_Change := ⟨fun x => .ref (enapi_Change x), dp_api_Change, dp_api_Change_le⟩
def enapi_Term (x : api_Term) : List PV := [I x.Coef, S x.What, S x.Name]
def deapi_Term (r : List PV) : Option api_Term := match r with
  | [c0, c1, c2] => match dInt .i64 c0, dStr c1, dStr c2 with
    | some a0, some a1, some a2 => some (api_Term.mk a0 a1 a2)
    | _, _, _ => none
  | _ => none
theorem deapi_Term_le (r : List PV) (x : api_Term) (h : deapi_Term r = some x) : RowLe r (enapi_Term x) := by
  unfold deapi_Term at h
  split at h
  · split at h
    · rename_i h0 h1 h2
      injection h with h; subst h; exact (.cons (dInt_le h0) (.cons (dStr_le h1) (.cons (dStr_le h2) RowLe.nil)))
    · cases h
  · cases h
def da_api_Term : PV → Option api_Term
  | .agg r => deapi_Term r
  | _ => none
theorem da_api_Term_le {p : PV} {x : api_Term} (h : da_api_Term p = some x) : LeI p (.agg (enapi_Term x)) := by
  unfold da_api_Term at h
  split at h
  · exact .agg (deapi_Term_le _ _ h)
  · cases h
def ca_api_Term : Cd api_Term := ⟨fun x => .agg (enapi_Term x), da_api_Term, da_api_Term_le⟩
def dp_api_Term : PV → Option api_Term
  | .ref r => deapi_Term r
  | _ => none
theorem dp_api_Term_le {p : PV} {x : api_Term} (h : dp_api_Term p = some x) : LeI p (.ref (enapi_Term x)) := by
  unfold dp_api_Term at h
  split at h
  · exact .ref (deapi_Term_le _ _ h)
  · cases h
def cp_api_Term : Cd api_Term := ⟨fun x => .ref (enapi_Term x), dp_api_Term, dp_api_Term_le⟩

end Go.Proofs.YtcbandfdmbkokaaGreat.Ev
