import Derived.Test.YtonfmpiikdmndaaGreatFx
import Derived.Test.YtonfmpiikdmndaaGreatFu
namespace Go.Proofs.YtonfmpiikdmndaaGreat.Ev
open Go
set_option maxRecDepth 100000
set_option linter.unusedVariables false
set_option linter.unusedSimpArgs false
set_option linter.unnecessarySimpa false
section
variable {α β σ : Type}
theorem y1 (t x y : Bool) (j : Bool → Prop) : br t (ap j x) (ap j y) = ap j (bif t then x else y) := br_br t x y j
theorem y2 (e : Bool) (J : Bool → Prop) : jn (fun j => ap j e) J = J e := rfl
theorem y3 (k : α → Prop) {t : Option σ} {r : σ → Option α} : jn (fun j => ob t j) (fun o => ob (r o) k) = ob (t.bind r) k := jn_ob k
theorem y4 (p : Prop) : nj p = p := rfl
theorem y5 (k : α → Prop) : False = ob none k := rfl
theorem y6 (k : α → Prop) {t : Bool} {a b : Option α} : br t (ob a k) (ob b k) = ob (bif t then a else b) k := br_ob k
theorem y7 (k : α → Prop) {x : Option β} {g : β → Option α} : ob x (fun r => ob (g r) k) = ob (x.bind g) k := ob_ob k
theorem y8 (k : α → Prop) {p : Prop} [Decidable p] {a : Option α} : gd p (ob a k) = ob (if p then a else none) k := gd_ob k
theorem y9 (k : α → Prop) {r : Option Nat} {a : Nat → Option α} {b : Option α} : fk r (fun i => ob (a i) k) (ob b k) = ob (fko r a b) k := fk_ob k
theorem z1 (k : α → Prop) {n : Nat} {a : Option α} : seln n [ob a k] = ob (selo n [a]) k := sel1_ob k
theorem z2 (k : α → Prop) {n : Nat} {a b : Option α} : seln n [ob a k, ob b k] = ob (selo n [a, b]) k := sel2_ob k
theorem z3 (k : α → Prop) {n : Nat} {a b c : Option α} : seln n [ob a k, ob b k, ob c k] = ob (selo n [a, b, c]) k := sel3_ob k
theorem z4 (k : α → Prop) {n : Nat} {a b c d : Option α} : seln n [ob a k, ob b k, ob c k, ob d k] = ob (selo n [a, b, c, d]) k := sel4_ob k
theorem z5 (k : Bool → Prop) {p : Prop} [Decidable p] {a : Option Bool} : gd p (ob a k) = ob (if p then a else none) k := gd_ob k
theorem z6 {p : Prop} [Decidable p] {x : Option α} {f : α → Option β} : Option.bind (if p then x else none) f = if p then Option.bind x f else none := by by_cases h : p <;> simp [h]
end
theorem mixed : Tryz.prog.follows .mixedOrders = true := by kernel_rfl
def inl : Nat → Bool := fun f => inL f [33, 34, 35, 36, 37, 53, 54, 59, 87, 88, 89, 90, 93, 94, 95, 96, 113, 114, 115, 116, 117, 118, 119, 122, 123, 127, 128, 129, 130, 131, 132, 133, 134, 135, 139, 140, 141, 142, 143, 144, 145, 146, 147, 148, 149, 150, 151, 152, 154, 155, 156, 158, 160, 161, 174, 175, 182, 183, 184, 185, 187, 188, 203, 204, 205, 209, 210, 211, 212, 213, 1103952707648, 1104758014016, 1104758014018, 1107576586304, 1107576586306, 1107973669451, 1102871691524]
def jn4 : Nat → Bool := fun f => inL f [35, 114, 116, 118, 174]
def grow122_ren : Go.Shelf.Ren := ⟨fun | 4 => 122 | n => n, fun | 22 => 34 | 25 => 134 | 3 => 3 | 4 => 4 | 9 => 9 | 20 => 20 | 0 => 0 | n => n, fun | n => n⟩
theorem grow122_n4 : Go.Proofs.Lays8.n4 Tryz.prog grow122_ren := {
  mixed := by kernel_rfl
  f4 := ⟨Tryz.f122.name, by decide, Tryz.func122.trans (congrArg some (by kernel_rfl))⟩
  t0 := Tryz.underlying0
  a0 := Tryz.isAgg0
  z0 := Tryz.sizeOf0
  v0 := Tryz.zeroValue0
  t3 := Tryz.underlying3
  a3 := Tryz.isAgg3
  z3 := Tryz.sizeOf3
  v3 := Tryz.zeroValue3
  t4 := Tryz.underlying4
  a4 := Tryz.isAgg4
  z4 := Tryz.sizeOf4
  v4 := Tryz.zeroValue4
  t9 := Tryz.underlying9
  a9 := Tryz.isAgg9
  z9 := Tryz.sizeOf9
  v9 := Tryz.zeroValue9
  t20 := Tryz.underlying20
  a20 := Tryz.isAgg20
  z20 := Tryz.sizeOf20
  v20 := Tryz.zeroValue20
  t22 := Tryz.underlying34
  a22 := Tryz.isAgg34
  z22 := Tryz.sizeOf34
  v22 := Tryz.zeroValue34 }
theorem grow122 : GrowOK Tryz.prog 122 134 24 := grow_ok2 grow122_n4 rfl rfl (by kernel_rfl) (sz := 2) (by kernel_rfl) (by decide) (fun x h => by injection (h : some (LX.t134 []) = some x) with h; subst h; rfl)
def grw (f : Nat) : Option (Nat × Nat) := match Nat.beq f 122 with
  | true => some (134, 24)
  | false => none
theorem grwOK : SoundG Tryz.prog grw := by
  intro f e b h
  unfold grw at h
  cases h122 : Nat.beq f 122 with
  | true =>
    rw [h122] at h
    have := Nat.eq_of_beq_eq_true h122
    subst this
    injection h with h
    injection h with h1 h2
    subst h1; subst h2
    exact grow122
  | false =>
    rw [h122] at h
    cases h
def EI (O : Oracle) (M d : Nat) : Inl := evI Tryz.prog inl grw jn4 O M d
def EV (O : Oracle) (M d : Nat) : EC → St → (Ex → St → Prop) → Prop := evC Tryz.prog O (evI Tryz.prog inl grw jn4 O M d) M
def EW (O : Oracle) (M d : Nat) : List ResultVar → EC → List PV → (PV → Prop) → Prop := evFn Tryz.prog O (evI Tryz.prog inl grw jn4 O M d) M
def YO (O : Oracle) (M d f : Nat) (a : List PV) (b : List (Nat × List PV)) (k : PV → List (Nat × List PV) → Prop) : Prop := Yo Tryz.prog inl grw O M d f a b k
def RS (f : Func) : List ResultVar := f.results.toList
def EC.put : List Bool → EC → EC → EC
  | [], z, _ => z
  | true :: p, z, .seq a b => .seq (EC.put p z a) b
  | false :: p, z, .seq a b => .seq a (EC.put p z b)
  | true :: p, z, .cond o a b => .cond o (EC.put p z a) b
  | false :: p, z, .cond o a b => .cond o a (EC.put p z b)
  | true :: p, z, .block i b => .block i (EC.put p z b)
  | true :: p, z, .loop k b => .loop k (EC.put p z b)
  | _, _, c => c
def cl3 : Cd (List Int) := ⟨fun x => .lst false (.t3 x), dl3, fun h => LeI.of_le (dl3_le h)⟩
def cl9 : Cd (List ByteArray) := ⟨fun x => .lst false (.t9 x), dl9, fun h => LeI.of_le (dl9_le h)⟩
def cl25 : Cd (List api_Expr) := ⟨fun x => .lst false (.t25 x), dl25, fun h => LeI.of_le (dl25_le h)⟩
def cl134 : Cd (List api_Field) := ⟨fun x => .lst false (.t134 x), dl134, fun h => LeI.of_le (dl134_le h)⟩
def enapi_Expr (x : api_Expr) : List PV := [I x.Op, S x.Name, I x.N, .lst false (.t25 x.Kids)]
def deapi_Expr (r : List PV) : Option api_Expr := match r with
  | [c0, c1, c2, c3] => match dInt .i64 c0, dStr c1, dInt .i64 c2, dl25 c3 with
    | some a0, some a1, some a2, some a3 => some (api_Expr.mk a0 a1 a2 a3)
    | _, _, _, _ => none
  | _ => none
theorem deapi_Expr_le (r : List PV) (x : api_Expr) (h : deapi_Expr r = some x) : RowLe r (enapi_Expr x) := by
  unfold deapi_Expr at h
  split at h
  · split at h
    · rename_i h0 h1 h2 h3
      injection h with h; subst h; exact (.cons (dInt_le h0) (.cons (dStr_le h1) (.cons (dInt_le h2) (.cons (dl25_le h3) RowLe.nil))))
    · cases h
  · cases h
def da_api_Expr : PV → Option api_Expr
  | .agg r => deapi_Expr r
  | _ => none
theorem da_api_Expr_le {p : PV} {x : api_Expr} (h : da_api_Expr p = some x) : LeI p (.agg (enapi_Expr x)) := by
  unfold da_api_Expr at h
  split at h
  · exact .agg (deapi_Expr_le _ _ h)
  · cases h
def ca_api_Expr : Cd api_Expr := ⟨fun x => .agg (enapi_Expr x), da_api_Expr, da_api_Expr_le⟩
def enapi_SiteDecl (x : api_SiteDecl) : List PV := [S x.Name, .lst false (.t85 x.Vars), .lst false (.t159 x.Resources), .lst false (.t164 x.Stores), .lst false (.t168 x.Belts), .lst false (.t9 x.Queues), .lst false (.t9 x.Streams), .lst false (.t9 x.Tallies), .lst false (.t9 x.Levels), .lst false (.t9 x.Counts), .lst false (.t77 x.Routines), .lst false (.t195 x.Starts), .lst false (.t223 x.Laws)]
def deapi_SiteDecl (r : List PV) : Option api_SiteDecl := match r with
  | [c0, c1, c2, c3, c4, c5, c6, c7, c8, c9, c10, c11, c12] => match dStr c0, dl85 c1, dl159 c2, dl164 c3, dl168 c4, dl9 c5, dl9 c6, dl9 c7, dl9 c8, dl9 c9, dl77 c10, dl195 c11, dl223 c12 with
    | some a0, some a1, some a2, some a3, some a4, some a5, some a6, some a7, some a8, some a9, some a10, some a11, some a12 => some (api_SiteDecl.mk a0 a1 a2 a3 a4 a5 a6 a7 a8 a9 a10 a11 a12)
    | _, _, _, _, _, _, _, _, _, _, _, _, _ => none
  | _ => none
theorem deapi_SiteDecl_le (r : List PV) (x : api_SiteDecl) (h : deapi_SiteDecl r = some x) : RowLe r (enapi_SiteDecl x) := by
  unfold deapi_SiteDecl at h
  split at h
  · split at h
    · rename_i h0 h1 h2 h3 h4 h5 h6 h7 h8 h9 h10 h11 h12
      injection h with h; subst h; exact (.cons (dStr_le h0) (.cons (dl85_le h1) (.cons (dl159_le h2) (.cons (dl164_le h3) (.cons (dl168_le h4) (.cons (dl9_le h5) (.cons (dl9_le h6) (.cons (dl9_le h7) (.cons (dl9_le h8) (.cons (dl9_le h9) (.cons (dl77_le h10) (.cons (dl195_le h11) (.cons (dl223_le h12) RowLe.nil)))))))))))))
    · cases h
  · cases h
def da_api_SiteDecl : PV → Option api_SiteDecl
  | .agg r => deapi_SiteDecl r
  | _ => none
theorem da_api_SiteDecl_le {p : PV} {x : api_SiteDecl} (h : da_api_SiteDecl p = some x) : LeI p (.agg (enapi_SiteDecl x)) := by
  unfold da_api_SiteDecl at h
  split at h
  · exact .agg (deapi_SiteDecl_le _ _ h)
  · cases h
def ca_api_SiteDecl : Cd api_SiteDecl := ⟨fun x => .agg (enapi_SiteDecl x), da_api_SiteDecl, da_api_SiteDecl_le⟩
def enapi_Env (x : api_Env) : List PV := [.lst false (.t85 x.Params), .lst false (.t134 x.Locals), S x.Site.Name, .lst false (.t85 x.Site.Vars), .lst false (.t159 x.Site.Resources), .lst false (.t164 x.Site.Stores), .lst false (.t168 x.Site.Belts), .lst false (.t9 x.Site.Queues), .lst false (.t9 x.Site.Streams), .lst false (.t9 x.Site.Tallies), .lst false (.t9 x.Site.Levels), .lst false (.t9 x.Site.Counts), .lst false (.t77 x.Site.Routines), .lst false (.t195 x.Site.Starts), .lst false (.t223 x.Site.Laws)]
def deapi_Env (r : List PV) : Option api_Env := match r with
  | [c0, c1, c2, c3, c4, c5, c6, c7, c8, c9, c10, c11, c12, c13, c14] => match dl85 c0, dl134 c1, dStr c2, dl85 c3, dl159 c4, dl164 c5, dl168 c6, dl9 c7, dl9 c8, dl9 c9, dl9 c10, dl9 c11, dl77 c12, dl195 c13, dl223 c14 with
    | some a0, some a1, some a2, some a3, some a4, some a5, some a6, some a7, some a8, some a9, some a10, some a11, some a12, some a13, some a14 => some (api_Env.mk a0 a1 (api_SiteDecl.mk a2 a3 a4 a5 a6 a7 a8 a9 a10 a11 a12 a13 a14))
    | _, _, _, _, _, _, _, _, _, _, _, _, _, _, _ => none
  | _ => none
theorem deapi_Env_le (r : List PV) (x : api_Env) (h : deapi_Env r = some x) : RowLe r (enapi_Env x) := by
  unfold deapi_Env at h
  split at h
  · split at h
    · rename_i h0 h1 h2 h3 h4 h5 h6 h7 h8 h9 h10 h11 h12 h13 h14
      injection h with h; subst h; exact (.cons (dl85_le h0) (.cons (dl134_le h1) (.cons (dStr_le h2) (.cons (dl85_le h3) (.cons (dl159_le h4) (.cons (dl164_le h5) (.cons (dl168_le h6) (.cons (dl9_le h7) (.cons (dl9_le h8) (.cons (dl9_le h9) (.cons (dl9_le h10) (.cons (dl9_le h11) (.cons (dl77_le h12) (.cons (dl195_le h13) (.cons (dl223_le h14) RowLe.nil)))))))))))))))
    · cases h
  · cases h
def da_api_Env : PV → Option api_Env
  | .agg r => deapi_Env r
  | _ => none
theorem da_api_Env_le {p : PV} {x : api_Env} (h : da_api_Env p = some x) : LeI p (.agg (enapi_Env x)) := by
  unfold da_api_Env at h
  split at h
  · exact .agg (deapi_Env_le _ _ h)
  · cases h
def ca_api_Env : Cd api_Env := ⟨fun x => .agg (enapi_Env x), da_api_Env, da_api_Env_le⟩
def enapi_View (x : api_View) : List PV := [I x.Now, .lst false (.t3 x.Slots), .lst false (.t3 x.Vars), .lst false (.t3 x.Free), .lst false (.t3 x.Size), .lst false (.t3 x.Waiting)]
def deapi_View (r : List PV) : Option api_View := match r with
  | [c0, c1, c2, c3, c4, c5] => match dInt .i64 c0, dl3 c1, dl3 c2, dl3 c3, dl3 c4, dl3 c5 with
    | some a0, some a1, some a2, some a3, some a4, some a5 => some (api_View.mk a0 a1 a2 a3 a4 a5)
    | _, _, _, _, _, _ => none
  | _ => none
theorem deapi_View_le (r : List PV) (x : api_View) (h : deapi_View r = some x) : RowLe r (enapi_View x) := by
  unfold deapi_View at h
  split at h
  · split at h
    · rename_i h0 h1 h2 h3 h4 h5
      injection h with h; subst h; exact (.cons (dInt_le h0) (.cons (dl3_le h1) (.cons (dl3_le h2) (.cons (dl3_le h3) (.cons (dl3_le h4) (.cons (dl3_le h5) RowLe.nil))))))
    · cases h
  · cases h
def da_api_View : PV → Option api_View
  | .agg r => deapi_View r
  | _ => none
theorem da_api_View_le {p : PV} {x : api_View} (h : da_api_View p = some x) : LeI p (.agg (enapi_View x)) := by
  unfold da_api_View at h
  split at h
  · exact .agg (deapi_View_le _ _ h)
  · cases h
def ca_api_View : Cd api_View := ⟨fun x => .agg (enapi_View x), da_api_View, da_api_View_le⟩
def enapi_Routine (x : api_Routine) : List PV := [S x.Name, .lst false (.t134 x.Params), .lst false (.t134 x.Locals), .lst false (.t83 x.Body)]
def enapi_Dist (x : api_Dist) : List PV := [I x.Op, I x.A, I x.B, I x.N, .lst false (.t3 x.Values), .lst false (.t3 x.Weights)]
def enapi_Stmt (x : api_Stmt) : List PV := [I x.Op, S x.Name, S x.Of, I x.E.Op, S x.E.Name, I x.E.N, .lst false (.t25 x.E.Kids), I x.F.Op, S x.F.Name, I x.F.N, .lst false (.t25 x.F.Kids), .lst false (.t25 x.Args), I x.Dist.Op, I x.Dist.A, I x.Dist.B, I x.Dist.N, .lst false (.t3 x.Dist.Values), .lst false (.t3 x.Dist.Weights), B x.Flag, .lst false (.t83 x.Body), .lst false (.t83 x.Else)]
def enapi_Value (x : api_Value) : List PV := [S x.Name, I x.Type_, I x.N]
def enexpr_kind (x : expr_kind) : List PV := [B x.u_code]
def deexpr_kind (r : List PV) : Option expr_kind := match r with
  | [c0] => match dBool c0 with
    | some a0 => some (expr_kind.mk a0)
    | _ => none
  | _ => none
theorem deexpr_kind_le (r : List PV) (x : expr_kind) (h : deexpr_kind r = some x) : RowLe r (enexpr_kind x) := by
  unfold deexpr_kind at h
  split at h
  · split at h
    · rename_i h0
      injection h with h; subst h; exact (.cons (dBool_le h0) RowLe.nil)
    · cases h
  · cases h
def da_expr_kind : PV → Option expr_kind
  | .agg r => deexpr_kind r
  | _ => none
theorem da_expr_kind_le {p : PV} {x : expr_kind} (h : da_expr_kind p = some x) : LeI p (.agg (enexpr_kind x)) := by
  unfold da_expr_kind at h
  split at h
  · exact .agg (deexpr_kind_le _ _ h)
  · cases h
def ca_expr_kind : Cd expr_kind := ⟨fun x => .agg (enexpr_kind x), da_expr_kind, da_expr_kind_le⟩
def enapi_Field (x : api_Field) : List PV := [S x.Name, I x.Type_]
def enapi_Fault (x : api_Fault) : List PV := [S x.Stream, I x.Up.Op, I x.Up.A, I x.Up.B, I x.Up.N, .lst false (.t3 x.Up.Values), .lst false (.t3 x.Up.Weights), I x.Down.Op, I x.Down.A, I x.Down.B, I x.Down.N, .lst false (.t3 x.Down.Values), .lst false (.t3 x.Down.Weights)]
def enapi_ResourceDecl (x : api_ResourceDecl) : List PV := [S x.Name, I x.Units, .lst false (.t216 x.Shift), I x.Cycle, S x.Fault.Stream, I x.Fault.Up.Op, I x.Fault.Up.A, I x.Fault.Up.B, I x.Fault.Up.N, .lst false (.t3 x.Fault.Up.Values), .lst false (.t3 x.Fault.Up.Weights), I x.Fault.Down.Op, I x.Fault.Down.A, I x.Fault.Down.B, I x.Fault.Down.N, .lst false (.t3 x.Fault.Down.Values), .lst false (.t3 x.Fault.Down.Weights)]
def enapi_StoreDecl (x : api_StoreDecl) : List PV := [S x.Name, I x.Room, I x.Policy]
def enapi_BeltDecl (x : api_BeltDecl) : List PV := [S x.Name, I x.Length, I x.Step]
def enapi_Start (x : api_Start) : List PV := [S x.Routine, .lst false (.t3 x.Args), I x.At, I x.Every, I x.Until]
def enapi_Change (x : api_Change) : List PV := [I x.At, I x.Units]
def enapi_Law (x : api_Law) : List PV := [S x.Name, .lst false (.t226 x.Terms), I x.Total]
def enapi_Term (x : api_Term) : List PV := [I x.Coef, S x.What, S x.Name]
end Go.Proofs.YtonfmpiikdmndaaGreat.Ev
