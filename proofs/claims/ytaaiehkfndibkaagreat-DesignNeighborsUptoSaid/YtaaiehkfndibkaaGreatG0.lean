import Derived.Test.YtaaiehkfndibkaaGreatFx
import Derived.Test.YtaaiehkfndibkaaGreatFu
namespace Go.Proofs.YtaaiehkfndibkaaGreat.Ev
open Go
set_option maxRecDepth 100000
set_option linter.unusedVariables false
set_option linter.unusedSimpArgs false
set_option linter.unnecessarySimpa false
section
variable {α β σ : Type}
theorem y1 (t x y : Bool) (j : Bool → Prop) : br t (ap j x) (ap j y) = ap j (bif t then x else y) := br_br t x y j
theorem y2 (e : Bool) (J : Bool → Prop) : jn (fun j => ap j e) J = J e := rfl
theorem y3 (k : α → Prop) {t : Option σ} {r : σ → Option α} : jn (fun j => ob t j) (fun o => ob (r o) k) = ob (t.bind r) k := jn_ob k
theorem y4 (p : Prop) : nj p = p := rfl
theorem y5 (k : α → Prop) : False = ob none k := rfl
theorem y6 (k : α → Prop) {t : Bool} {a b : Option α} : br t (ob a k) (ob b k) = ob (bif t then a else b) k := br_ob k
theorem y7 (k : α → Prop) {x : Option β} {g : β → Option α} : ob x (fun r => ob (g r) k) = ob (x.bind g) k := ob_ob k
theorem y8 (k : α → Prop) {p : Prop} [Decidable p] {a : Option α} : gd p (ob a k) = ob (if p then a else none) k := gd_ob k
theorem y9 (k : α → Prop) {r : Option Nat} {a : Nat → Option α} {b : Option α} : fk r (fun i => ob (a i) k) (ob b k) = ob (fko r a b) k := fk_ob k
theorem z1 (k : α → Prop) {n : Nat} {a : Option α} : seln n [ob a k] = ob (selo n [a]) k := sel1_ob k
theorem z2 (k : α → Prop) {n : Nat} {a b : Option α} : seln n [ob a k, ob b k] = ob (selo n [a, b]) k := sel2_ob k
theorem z3 (k : α → Prop) {n : Nat} {a b c : Option α} : seln n [ob a k, ob b k, ob c k] = ob (selo n [a, b, c]) k := sel3_ob k
theorem z4 (k : α → Prop) {n : Nat} {a b c d : Option α} : seln n [ob a k, ob b k, ob c k, ob d k] = ob (selo n [a, b, c, d]) k := sel4_ob k
theorem z5 (k : Bool → Prop) {p : Prop} [Decidable p] {a : Option Bool} : gd p (ob a k) = ob (if p then a else none) k := gd_ob k
theorem z6 {p : Prop} [Decidable p] {x : Option α} {f : α → Option β} : Option.bind (if p then x else none) f = if p then Option.bind x f else none := by by_cases h : p <;> simp [h]
end
theorem mixed : Tryz.prog.follows .mixedOrders = true := by kernel_rfl
def inl : Nat → Bool := fun f => inL f [37, 38, 39, 40, 49, 51, 52, 53, 54, 59, 71, 72, 75, 76, 77, 78, 96, 97, 98, 99, 100, 101, 102, 103, 104, 108, 109, 110, 111, 112, 113, 114, 115, 116, 117, 118, 119, 120, 121, 123, 124, 125, 127, 129, 130, 156, 157, 158, 159, 161, 162, 189, 190, 191, 192, 193, 194, 213, 214, 215, 219, 220, 228, 232, 233, 234, 235, 236, 237, 2486856, 1622608, 100684093]
def jn4 : Nat → Bool := fun f => inL f [59]
def grow189_ren : Go.Shelf.Ren := ⟨fun | 4 => 189 | n => n, fun | 22 => 70 | 25 => 196 | 3 => 3 | 4 => 4 | 9 => 9 | 20 => 20 | 0 => 0 | n => n, fun | n => n⟩
theorem grow189_n4 : Go.Proofs.Lays8.n4 Tryz.prog grow189_ren := {
  mixed := by kernel_rfl
  f4 := ⟨Tryz.f189.name, by decide, Tryz.func189.trans (congrArg some (by kernel_rfl))⟩
  t0 := Tryz.underlying0
  a0 := Tryz.isAgg0
  z0 := Tryz.sizeOf0
  v0 := Tryz.zeroValue0
  t3 := Tryz.underlying3
  a3 := Tryz.isAgg3
  z3 := Tryz.sizeOf3
  v3 := Tryz.zeroValue3
  t4 := Tryz.underlying4
  a4 := Tryz.isAgg4
  z4 := Tryz.sizeOf4
  v4 := Tryz.zeroValue4
  t9 := Tryz.underlying9
  a9 := Tryz.isAgg9
  z9 := Tryz.sizeOf9
  v9 := Tryz.zeroValue9
  t20 := Tryz.underlying20
  a20 := Tryz.isAgg20
  z20 := Tryz.sizeOf20
  v20 := Tryz.zeroValue20
  t22 := Tryz.underlying70
  a22 := Tryz.isAgg70
  z22 := Tryz.sizeOf70
  v22 := Tryz.zeroValue70 }
theorem grow189 : GrowOK Tryz.prog 189 196 24 := grow_ok2 grow189_n4 rfl rfl (by kernel_rfl) (sz := 2) (by kernel_rfl) (by decide) (fun x h => by injection (h : some (LX.t196 []) = some x) with h; subst h; rfl)
def grw (f : Nat) : Option (Nat × Nat) := match Nat.beq f 189 with
  | true => some (196, 24)
  | false => none
theorem grwOK : SoundG Tryz.prog grw := by
  intro f e b h
  unfold grw at h
  cases h189 : Nat.beq f 189 with
  | true =>
    rw [h189] at h
    have := Nat.eq_of_beq_eq_true h189
    subst this
    injection h with h
    injection h with h1 h2
    subst h1; subst h2
    exact grow189
  | false =>
    rw [h189] at h
    cases h
def EI (O : Oracle) (M d : Nat) : Inl := evI Tryz.prog inl grw jn4 O M d
def EV (O : Oracle) (M d : Nat) : EC → St → (Ex → St → Prop) → Prop := evC Tryz.prog O (evI Tryz.prog inl grw jn4 O M d) M
def EW (O : Oracle) (M d : Nat) : List ResultVar → EC → List PV → (PV → Prop) → Prop := evFn Tryz.prog O (evI Tryz.prog inl grw jn4 O M d) M
def YO (O : Oracle) (M d f : Nat) (a : List PV) (b : List (Nat × List PV)) (k : PV → List (Nat × List PV) → Prop) : Prop := Yo Tryz.prog inl grw O M d f a b k
def RS (f : Func) : List ResultVar := f.results.toList
def EC.put : List Bool → EC → EC → EC
  | [], z, _ => z
  | true :: p, z, .seq a b => .seq (EC.put p z a) b
  | false :: p, z, .seq a b => .seq a (EC.put p z b)
  | true :: p, z, .cond o a b => .cond o (EC.put p z a) b
  | false :: p, z, .cond o a b => .cond o a (EC.put p z b)
  | true :: p, z, .block i b => .block i (EC.put p z b)
  | true :: p, z, .loop k b => .loop k (EC.put p z b)
  | _, _, c => c
def cl3 : Cd (List Int) := ⟨fun x => .lst false (.t3 x), dl3, fun h => LeI.of_le (dl3_le h)⟩
def cl35 : Cd (List (List Int)) := ⟨fun x => .lst false (.t35 x), dl35, fun h => LeI.of_le (dl35_le h)⟩
def cl59 : Cd (List api_Factor) := ⟨fun x => .lst false (.t59 x), dl59, fun h => LeI.of_le (dl59_le h)⟩
def cl76 : Cd (List api_Setting) := ⟨fun x => .lst false (.t76 x), dl76, fun h => LeI.of_le (dl76_le h)⟩
def enapi_Factor (x : api_Factor) : List PV := [S x.Name, .lst false (.t3 x.Levels)]
end Go.Proofs.YtaaiehkfndibkaaGreat.Ev
