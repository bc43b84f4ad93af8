import Derived.Test.YtpdlcbmnmeihoaaGreatDoorBFW
set_option maxRecDepth 100000
set_option maxHeartbeats 4000000
set_option linter.unusedVariables false
set_option linter.unusedSimpArgs false
set_option linter.unnecessarySimpa false
namespace Go.Proofs.YtpdlcbmnmeihoaaGreatDoor.Ev
open Go An
theorem mixed : Tryz.prog.follows .mixedOrders = true := by kernel_rfl
def inl : Nat → Bool := fun f => inL f [21, 22, 28, 29, 32, 33, 38, 39, 47, 48, 49, 50, 51, 52, 53, 54, 55, 56, 57, 58, 59, 60, 61, 62, 63, 64, 65, 68, 69, 70, 71, 72, 73, 74, 75, 87, 88, 90, 95, 96, 97, 98, 99, 100, 101, 102, 115, 116, 117, 118, 119, 143, 145, 149, 150, 151, 152, 155, 156, 201, 202, 203, 204, 205, 206, 207, 208, 209, 213, 214, 215, 216, 217, 218, 219, 220, 221, 222, 223, 224, 225, 226, 228, 229, 230, 232, 234, 235, 248, 249, 251, 254, 260, 261, 262, 263, 312, 313, 314, 315, 317, 318, 321, 322, 324, 325, 330, 331, 334, 335, 340, 355, 359, 360, 361, 362, 367, 368, 379, 382, 1102733639916, 1102733639919, 1105957421632, 1105957421633, 8796093022229]
def jn4 : Nat → Bool := fun f => inL f []
def grow330_ren : Go.Shelf.Ren := ⟨fun | 4 => 330 | n => n, fun | 22 => 59 | 25 => 190 | 3 => 3 | 4 => 4 | 9 => 9 | 20 => 20 | 0 => 0 | n => n, fun | n => n⟩
theorem grow330_n4 : Go.Proofs.Lays8.n4 Tryz.prog grow330_ren := {
  mixed := by kernel_rfl
  f4 := ⟨Tryz.f330.name, by decide, Tryz.func330.trans (congrArg some (by kernel_rfl))⟩
  t0 := Tryz.underlying0
  a0 := Tryz.isAgg0
  z0 := Tryz.sizeOf0
  v0 := Tryz.zeroValue0
  t3 := Tryz.underlying3
  a3 := Tryz.isAgg3
  z3 := Tryz.sizeOf3
  v3 := Tryz.zeroValue3
  t4 := Tryz.underlying4
  a4 := Tryz.isAgg4
  z4 := Tryz.sizeOf4
  v4 := Tryz.zeroValue4
  t9 := Tryz.underlying9
  a9 := Tryz.isAgg9
  z9 := Tryz.sizeOf9
  v9 := Tryz.zeroValue9
  t20 := Tryz.underlying20
  a20 := Tryz.isAgg20
  z20 := Tryz.sizeOf20
  v20 := Tryz.zeroValue20
  t22 := Tryz.underlying59
  a22 := Tryz.isAgg59
  z22 := Tryz.sizeOf59
  v22 := Tryz.zeroValue59 }
theorem grow330 : GrowOK Tryz.prog 330 190 40 := grow_ok2 grow330_n4 rfl rfl (by kernel_rfl) (sz := 5) (by kernel_rfl) (by decide) (fun x h => by injection (h : some (LX.t190 []) = some x) with h; subst h; rfl)
def grow355_ren : Go.Shelf.Ren := ⟨fun | 4 => 355 | n => n, fun | 22 => 222 | 25 => 344 | 3 => 3 | 4 => 4 | 9 => 9 | 20 => 20 | 0 => 0 | n => n, fun | n => n⟩
theorem grow355_n4 : Go.Proofs.Lays8.n4 Tryz.prog grow355_ren := {
  mixed := by kernel_rfl
  f4 := ⟨Tryz.f355.name, by decide, Tryz.func355.trans (congrArg some (by kernel_rfl))⟩
  t0 := Tryz.underlying0
  a0 := Tryz.isAgg0
  z0 := Tryz.sizeOf0
  v0 := Tryz.zeroValue0
  t3 := Tryz.underlying3
  a3 := Tryz.isAgg3
  z3 := Tryz.sizeOf3
  v3 := Tryz.zeroValue3
  t4 := Tryz.underlying4
  a4 := Tryz.isAgg4
  z4 := Tryz.sizeOf4
  v4 := Tryz.zeroValue4
  t9 := Tryz.underlying9
  a9 := Tryz.isAgg9
  z9 := Tryz.sizeOf9
  v9 := Tryz.zeroValue9
  t20 := Tryz.underlying20
  a20 := Tryz.isAgg20
  z20 := Tryz.sizeOf20
  v20 := Tryz.zeroValue20
  t22 := Tryz.underlying222
  a22 := Tryz.isAgg222
  z22 := Tryz.sizeOf222
  v22 := Tryz.zeroValue222 }
theorem grow355 : GrowOK Tryz.prog 355 344 24 := grow_ok2 grow355_n4 rfl rfl (by kernel_rfl) (sz := 2) (by kernel_rfl) (by decide) (fun x h => by injection (h : some (LX.t344 []) = some x) with h; subst h; rfl)
def grw (f : Nat) : Option (Nat × Nat) := match Nat.beq f 330 with
  | true => some (190, 40)
  | false => match Nat.beq f 355 with
  | true => some (344, 24)
  | false => match Nat.beq f 22 with
  | true => some (0, 3000000)
  | false => match Nat.beq f 87 with
  | true => some (0, 3000000)
  | false => match Nat.beq f 143 with
  | true => some (0, 3000000)
  | false => match Nat.beq f 145 with
  | true => some (0, 3000000)
  | false => match Nat.beq f 29 with
  | true => some (0, 2000000)
  | false => match Nat.beq f 32 with
  | true => some (0, 2000000)
  | false => match Nat.beq f 33 with
  | true => some (0, 2000000)
  | false => match Nat.beq f 38 with
  | true => some (0, 2000000)
  | false => match Nat.beq f 39 with
  | true => some (0, 2000000)
  | false => match Nat.beq f 47 with
  | true => some (0, 2000000)
  | false => match Nat.beq f 49 with
  | true => some (0, 2000000)
  | false => match Nat.beq f 51 with
  | true => some (0, 2000000)
  | false => match Nat.beq f 52 with
  | true => some (0, 2000000)
  | false => match Nat.beq f 54 with
  | true => some (0, 2000000)
  | false => match Nat.beq f 56 with
  | true => some (0, 2000000)
  | false => match Nat.beq f 58 with
  | true => some (0, 2000000)
  | false => match Nat.beq f 61 with
  | true => some (0, 2000000)
  | false => match Nat.beq f 63 with
  | true => some (0, 2000000)
  | false => match Nat.beq f 65 with
  | true => some (0, 2000000)
  | false => match Nat.beq f 68 with
  | true => some (0, 2000000)
  | false => match Nat.beq f 69 with
  | true => some (0, 2000000)
  | false => match Nat.beq f 70 with
  | true => some (0, 2000000)
  | false => match Nat.beq f 71 with
  | true => some (0, 2000000)
  | false => match Nat.beq f 72 with
  | true => some (0, 2000000)
  | false => match Nat.beq f 73 with
  | true => some (0, 2000000)
  | false => match Nat.beq f 74 with
  | true => some (0, 2000000)
  | false => match Nat.beq f 75 with
  | true => some (0, 2000000)
  | false => match Nat.beq f 88 with
  | true => some (0, 2000000)
  | false => match Nat.beq f 90 with
  | true => some (0, 2000000)
  | false => match Nat.beq f 96 with
  | true => some (0, 2000000)
  | false => match Nat.beq f 98 with
  | true => some (0, 2000000)
  | false => match Nat.beq f 100 with
  | true => some (0, 2000000)
  | false => match Nat.beq f 102 with
  | true => some (0, 2000000)
  | false => match Nat.beq f 115 with
  | true => some (0, 2000000)
  | false => match Nat.beq f 116 with
  | true => some (0, 2000000)
  | false => match Nat.beq f 117 with
  | true => some (0, 2000000)
  | false => match Nat.beq f 118 with
  | true => some (0, 2000000)
  | false => match Nat.beq f 119 with
  | true => some (0, 2000000)
  | false => none
theorem grwOK : SoundG Tryz.prog grw := by
  intro f e b h
  unfold grw at h
  cases h330 : Nat.beq f 330 with
  | true =>
    rw [h330] at h
    have := Nat.eq_of_beq_eq_true h330
    subst this
    injection h with h
    injection h with h1 h2
    subst h1; subst h2
    exact ⟨fun h => absurd h (by decide), fun _ _ _ => grow330⟩
  | false =>
    rw [h330] at h
    cases h355 : Nat.beq f 355 with
    | true =>
      rw [h355] at h
      have := Nat.eq_of_beq_eq_true h355
      subst this
      injection h with h
      injection h with h1 h2
      subst h1; subst h2
      exact ⟨fun h => absurd h (by decide), fun _ _ _ => grow355⟩
    | false =>
      rw [h355] at h
      cases h22 : Nat.beq f 22 with
      | true =>
        rw [h22] at h
        injection h with h
        injection h with h1 h2
        subst h1; subst h2
        exact ⟨fun h => absurd h (by decide), fun _ _ h => absurd rfl h⟩
      | false =>
        rw [h22] at h
        cases h87 : Nat.beq f 87 with
        | true =>
          rw [h87] at h
          injection h with h
          injection h with h1 h2
          subst h1; subst h2
          exact ⟨fun h => absurd h (by decide), fun _ _ h => absurd rfl h⟩
        | false =>
          rw [h87] at h
          cases h143 : Nat.beq f 143 with
          | true =>
            rw [h143] at h
            injection h with h
            injection h with h1 h2
            subst h1; subst h2
            exact ⟨fun h => absurd h (by decide), fun _ _ h => absurd rfl h⟩
          | false =>
            rw [h143] at h
            cases h145 : Nat.beq f 145 with
            | true =>
              rw [h145] at h
              injection h with h
              injection h with h1 h2
              subst h1; subst h2
              exact ⟨fun h => absurd h (by decide), fun _ _ h => absurd rfl h⟩
            | false =>
              rw [h145] at h
              cases h29 : Nat.beq f 29 with
              | true =>
                rw [h29] at h
                injection h with h
                injection h with h1 h2
                subst h1; subst h2
                exact ⟨fun h => absurd h (by decide), fun _ h _ => absurd rfl h⟩
              | false =>
                rw [h29] at h
                cases h32 : Nat.beq f 32 with
                | true =>
                  rw [h32] at h
                  injection h with h
                  injection h with h1 h2
                  subst h1; subst h2
                  exact ⟨fun h => absurd h (by decide), fun _ h _ => absurd rfl h⟩
                | false =>
                  rw [h32] at h
                  cases h33 : Nat.beq f 33 with
                  | true =>
                    rw [h33] at h
                    injection h with h
                    injection h with h1 h2
                    subst h1; subst h2
                    exact ⟨fun h => absurd h (by decide), fun _ h _ => absurd rfl h⟩
                  | false =>
                    rw [h33] at h
                    cases h38 : Nat.beq f 38 with
                    | true =>
                      rw [h38] at h
                      injection h with h
                      injection h with h1 h2
                      subst h1; subst h2
                      exact ⟨fun h => absurd h (by decide), fun _ h _ => absurd rfl h⟩
                    | false =>
                      rw [h38] at h
                      cases h39 : Nat.beq f 39 with
                      | true =>
                        rw [h39] at h
                        injection h with h
                        injection h with h1 h2
                        subst h1; subst h2
                        exact ⟨fun h => absurd h (by decide), fun _ h _ => absurd rfl h⟩
                      | false =>
                        rw [h39] at h
                        cases h47 : Nat.beq f 47 with
                        | true =>
                          rw [h47] at h
                          injection h with h
                          injection h with h1 h2
                          subst h1; subst h2
                          exact ⟨fun h => absurd h (by decide), fun _ h _ => absurd rfl h⟩
                        | false =>
                          rw [h47] at h
                          cases h49 : Nat.beq f 49 with
                          | true =>
                            rw [h49] at h
                            injection h with h
                            injection h with h1 h2
                            subst h1; subst h2
                            exact ⟨fun h => absurd h (by decide), fun _ h _ => absurd rfl h⟩
                          | false =>
                            rw [h49] at h
                            cases h51 : Nat.beq f 51 with
                            | true =>
                              rw [h51] at h
                              injection h with h
                              injection h with h1 h2
                              subst h1; subst h2
                              exact ⟨fun h => absurd h (by decide), fun _ h _ => absurd rfl h⟩
                            | false =>
                              rw [h51] at h
                              cases h52 : Nat.beq f 52 with
                              | true =>
                                rw [h52] at h
                                injection h with h
                                injection h with h1 h2
                                subst h1; subst h2
                                exact ⟨fun h => absurd h (by decide), fun _ h _ => absurd rfl h⟩
                              | false =>
                                rw [h52] at h
                                cases h54 : Nat.beq f 54 with
                                | true =>
                                  rw [h54] at h
                                  injection h with h
                                  injection h with h1 h2
                                  subst h1; subst h2
                                  exact ⟨fun h => absurd h (by decide), fun _ h _ => absurd rfl h⟩
                                | false =>
                                  rw [h54] at h
                                  cases h56 : Nat.beq f 56 with
                                  | true =>
                                    rw [h56] at h
                                    injection h with h
                                    injection h with h1 h2
                                    subst h1; subst h2
                                    exact ⟨fun h => absurd h (by decide), fun _ h _ => absurd rfl h⟩
                                  | false =>
                                    rw [h56] at h
                                    cases h58 : Nat.beq f 58 with
                                    | true =>
                                      rw [h58] at h
                                      injection h with h
                                      injection h with h1 h2
                                      subst h1; subst h2
                                      exact ⟨fun h => absurd h (by decide), fun _ h _ => absurd rfl h⟩
                                    | false =>
                                      rw [h58] at h
                                      cases h61 : Nat.beq f 61 with
                                      | true =>
                                        rw [h61] at h
                                        injection h with h
                                        injection h with h1 h2
                                        subst h1; subst h2
                                        exact ⟨fun h => absurd h (by decide), fun _ h _ => absurd rfl h⟩
                                      | false =>
                                        rw [h61] at h
                                        cases h63 : Nat.beq f 63 with
                                        | true =>
                                          rw [h63] at h
                                          injection h with h
                                          injection h with h1 h2
                                          subst h1; subst h2
                                          exact ⟨fun h => absurd h (by decide), fun _ h _ => absurd rfl h⟩
                                        | false =>
                                          rw [h63] at h
                                          cases h65 : Nat.beq f 65 with
                                          | true =>
                                            rw [h65] at h
                                            injection h with h
                                            injection h with h1 h2
                                            subst h1; subst h2
                                            exact ⟨fun h => absurd h (by decide), fun _ h _ => absurd rfl h⟩
                                          | false =>
                                            rw [h65] at h
                                            cases h68 : Nat.beq f 68 with
                                            | true =>
                                              rw [h68] at h
                                              injection h with h
                                              injection h with h1 h2
                                              subst h1; subst h2
                                              exact ⟨fun h => absurd h (by decide), fun _ h _ => absurd rfl h⟩
                                            | false =>
                                              rw [h68] at h
                                              cases h69 : Nat.beq f 69 with
                                              | true =>
                                                rw [h69] at h
                                                injection h with h
                                                injection h with h1 h2
                                                subst h1; subst h2
                                                exact ⟨fun h => absurd h (by decide), fun _ h _ => absurd rfl h⟩
                                              | false =>
                                                rw [h69] at h
                                                cases h70 : Nat.beq f 70 with
                                                | true =>
                                                  rw [h70] at h
                                                  injection h with h
                                                  injection h with h1 h2
                                                  subst h1; subst h2
                                                  exact ⟨fun h => absurd h (by decide), fun _ h _ => absurd rfl h⟩
                                                | false =>
                                                  rw [h70] at h
                                                  cases h71 : Nat.beq f 71 with
                                                  | true =>
                                                    rw [h71] at h
                                                    injection h with h
                                                    injection h with h1 h2
                                                    subst h1; subst h2
                                                    exact ⟨fun h => absurd h (by decide), fun _ h _ => absurd rfl h⟩
                                                  | false =>
                                                    rw [h71] at h
                                                    cases h72 : Nat.beq f 72 with
                                                    | true =>
                                                      rw [h72] at h
                                                      injection h with h
                                                      injection h with h1 h2
                                                      subst h1; subst h2
                                                      exact ⟨fun h => absurd h (by decide), fun _ h _ => absurd rfl h⟩
                                                    | false =>
                                                      rw [h72] at h
                                                      cases h73 : Nat.beq f 73 with
                                                      | true =>
                                                        rw [h73] at h
                                                        injection h with h
                                                        injection h with h1 h2
                                                        subst h1; subst h2
                                                        exact ⟨fun h => absurd h (by decide), fun _ h _ => absurd rfl h⟩
                                                      | false =>
                                                        rw [h73] at h
                                                        cases h74 : Nat.beq f 74 with
                                                        | true =>
                                                          rw [h74] at h
                                                          injection h with h
                                                          injection h with h1 h2
                                                          subst h1; subst h2
                                                          exact ⟨fun h => absurd h (by decide), fun _ h _ => absurd rfl h⟩
                                                        | false =>
                                                          rw [h74] at h
                                                          cases h75 : Nat.beq f 75 with
                                                          | true =>
                                                            rw [h75] at h
                                                            injection h with h
                                                            injection h with h1 h2
                                                            subst h1; subst h2
                                                            exact ⟨fun h => absurd h (by decide), fun _ h _ => absurd rfl h⟩
                                                          | false =>
                                                            rw [h75] at h
                                                            cases h88 : Nat.beq f 88 with
                                                            | true =>
                                                              rw [h88] at h
                                                              injection h with h
                                                              injection h with h1 h2
                                                              subst h1; subst h2
                                                              exact ⟨fun h => absurd h (by decide), fun _ h _ => absurd rfl h⟩
                                                            | false =>
                                                              rw [h88] at h
                                                              cases h90 : Nat.beq f 90 with
                                                              | true =>
                                                                rw [h90] at h
                                                                injection h with h
                                                                injection h with h1 h2
                                                                subst h1; subst h2
                                                                exact ⟨fun h => absurd h (by decide), fun _ h _ => absurd rfl h⟩
                                                              | false =>
                                                                rw [h90] at h
                                                                cases h96 : Nat.beq f 96 with
                                                                | true =>
                                                                  rw [h96] at h
                                                                  injection h with h
                                                                  injection h with h1 h2
                                                                  subst h1; subst h2
                                                                  exact ⟨fun h => absurd h (by decide), fun _ h _ => absurd rfl h⟩
                                                                | false =>
                                                                  rw [h96] at h
                                                                  cases h98 : Nat.beq f 98 with
                                                                  | true =>
                                                                    rw [h98] at h
                                                                    injection h with h
                                                                    injection h with h1 h2
                                                                    subst h1; subst h2
                                                                    exact ⟨fun h => absurd h (by decide), fun _ h _ => absurd rfl h⟩
                                                                  | false =>
                                                                    rw [h98] at h
                                                                    cases h100 : Nat.beq f 100 with
                                                                    | true =>
                                                                      rw [h100] at h
                                                                      injection h with h
                                                                      injection h with h1 h2
                                                                      subst h1; subst h2
                                                                      exact ⟨fun h => absurd h (by decide), fun _ h _ => absurd rfl h⟩
                                                                    | false =>
                                                                      rw [h100] at h
                                                                      cases h102 : Nat.beq f 102 with
                                                                      | true =>
                                                                        rw [h102] at h
                                                                        injection h with h
                                                                        injection h with h1 h2
                                                                        subst h1; subst h2
                                                                        exact ⟨fun h => absurd h (by decide), fun _ h _ => absurd rfl h⟩
                                                                      | false =>
                                                                        rw [h102] at h
                                                                        cases h115 : Nat.beq f 115 with
                                                                        | true =>
                                                                          rw [h115] at h
                                                                          injection h with h
                                                                          injection h with h1 h2
                                                                          subst h1; subst h2
                                                                          exact ⟨fun h => absurd h (by decide), fun _ h _ => absurd rfl h⟩
                                                                        | false =>
                                                                          rw [h115] at h
                                                                          cases h116 : Nat.beq f 116 with
                                                                          | true =>
                                                                            rw [h116] at h
                                                                            injection h with h
                                                                            injection h with h1 h2
                                                                            subst h1; subst h2
                                                                            exact ⟨fun h => absurd h (by decide), fun _ h _ => absurd rfl h⟩
                                                                          | false =>
                                                                            rw [h116] at h
                                                                            cases h117 : Nat.beq f 117 with
                                                                            | true =>
                                                                              rw [h117] at h
                                                                              injection h with h
                                                                              injection h with h1 h2
                                                                              subst h1; subst h2
                                                                              exact ⟨fun h => absurd h (by decide), fun _ h _ => absurd rfl h⟩
                                                                            | false =>
                                                                              rw [h117] at h
                                                                              cases h118 : Nat.beq f 118 with
                                                                              | true =>
                                                                                rw [h118] at h
                                                                                injection h with h
                                                                                injection h with h1 h2
                                                                                subst h1; subst h2
                                                                                exact ⟨fun h => absurd h (by decide), fun _ h _ => absurd rfl h⟩
                                                                              | false =>
                                                                                rw [h118] at h
                                                                                cases h119 : Nat.beq f 119 with
                                                                                | true =>
                                                                                  rw [h119] at h
                                                                                  injection h with h
                                                                                  injection h with h1 h2
                                                                                  subst h1; subst h2
                                                                                  exact ⟨fun h => absurd h (by decide), fun _ h _ => absurd rfl h⟩
                                                                                | false =>
                                                                                  rw [h119] at h
                                                                                  cases h
def EI (O : Oracle) (M d : Nat) : Inl := evI Tryz.prog inl grw jn4 O M d
def EV (O : Oracle) (M d : Nat) : EC → St → (Ex → St → Prop) → Prop := evC Tryz.prog O (evI Tryz.prog inl grw jn4 O M d) M
def EW (O : Oracle) (M d : Nat) : List ResultVar → EC → List PV → (PV → Prop) → Prop := evFn Tryz.prog O (evI Tryz.prog inl grw jn4 O M d) M
def ES (O : Oracle) (M d : Nat) : List ResultVar → EC → List PV → List PV → (PV → Prop) → Prop := evFnS Tryz.prog O (evI Tryz.prog inl grw jn4 O M d) M
abbrev KontV := PV → Prop
abbrev KontX := Ex → St → Prop
abbrev KontP := PV → List (Nat × List PV) → Prop
def EC.u (c : EC) : EC := c.r.r
def EC.w (c : EC) : EC := c.u.u
def EC.x (c : EC) : EC := c.w.w
def rl (l : List Nat) (b : Bool := false) : List Bool := match l with
  | [] => []
  | n :: l => List.replicate n b ++ rl l (!b)
def lv (x : LX) : PV := .lst false x
def RS (f : Func) : List ResultVar := f.results.toList
abbrev EnP := En Tryz.prog
def oL (l : List EnP) : Oracle := orL l
theorem oS (l : List EnP) : SoundC Tryz.prog (oL l) := orL_sound l
noncomputable def CC (f : Func) : EC := (cFn Tryz.prog inl f).getD .stop
theorem hF {f : Nat} {fn : Func} (hf : Tryz.prog.funcs[f]? = some fn) {C : Oracle} (hC : SoundC Tryz.prog C) (L : Nat) {args : List PV} {ρ : Type} {r : ρ} {F : Option ρ} {er : ρ → PV} (he : ∀ kk, EW C L 9 (RS fn) (CC fn) args kk = ob F (fun x => kk (er x))) (h : F = some r)
    (hn : ((cFn Tryz.prog inl fn).isSome && Nat.ble args.length fn.ntmps) = true := by kernel_rfl) : Ho Tryz.prog f args er r := by
  have h1 := (Bool.and_eq_true _ _).mp hn
  have hc : cFn Tryz.prog inl fn = some (CC fn) := by
    unfold CC
    cases e : cFn Tryz.prog inl fn with
    | none => rw [e] at h1; cases h1.1
    | some c => rfl
  exact hE grwOK hC mixed hf hc h1.2 he h
theorem hFS {f : Nat} {fn : Func} (hf : Tryz.prog.funcs[f]? = some fn) {C : Oracle} (hC : SoundC Tryz.prog C) (L : Nat) {cells args : List PV} {ρ : Type} {r : ρ} {F : Option ρ} {er : ρ → PV} (he : ∀ kk, ES C L 9 (RS fn) (CC fn) cells args kk = ob F (fun x => kk (er x))) (h : F = some r)
    (hn : ((cFn Tryz.prog inl fn).isSome && (Nat.ble (args.length + 1) fn.ntmps && callable Tryz.prog f)) = true := by kernel_rfl) : Ho Tryz.prog f (.tup cells :: args) er r := by
  have h1 := (Bool.and_eq_true _ _).mp hn
  have h2 := (Bool.and_eq_true _ _).mp h1.2
  have hc : cFn Tryz.prog inl fn = some (CC fn) := by
    unfold CC
    cases e : cFn Tryz.prog inl fn with
    | none => rw [e] at h1; cases h1.1
    | some c => rfl
  exact hES grwOK hC mixed hf hc h2.1 h2.2 he h
def EO (O : Oracle) (M d : Nat) : List ResultVar → EC → List PV → (PV → Prop) → Prop := evFnO Tryz.prog O (evI Tryz.prog inl grw jn4 O M d) M
theorem hFO {f : Nat} {fn : Func} (hf : Tryz.prog.funcs[f]? = some fn) {C : Oracle} (hC : SoundC Tryz.prog C) (L : Nat) {args : List PV} {ρ : Type} {r : ρ} {F : Option ρ} {er : ρ → PV} (he : ∀ kk, EO C L 9 (RS fn) (CC fn) args kk = ob F (fun x => kk (er x))) (h : F = some r)
    (hn : ((cFn Tryz.prog inl fn).isSome && Nat.ble args.length fn.ntmps) = true := by kernel_rfl) (ha : allP PV.fx1 args = true := by kernel_rfl) : Ho Tryz.prog f (.tup [] :: args) er r := by
  have h1 := (Bool.and_eq_true _ _).mp hn
  have hc : cFn Tryz.prog inl fn = some (CC fn) := by
    unfold CC
    cases e : cFn Tryz.prog inl fn with
    | none => rw [e] at h1; cases h1.1
    | some c => rfl
  exact hEO grwOK hC mixed hf hc h1.2 ha he h
def KE (f : Func) (k : KontV) : KontX := kEnd Tryz.prog (RS f) k
def KJ (f : Func) (k : KontP) : KontX := kEndI Tryz.prog (RS f) k
def KA (O : Oracle) (M d : Nat) (c : EC) (l : List Bool) (k : KontX) : KontX := kAt Tryz.prog O (EI O M d) M c l k
def KCS (O : Oracle) (M d n m : Nat) (c : EC) (st : St) (s : Option Nat) (k : St → Prop) : KontP := kCallS Tryz.prog O (EI O M d) n (List.drop m c.ops) st s k
def EC.put : List Bool → EC → EC → EC
  | [], z, _ => z
  | true :: p, z, .seq a b => .seq (EC.put p z a) b
  | false :: p, z, .seq a b => .seq a (EC.put p z b)
  | true :: p, z, .cond o a b => .cond o (EC.put p z a) b
  | false :: p, z, .cond o a b => .cond o a (EC.put p z b)
  | true :: p, z, .block i b => .block i (EC.put p z b)
  | true :: p, z, .loop k b => .loop k (EC.put p z b)
  | _, _, c => c
abbrev Tu1 := List Int × Int
abbrev Tu2 := Int × List Int
abbrev Tu3 := Bool × Int
abbrev Tu4 := Unit × checkpoint_writer
def cl3 : Cd (List Int) := (oW LX.t3).cd
def cl5 : Cd (List Int) := (oW LX.t5).cd
def cl190 : Cd (List api_Claim) := (oW LX.t190).cd
def ca_api_World : Cd api_World := rd_api_World.ca
def ca_api_State : Cd api_State := rd_api_State.ca
def ca_api_Program : Cd api_Program := rd_api_Program.ca
def ca_api_Code : Cd api_Code := rd_api_Code.ca
def ct_checkpoint_reader : Cd checkpoint_reader := rd_checkpoint_reader.ct
def ct_checkpoint_writer : Cd checkpoint_writer := ⟨fun x => .tup [.lst true (.t5 x.u_b)], fun p => match p with | .tup [.lst true (.t5 y0)] => some ⟨y0⟩ | .tup [.val (.slice none 0 0)] => some ⟨[]⟩ | _ => none, fun h => (by split at h <;> cases h <;> first | exact fun _ _ _ _ _ hv => hv | exact .tup (.cons (.nil true (.t5 []) rfl) .nil)), fun h => (by split at h <;> cases h <;> first | exact .inl rfl | exact .inr (.inr ⟨_, _, rfl, rfl, .cons (.nil true (.t5 []) rfl) .nil, rfl, fun i q v h1 h2 h3 => (by cases i with | zero => (cases h1; cases h2; exact ⟨rfl, rfl⟩) | succ i => simp at h1)⟩))⟩
def ca_api_Expr : Cd api_Expr := rd_api_Expr.ca
end Go.Proofs.YtpdlcbmnmeihoaaGreatDoor.Ev
