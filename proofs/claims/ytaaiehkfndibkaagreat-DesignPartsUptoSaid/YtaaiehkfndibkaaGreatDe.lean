/-  Chapter 51, plainly: the statements on points and their numbers. -/
import Derived.Test.YtaaiehkfndibkaaGreatQ1
import Derived.Test.YtaaiehkfndibkaaGreatQ2
import Derived.Test.YtaaiehkfndibkaaGreatDd
import Derived.Test.YtaaiehkfndibkaaGreatR0
import Derived.Test.YtaaiehkfndibkaaGreatR1
namespace Go.Proofs.YtaaiehkfndibkaaGreat.Ev
open Go
set_option maxRecDepth 100000
set_option linter.unusedVariables false
set_option linter.unusedSimpArgs false
set_option linter.unnecessarySimpa false
theorem awake51 (L : Nat) : F_L51_awake L = some true := rfl
theorem xlen {x : List Int} (h : decide ((x.length : Int) > 100) = false) : x.length ≤ 100 := by have := of_decide_eq_false h; omega
theorem toI_getD (a : List Nat) (k : Nat) (h : k < a.length) : (toI a).getD k default = ((a.getD k 0 : Nat) : Int) := by
  rw [getD_eq _ k (by simpa [toI] using h)]
  simp [toI, List.getD, h]
end Go.Proofs.YtaaiehkfndibkaaGreat.Ev
