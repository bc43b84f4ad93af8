/-
  No cell of these rows narrows 'for every input' (looked for: loops, veiled, ifaces, maps, wideKeys, modest, calm, conditions, laid).
  DERIVED. THE GIVEN ROWS OF THIS SEAT. 5 by the template 'for every input the law returns true; each argument reads behind the call as it read before'; 0 by the template 'total and deterministic' (their statements: YtflfeikkcpcdiaaTotals.lean).
  GIVEN WITH THE SEED: the statements are not yours to turn. If you find one false, say at which input.
  Laid BY PROGRAM, IN A SANDBOX (cutbox-rows.mjs): the forced cells as the released guide's own fill.sh prints them over the translation 11085e6ec1daa5be… (all of the seat's roots in one cut). By AI agents, Wed Nov 11 2026. No macro, syntax, notation, axiom, sorry.
-/
import Derived.Test.YtflfeikkcpcdiaaChecked
import GoSem.Claim
import GoSem.ClaimJoined
import GoSem.ClaimMapViews
import Derived.JoinedTies
import Derived.KernelRfl
namespace Go.Proofs.Ytflfeikkcpcdiaa
/- THE CELL 'sum', in the pinned program and in every row, IS THE sha256 OF THE DUMP (.gsa) THAT YtflfeikkcpcdiaaProg.lean LOADS. Nothing in Lean hashes anything: it is a label: what it is worth is what the hold of that sum in a sandbox is worth. -/
noncomputable def Try.pinned : Pinned := { name := "ytflfeikkcpcdiaa", sum := "11085e6ec1daa5be230d76df622d2d11f2bb69d5b310c2a5b4508a3a178f48ec", checked := Try.checked }
namespace Rows
def none {H : Type} : Left H := { results := [], args := [] }

/-- 'simulatorlaw28.LevelAreas': WHATEVER THE INPUT: true; the input reads as it did. -/
def levelAreasSpec : ChangeSpec := { name := "levelAreas", fn := fun _ => fun
  | [d1, d2, d3] => { results := [.lit (.bool true)], args := [d1, d2, d3] }
  | _ => none }
def levelAreasRow : OpenClaim := { program := "ytflfeikkcpcdiaa", sum := "11085e6ec1daa5be230d76df622d2d11f2bb69d5b310c2a5b4508a3a178f48ec", func := "simulator/simulatorlaw28.LevelAreas", spec := "levelAreas", apart := false }
def LevelAreasSaid : Prop := levelAreasRow.holds Try.pinned (OpenSpec.ofChange levelAreasSpec)

/-- ITS FALSE NEIGHBOUR: 'it returns false'. Refute it at one input. -/
def levelAreasWrong : ChangeSpec := { name := "levelAreas", fn := fun _ => fun
  | [d1, d2, d3] => { results := [.lit (.bool false)], args := [d1, d2, d3] }
  | _ => none }
def LevelAreasWrongFalsely : Prop := levelAreasRow.holds Try.pinned (OpenSpec.ofChange levelAreasWrong)

/-- 'simulatorlaw28.LevelStays': WHATEVER THE INPUT: true; the input reads as it did. -/
def levelStaysSpec : ChangeSpec := { name := "levelStays", fn := fun _ => fun
  | [d1, d2, d3] => { results := [.lit (.bool true)], args := [d1, d2, d3] }
  | _ => none }
def levelStaysRow : OpenClaim := { program := "ytflfeikkcpcdiaa", sum := "11085e6ec1daa5be230d76df622d2d11f2bb69d5b310c2a5b4508a3a178f48ec", func := "simulator/simulatorlaw28.LevelStays", spec := "levelStays", apart := false }
def LevelStaysSaid : Prop := levelStaysRow.holds Try.pinned (OpenSpec.ofChange levelStaysSpec)

/-- ITS FALSE NEIGHBOUR: 'it returns false'. Refute it at one input. -/
def levelStaysWrong : ChangeSpec := { name := "levelStays", fn := fun _ => fun
  | [d1, d2, d3] => { results := [.lit (.bool false)], args := [d1, d2, d3] }
  | _ => none }
def LevelStaysWrongFalsely : Prop := levelStaysRow.holds Try.pinned (OpenSpec.ofChange levelStaysWrong)

/-- 'simulatorlaw28.LevelExact': WHATEVER THE INPUT: true; the input reads as it did. -/
def levelExactSpec : ChangeSpec := { name := "levelExact", fn := fun _ => fun
  | [d1, d2, d3] => { results := [.lit (.bool true)], args := [d1, d2, d3] }
  | _ => none }
def levelExactRow : OpenClaim := { program := "ytflfeikkcpcdiaa", sum := "11085e6ec1daa5be230d76df622d2d11f2bb69d5b310c2a5b4508a3a178f48ec", func := "simulator/simulatorlaw28.LevelExact", spec := "levelExact", apart := false }
def LevelExactSaid : Prop := levelExactRow.holds Try.pinned (OpenSpec.ofChange levelExactSpec)

/-- ITS FALSE NEIGHBOUR: 'it returns false'. Refute it at one input. -/
def levelExactWrong : ChangeSpec := { name := "levelExact", fn := fun _ => fun
  | [d1, d2, d3] => { results := [.lit (.bool false)], args := [d1, d2, d3] }
  | _ => none }
def LevelExactWrongFalsely : Prop := levelExactRow.holds Try.pinned (OpenSpec.ofChange levelExactWrong)

/-- 'simulatorlaw28.LevelValid': WHATEVER THE INPUT: true; the input reads as it did. -/
def levelValidSpec : ChangeSpec := { name := "levelValid", fn := fun _ => fun
  | [d1, d2, d3] => { results := [.lit (.bool true)], args := [d1, d2, d3] }
  | _ => none }
def levelValidRow : OpenClaim := { program := "ytflfeikkcpcdiaa", sum := "11085e6ec1daa5be230d76df622d2d11f2bb69d5b310c2a5b4508a3a178f48ec", func := "simulator/simulatorlaw28.LevelValid", spec := "levelValid", apart := false }
def LevelValidSaid : Prop := levelValidRow.holds Try.pinned (OpenSpec.ofChange levelValidSpec)

/-- ITS FALSE NEIGHBOUR: 'it returns false'. Refute it at one input. -/
def levelValidWrong : ChangeSpec := { name := "levelValid", fn := fun _ => fun
  | [d1, d2, d3] => { results := [.lit (.bool false)], args := [d1, d2, d3] }
  | _ => none }
def LevelValidWrongFalsely : Prop := levelValidRow.holds Try.pinned (OpenSpec.ofChange levelValidWrong)

/-- 'simulatorlaw28.LevelAgain': WHATEVER THE INPUT: true; the input reads as it did. -/
def levelAgainSpec : ChangeSpec := { name := "levelAgain", fn := fun _ => fun
  | [d1, d2, d3, d4] => { results := [.lit (.bool true)], args := [d1, d2, d3, d4] }
  | _ => none }
def levelAgainRow : OpenClaim := { program := "ytflfeikkcpcdiaa", sum := "11085e6ec1daa5be230d76df622d2d11f2bb69d5b310c2a5b4508a3a178f48ec", func := "simulator/simulatorlaw28.LevelAgain", spec := "levelAgain", apart := false }
def LevelAgainSaid : Prop := levelAgainRow.holds Try.pinned (OpenSpec.ofChange levelAgainSpec)

/-- ITS FALSE NEIGHBOUR: 'it returns false'. Refute it at one input. -/
def levelAgainWrong : ChangeSpec := { name := "levelAgain", fn := fun _ => fun
  | [d1, d2, d3, d4] => { results := [.lit (.bool false)], args := [d1, d2, d3, d4] }
  | _ => none }
def LevelAgainWrongFalsely : Prop := levelAgainRow.holds Try.pinned (OpenSpec.ofChange levelAgainWrong)

/- THE SECOND FORM. 'bulk': how many values and letters a reading holds, each counted each time it is reached (what is shared counts as often as it is met; a slice's spare places count too). A statement '..UptoSaid' is the law's where the arguments, and the package variables that the reading takes, are together of bulk at most 1048576: NARROWER than '..Said'. Prove '..Said' where nothing that the law and all that it calls make is longer than what came in: it says more and counts as full. Else prove '..UptoSaid'. A law counts once. -/
mutual
def uptoBulk {H : Type} : DataW H → Nat
  | .lit (.string bytes) => bytes.length + 1
  | .lit _ => 1
  | .nil => 1
  | .ptr d => uptoBulk d + 1
  | .slice elems spare => uptoBulkAll elems + uptoBulkAll spare + 1
  | .agg parts => uptoBulkAll parts + 1
  | .iface _ d => uptoBulk d + 1
  | .map entries => uptoBulkEntries entries + 1
  | .held _ => 1
def uptoBulkAll {H : Type} : List (DataW H) → Nat
  | [] => 0
  | d :: r => uptoBulk d + uptoBulkAll r
def uptoBulkEntries {H : Type} : List (Lit × DataW H) → Nat
  | [] => 0
  | x :: r => uptoBulkEntry x + uptoBulkEntries r
def uptoBulkEntry {H : Type} : Lit × DataW H → Nat
  | (.string bytes, d) => bytes.length + uptoBulk d + 1
  | (_, d) => uptoBulk d + 1
 end
def uptoSmall : (H : Type) → List (DataW H) → Bool := fun _ ds => decide (uptoBulkAll ds ≤ 1048576)
def OpenSpec.upto (s : _root_.Go.ChangeSpec) : _root_.Go.OpenSpec := { _root_.Go.OpenSpec.ofChange s with cond := some uptoSmall }

/-- 'simulatorlaw28.LevelAreas', WHERE WHAT IT READS IS OF BULK AT MOST 1048576: true; the input reads as it did. -/
def levelAreasUptoRow : OpenClaim := { program := "ytflfeikkcpcdiaa", sum := "11085e6ec1daa5be230d76df622d2d11f2bb69d5b310c2a5b4508a3a178f48ec", func := "simulator/simulatorlaw28.LevelAreas", spec := "levelAreas", apart := false, narrowed := true }
def LevelAreasUptoSaid : Prop := levelAreasUptoRow.holds Try.pinned (OpenSpec.upto levelAreasSpec)

/-- 'simulatorlaw28.LevelStays', WHERE WHAT IT READS IS OF BULK AT MOST 1048576: true; the input reads as it did. -/
def levelStaysUptoRow : OpenClaim := { program := "ytflfeikkcpcdiaa", sum := "11085e6ec1daa5be230d76df622d2d11f2bb69d5b310c2a5b4508a3a178f48ec", func := "simulator/simulatorlaw28.LevelStays", spec := "levelStays", apart := false, narrowed := true }
def LevelStaysUptoSaid : Prop := levelStaysUptoRow.holds Try.pinned (OpenSpec.upto levelStaysSpec)

/-- 'simulatorlaw28.LevelExact', WHERE WHAT IT READS IS OF BULK AT MOST 1048576: true; the input reads as it did. -/
def levelExactUptoRow : OpenClaim := { program := "ytflfeikkcpcdiaa", sum := "11085e6ec1daa5be230d76df622d2d11f2bb69d5b310c2a5b4508a3a178f48ec", func := "simulator/simulatorlaw28.LevelExact", spec := "levelExact", apart := false, narrowed := true }
def LevelExactUptoSaid : Prop := levelExactUptoRow.holds Try.pinned (OpenSpec.upto levelExactSpec)

/-- 'simulatorlaw28.LevelValid', WHERE WHAT IT READS IS OF BULK AT MOST 1048576: true; the input reads as it did. -/
def levelValidUptoRow : OpenClaim := { program := "ytflfeikkcpcdiaa", sum := "11085e6ec1daa5be230d76df622d2d11f2bb69d5b310c2a5b4508a3a178f48ec", func := "simulator/simulatorlaw28.LevelValid", spec := "levelValid", apart := false, narrowed := true }
def LevelValidUptoSaid : Prop := levelValidUptoRow.holds Try.pinned (OpenSpec.upto levelValidSpec)

/-- 'simulatorlaw28.LevelAgain', WHERE WHAT IT READS IS OF BULK AT MOST 1048576: true; the input reads as it did. -/
def levelAgainUptoRow : OpenClaim := { program := "ytflfeikkcpcdiaa", sum := "11085e6ec1daa5be230d76df622d2d11f2bb69d5b310c2a5b4508a3a178f48ec", func := "simulator/simulatorlaw28.LevelAgain", spec := "levelAgain", apart := false, narrowed := true }
def LevelAgainUptoSaid : Prop := levelAgainUptoRow.holds Try.pinned (OpenSpec.upto levelAgainSpec)

end Rows
end Go.Proofs.Ytflfeikkcpcdiaa
