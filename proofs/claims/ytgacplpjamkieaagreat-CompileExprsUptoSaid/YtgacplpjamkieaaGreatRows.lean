/-
  NARROWER THAN 'FOR EVERY INPUT', by the rows' own cells (each row's printed sentence says how): CompileSizes: loops · CompileJoins: loops · CompileExprs: loops.
  DERIVED. THE GIVEN ROWS OF THIS SEAT. 3 by the template 'for every input the law returns true; each argument reads behind the call as it read before'; 0 by the template 'total and deterministic' (their statements: YtgacplpjamkieaaGreatTotals.lean).
  GIVEN WITH THE SEED: the statements are not yours to turn. If you find one false, say at which input.
  Laid BY PROGRAM, IN A SANDBOX (cutbox-rows.mjs): the forced cells as the released guide's own fill.sh prints them over the translation 19146d4722a352ad… (all of the seat's roots in one cut). By AI agents, Wed Nov 11 2026. No macro, syntax, notation, axiom, sorry.
-/
import Derived.Test.YtgacplpjamkieaaGreatChecked
import GoSem.Claim
import GoSem.ClaimJoined
import GoSem.ClaimMapViews
import Derived.JoinedTies
import Derived.KernelRfl
namespace Go.Proofs.YtgacplpjamkieaaGreat
/- THE CELL 'sum', in the pinned program and in every row, IS THE sha256 OF THE DUMP (.gsa) THAT YtgacplpjamkieaaGreatProg.lean LOADS. Nothing in Lean hashes anything: it is a label: what it is worth is what the hold of that sum in a sandbox is worth. -/
noncomputable def Tryz.pinned : Pinned := { name := "ytgacplpjamkieaagreat", sum := "19146d4722a352adc38ad078ccc213de1c20fa66aaff25804204f524e1676681", checked := Tryz.checked }
namespace Rows
def none {H : Type} : Left H := { results := [], args := [] }

/-- 'simulatorlaw18.CompileSizes': WHATEVER THE INPUT: true; the input reads as it did. -/
def compileSizesSpec : ChangeSpec := { name := "compileSizes", fn := fun _ => fun
  | [d1, d2, d3] => { results := [.lit (.bool true)], args := [d1, d2, d3] }
  | _ => none }
def compileSizesRow : OpenClaim := { program := "ytgacplpjamkieaagreat", sum := "19146d4722a352adc38ad078ccc213de1c20fa66aaff25804204f524e1676681", func := "simulator/simulatorlaw18.CompileSizes", spec := "compileSizes", unfollowed := true, recurses := true, loops := true, plainKeys := false, apart := false }
def CompileSizesSaid : Prop := compileSizesRow.holds Tryz.pinned (OpenSpec.ofChange compileSizesSpec)

/-- ITS FALSE NEIGHBOUR: 'it returns false'. Refute it at one input. -/
def compileSizesWrong : ChangeSpec := { name := "compileSizes", fn := fun _ => fun
  | [d1, d2, d3] => { results := [.lit (.bool false)], args := [d1, d2, d3] }
  | _ => none }
def CompileSizesWrongFalsely : Prop := compileSizesRow.holds Tryz.pinned (OpenSpec.ofChange compileSizesWrong)

/-- 'simulatorlaw18.CompileJoins': WHATEVER THE INPUT: true; the input reads as it did. -/
def compileJoinsSpec : ChangeSpec := { name := "compileJoins", fn := fun _ => fun
  | [d1, d2, d3] => { results := [.lit (.bool true)], args := [d1, d2, d3] }
  | _ => none }
def compileJoinsRow : OpenClaim := { program := "ytgacplpjamkieaagreat", sum := "19146d4722a352adc38ad078ccc213de1c20fa66aaff25804204f524e1676681", func := "simulator/simulatorlaw18.CompileJoins", spec := "compileJoins", unfollowed := true, recurses := true, loops := true, plainKeys := false, apart := false }
def CompileJoinsSaid : Prop := compileJoinsRow.holds Tryz.pinned (OpenSpec.ofChange compileJoinsSpec)

/-- ITS FALSE NEIGHBOUR: 'it returns false'. Refute it at one input. -/
def compileJoinsWrong : ChangeSpec := { name := "compileJoins", fn := fun _ => fun
  | [d1, d2, d3] => { results := [.lit (.bool false)], args := [d1, d2, d3] }
  | _ => none }
def CompileJoinsWrongFalsely : Prop := compileJoinsRow.holds Tryz.pinned (OpenSpec.ofChange compileJoinsWrong)

/-- 'simulatorlaw18.CompileExprs': WHATEVER THE INPUT: true; the input reads as it did. -/
def compileExprsSpec : ChangeSpec := { name := "compileExprs", fn := fun _ => fun
  | [d1, d2] => { results := [.lit (.bool true)], args := [d1, d2] }
  | _ => none }
def compileExprsRow : OpenClaim := { program := "ytgacplpjamkieaagreat", sum := "19146d4722a352adc38ad078ccc213de1c20fa66aaff25804204f524e1676681", func := "simulator/simulatorlaw18.CompileExprs", spec := "compileExprs", unfollowed := true, recurses := true, loops := true, plainKeys := false, apart := false }
def CompileExprsSaid : Prop := compileExprsRow.holds Tryz.pinned (OpenSpec.ofChange compileExprsSpec)

/-- ITS FALSE NEIGHBOUR: 'it returns false'. Refute it at one input. -/
def compileExprsWrong : ChangeSpec := { name := "compileExprs", fn := fun _ => fun
  | [d1, d2] => { results := [.lit (.bool false)], args := [d1, d2] }
  | _ => none }
def CompileExprsWrongFalsely : Prop := compileExprsRow.holds Tryz.pinned (OpenSpec.ofChange compileExprsWrong)

/- THE SECOND FORM. 'bulk': how many values and letters a reading holds, each counted each time it is reached (what is shared counts as often as it is met; a slice's spare places count too). A statement '..UptoSaid' is the law's where the arguments, and the package variables that the reading takes, are together of bulk at most 1048576: NARROWER than '..Said'. Prove '..Said' where nothing that the law and all that it calls make is longer than what came in: it says more and counts as full. Else prove '..UptoSaid'. A law counts once. -/
mutual
def uptoBulk {H : Type} : DataW H → Nat
  | .lit (.string bytes) => bytes.length + 1
  | .lit _ => 1
  | .nil => 1
  | .ptr d => uptoBulk d + 1
  | .slice elems spare => uptoBulkAll elems + uptoBulkAll spare + 1
  | .agg parts => uptoBulkAll parts + 1
  | .iface _ d => uptoBulk d + 1
  | .map entries => uptoBulkEntries entries + 1
  | .held _ => 1
def uptoBulkAll {H : Type} : List (DataW H) → Nat
  | [] => 0
  | d :: r => uptoBulk d + uptoBulkAll r
def uptoBulkEntries {H : Type} : List (Lit × DataW H) → Nat
  | [] => 0
  | x :: r => uptoBulkEntry x + uptoBulkEntries r
def uptoBulkEntry {H : Type} : Lit × DataW H → Nat
  | (.string bytes, d) => bytes.length + uptoBulk d + 1
  | (_, d) => uptoBulk d + 1
 end
def uptoSmall : (H : Type) → List (DataW H) → Bool := fun _ ds => decide (uptoBulkAll ds ≤ 1048576)
def OpenSpec.upto (s : _root_.Go.ChangeSpec) : _root_.Go.OpenSpec := { _root_.Go.OpenSpec.ofChange s with cond := some uptoSmall }

/-- 'simulatorlaw18.CompileSizes', WHERE WHAT IT READS IS OF BULK AT MOST 1048576: true; the input reads as it did. -/
def compileSizesUptoRow : OpenClaim := { program := "ytgacplpjamkieaagreat", sum := "19146d4722a352adc38ad078ccc213de1c20fa66aaff25804204f524e1676681", func := "simulator/simulatorlaw18.CompileSizes", spec := "compileSizes", unfollowed := true, recurses := true, loops := true, plainKeys := false, apart := false, narrowed := true }
def CompileSizesUptoSaid : Prop := compileSizesUptoRow.holds Tryz.pinned (OpenSpec.upto compileSizesSpec)

/-- 'simulatorlaw18.CompileJoins', WHERE WHAT IT READS IS OF BULK AT MOST 1048576: true; the input reads as it did. -/
def compileJoinsUptoRow : OpenClaim := { program := "ytgacplpjamkieaagreat", sum := "19146d4722a352adc38ad078ccc213de1c20fa66aaff25804204f524e1676681", func := "simulator/simulatorlaw18.CompileJoins", spec := "compileJoins", unfollowed := true, recurses := true, loops := true, plainKeys := false, apart := false, narrowed := true }
def CompileJoinsUptoSaid : Prop := compileJoinsUptoRow.holds Tryz.pinned (OpenSpec.upto compileJoinsSpec)

/-- 'simulatorlaw18.CompileExprs', WHERE WHAT IT READS IS OF BULK AT MOST 1048576: true; the input reads as it did. -/
def compileExprsUptoRow : OpenClaim := { program := "ytgacplpjamkieaagreat", sum := "19146d4722a352adc38ad078ccc213de1c20fa66aaff25804204f524e1676681", func := "simulator/simulatorlaw18.CompileExprs", spec := "compileExprs", unfollowed := true, recurses := true, loops := true, plainKeys := false, apart := false, narrowed := true }
def CompileExprsUptoSaid : Prop := compileExprsUptoRow.holds Tryz.pinned (OpenSpec.upto compileExprsSpec)

end Rows
end Go.Proofs.YtgacplpjamkieaaGreat
