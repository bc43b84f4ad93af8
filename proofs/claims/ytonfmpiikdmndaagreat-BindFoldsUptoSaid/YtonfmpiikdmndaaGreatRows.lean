/-
  NARROWER THAN 'FOR EVERY INPUT', by the rows' own cells (each row's printed sentence says how): BindFolds: loops · BindTypes: loops · BindValues: loops.
  DERIVED. THE GIVEN ROWS OF THIS SEAT. 3 by the template 'for every input the law returns true; each argument reads behind the call as it read before'; 0 by the template 'total and deterministic' (their statements: YtonfmpiikdmndaaGreatTotals.lean).
  GIVEN WITH THE SEED: the statements are not yours to turn. If you find one false, say at which input.
  Laid BY PROGRAM, IN A SANDBOX (cutbox-rows.mjs): the forced cells as the released guide's own fill.sh prints them over the translation c91e23d411ed9883… (all of the seat's roots in one cut). By AI agents, Wed Nov 11 2026. No macro, syntax, notation, axiom, sorry.
-/
import Derived.Test.YtonfmpiikdmndaaGreatChecked
import GoSem.Claim
import GoSem.ClaimJoined
import GoSem.ClaimMapViews
import Derived.JoinedTies
import Derived.KernelRfl
namespace Go.Proofs.YtonfmpiikdmndaaGreat
/- THE CELL 'sum', in the pinned program and in every row, IS THE sha256 OF THE DUMP (.gsa) THAT YtonfmpiikdmndaaGreatProg.lean LOADS. Nothing in Lean hashes anything: it is a label: what it is worth is what the hold of that sum in a sandbox is worth. -/
noncomputable def Tryz.pinned : Pinned := { name := "ytonfmpiikdmndaagreat", sum := "c91e23d411ed98836232f64b717f7cad6da48659492a71b30454a7197cfcc11e", checked := Tryz.checked }
namespace Rows
def none {H : Type} : Left H := { results := [], args := [] }

/-- 'simulatorlaw16.BindFolds': WHATEVER THE INPUT: true; the input reads as it did. -/
def bindFoldsSpec : ChangeSpec := { name := "bindFolds", fn := fun _ => fun
  | [d] => { results := [.lit (.bool true)], args := [d] }
  | _ => none }
def bindFoldsRow : OpenClaim := { program := "ytonfmpiikdmndaagreat", sum := "c91e23d411ed98836232f64b717f7cad6da48659492a71b30454a7197cfcc11e", func := "simulator/simulatorlaw16.BindFolds", spec := "bindFolds", unfollowed := true, recurses := true, loops := true, plainKeys := false, apart := false }
def BindFoldsSaid : Prop := bindFoldsRow.holds Tryz.pinned (OpenSpec.ofChange bindFoldsSpec)

/-- ITS FALSE NEIGHBOUR: 'it returns false'. Refute it at one input. -/
def bindFoldsWrong : ChangeSpec := { name := "bindFolds", fn := fun _ => fun
  | [d] => { results := [.lit (.bool false)], args := [d] }
  | _ => none }
def BindFoldsWrongFalsely : Prop := bindFoldsRow.holds Tryz.pinned (OpenSpec.ofChange bindFoldsWrong)

/-- 'simulatorlaw16.BindTypes': WHATEVER THE INPUT: true; the input reads as it did. -/
def bindTypesSpec : ChangeSpec := { name := "bindTypes", fn := fun _ => fun
  | [d1, d2] => { results := [.lit (.bool true)], args := [d1, d2] }
  | _ => none }
def bindTypesRow : OpenClaim := { program := "ytonfmpiikdmndaagreat", sum := "c91e23d411ed98836232f64b717f7cad6da48659492a71b30454a7197cfcc11e", func := "simulator/simulatorlaw16.BindTypes", spec := "bindTypes", unfollowed := true, recurses := true, loops := true, plainKeys := false, apart := false }
def BindTypesSaid : Prop := bindTypesRow.holds Tryz.pinned (OpenSpec.ofChange bindTypesSpec)

/-- ITS FALSE NEIGHBOUR: 'it returns false'. Refute it at one input. -/
def bindTypesWrong : ChangeSpec := { name := "bindTypes", fn := fun _ => fun
  | [d1, d2] => { results := [.lit (.bool false)], args := [d1, d2] }
  | _ => none }
def BindTypesWrongFalsely : Prop := bindTypesRow.holds Tryz.pinned (OpenSpec.ofChange bindTypesWrong)

/-- 'simulatorlaw16.BindValues': WHATEVER THE INPUT: true; the input reads as it did. -/
def bindValuesSpec : ChangeSpec := { name := "bindValues", fn := fun _ => fun
  | [d1, d2] => { results := [.lit (.bool true)], args := [d1, d2] }
  | _ => none }
def bindValuesRow : OpenClaim := { program := "ytonfmpiikdmndaagreat", sum := "c91e23d411ed98836232f64b717f7cad6da48659492a71b30454a7197cfcc11e", func := "simulator/simulatorlaw16.BindValues", spec := "bindValues", unfollowed := true, recurses := true, loops := true, plainKeys := false, apart := false }
def BindValuesSaid : Prop := bindValuesRow.holds Tryz.pinned (OpenSpec.ofChange bindValuesSpec)

/-- ITS FALSE NEIGHBOUR: 'it returns false'. Refute it at one input. -/
def bindValuesWrong : ChangeSpec := { name := "bindValues", fn := fun _ => fun
  | [d1, d2] => { results := [.lit (.bool false)], args := [d1, d2] }
  | _ => none }
def BindValuesWrongFalsely : Prop := bindValuesRow.holds Tryz.pinned (OpenSpec.ofChange bindValuesWrong)

/- THE SECOND FORM. 'bulk': how many values and letters a reading holds, each counted each time it is reached (what is shared counts as often as it is met; a slice's spare places count too). A statement '..UptoSaid' is the law's where the arguments, and the package variables that the reading takes, are together of bulk at most 1048576: NARROWER than '..Said'. Prove '..Said' where nothing that the law and all that it calls make is longer than what came in: it says more and counts as full. Else prove '..UptoSaid'. A law counts once. -/
mutual
def uptoBulk {H : Type} : DataW H → Nat
  | .lit (.string bytes) => bytes.length + 1
  | .lit _ => 1
  | .nil => 1
  | .ptr d => uptoBulk d + 1
  | .slice elems spare => uptoBulkAll elems + uptoBulkAll spare + 1
  | .agg parts => uptoBulkAll parts + 1
  | .iface _ d => uptoBulk d + 1
  | .map entries => uptoBulkEntries entries + 1
  | .held _ => 1
def uptoBulkAll {H : Type} : List (DataW H) → Nat
  | [] => 0
  | d :: r => uptoBulk d + uptoBulkAll r
def uptoBulkEntries {H : Type} : List (Lit × DataW H) → Nat
  | [] => 0
  | x :: r => uptoBulkEntry x + uptoBulkEntries r
def uptoBulkEntry {H : Type} : Lit × DataW H → Nat
  | (.string bytes, d) => bytes.length + uptoBulk d + 1
  | (_, d) => uptoBulk d + 1
 end
def uptoSmall : (H : Type) → List (DataW H) → Bool := fun _ ds => decide (uptoBulkAll ds ≤ 1048576)
def OpenSpec.upto (s : _root_.Go.ChangeSpec) : _root_.Go.OpenSpec := { _root_.Go.OpenSpec.ofChange s with cond := some uptoSmall }

/-- 'simulatorlaw16.BindFolds', WHERE WHAT IT READS IS OF BULK AT MOST 1048576: true; the input reads as it did. -/
def bindFoldsUptoRow : OpenClaim := { program := "ytonfmpiikdmndaagreat", sum := "c91e23d411ed98836232f64b717f7cad6da48659492a71b30454a7197cfcc11e", func := "simulator/simulatorlaw16.BindFolds", spec := "bindFolds", unfollowed := true, recurses := true, loops := true, plainKeys := false, apart := false, narrowed := true }
def BindFoldsUptoSaid : Prop := bindFoldsUptoRow.holds Tryz.pinned (OpenSpec.upto bindFoldsSpec)

/-- 'simulatorlaw16.BindTypes', WHERE WHAT IT READS IS OF BULK AT MOST 1048576: true; the input reads as it did. -/
def bindTypesUptoRow : OpenClaim := { program := "ytonfmpiikdmndaagreat", sum := "c91e23d411ed98836232f64b717f7cad6da48659492a71b30454a7197cfcc11e", func := "simulator/simulatorlaw16.BindTypes", spec := "bindTypes", unfollowed := true, recurses := true, loops := true, plainKeys := false, apart := false, narrowed := true }
def BindTypesUptoSaid : Prop := bindTypesUptoRow.holds Tryz.pinned (OpenSpec.upto bindTypesSpec)

/-- 'simulatorlaw16.BindValues', WHERE WHAT IT READS IS OF BULK AT MOST 1048576: true; the input reads as it did. -/
def bindValuesUptoRow : OpenClaim := { program := "ytonfmpiikdmndaagreat", sum := "c91e23d411ed98836232f64b717f7cad6da48659492a71b30454a7197cfcc11e", func := "simulator/simulatorlaw16.BindValues", spec := "bindValues", unfollowed := true, recurses := true, loops := true, plainKeys := false, apart := false, narrowed := true }
def BindValuesUptoSaid : Prop := bindValuesUptoRow.holds Tryz.pinned (OpenSpec.upto bindValuesSpec)

end Rows
end Go.Proofs.YtonfmpiikdmndaaGreat
