/-
  NARROWER THAN 'FOR EVERY INPUT', by the rows' own cells (each row's printed sentence says how): BindModels: loops · BindSettings: loops · BindClosed: loops.
  DERIVED. THE GIVEN ROWS OF THIS SEAT. 3 by the template 'for every input the law returns true; each argument reads behind the call as it read before'; 0 by the template 'total and deterministic' (their statements: YtofcpkmnhmnfcaaGreatRTotals.lean).
  GIVEN WITH THE SEED: the statements are not yours to turn. If you find one false, say at which input.
  Laid BY PROGRAM, IN A SANDBOX (cutbox-rows.mjs): the forced cells as the released guide's own fill.sh prints them over the translation aac9cfceb536e9bd… (all of the seat's roots in one cut). By AI agents, Wed Nov 11 2026. No macro, syntax, notation, axiom, sorry.
-/
import Derived.Test.YtofcpkmnhmnfcaaGreatRChecked
import GoSem.Claim
import GoSem.ClaimJoined
import GoSem.ClaimMapViews
import Derived.JoinedTies
import Derived.KernelRfl
namespace Go.Proofs.YtofcpkmnhmnfcaaGreatR
/- THE CELL 'sum', in the pinned program and in every row, IS THE sha256 OF THE DUMP (.gsa) THAT YtofcpkmnhmnfcaaGreatRProg.lean LOADS. Nothing in Lean hashes anything: it is a label: what it is worth is what the hold of that sum in a sandbox is worth. -/
noncomputable def Tryz.pinned : Pinned := { name := "ytofcpkmnhmnfcaagreatr", sum := "aac9cfceb536e9bd0f140c82f40996505ba5a9e9a7693f4454aad511a46f8626", checked := Tryz.checked }
namespace Rows
def none {H : Type} : Left H := { results := [], args := [] }

/-- 'simulatorlaw16.BindModels': WHATEVER THE INPUT: true; the input reads as it did. -/
def bindModelsSpec : ChangeSpec := { name := "bindModels", fn := fun _ => fun
  | [d1, d2] => { results := [.lit (.bool true)], args := [d1, d2] }
  | _ => none }
def bindModelsRow : OpenClaim := { program := "ytofcpkmnhmnfcaagreatr", sum := "aac9cfceb536e9bd0f140c82f40996505ba5a9e9a7693f4454aad511a46f8626", func := "simulator/simulatorlaw16.BindModels", spec := "bindModels", unfollowed := true, recurses := true, loops := true, plainKeys := false, apart := false }
def BindModelsSaid : Prop := bindModelsRow.holds Tryz.pinned (OpenSpec.ofChange bindModelsSpec)

/-- ITS FALSE NEIGHBOUR: 'it returns false'. Refute it at one input. -/
def bindModelsWrong : ChangeSpec := { name := "bindModels", fn := fun _ => fun
  | [d1, d2] => { results := [.lit (.bool false)], args := [d1, d2] }
  | _ => none }
def BindModelsWrongFalsely : Prop := bindModelsRow.holds Tryz.pinned (OpenSpec.ofChange bindModelsWrong)

/-- 'simulatorlaw16.BindSettings': WHATEVER THE INPUT: true; the input reads as it did. -/
def bindSettingsSpec : ChangeSpec := { name := "bindSettings", fn := fun _ => fun
  | [d1, d2] => { results := [.lit (.bool true)], args := [d1, d2] }
  | _ => none }
def bindSettingsRow : OpenClaim := { program := "ytofcpkmnhmnfcaagreatr", sum := "aac9cfceb536e9bd0f140c82f40996505ba5a9e9a7693f4454aad511a46f8626", func := "simulator/simulatorlaw16.BindSettings", spec := "bindSettings", unfollowed := true, recurses := true, loops := true, plainKeys := false, apart := false }
def BindSettingsSaid : Prop := bindSettingsRow.holds Tryz.pinned (OpenSpec.ofChange bindSettingsSpec)

/-- ITS FALSE NEIGHBOUR: 'it returns false'. Refute it at one input. -/
def bindSettingsWrong : ChangeSpec := { name := "bindSettings", fn := fun _ => fun
  | [d1, d2] => { results := [.lit (.bool false)], args := [d1, d2] }
  | _ => none }
def BindSettingsWrongFalsely : Prop := bindSettingsRow.holds Tryz.pinned (OpenSpec.ofChange bindSettingsWrong)

/-- 'simulatorlaw16.BindClosed': WHATEVER THE INPUT: true; the input reads as it did. -/
def bindClosedSpec : ChangeSpec := { name := "bindClosed", fn := fun _ => fun
  | [d] => { results := [.lit (.bool true)], args := [d] }
  | _ => none }
def bindClosedRow : OpenClaim := { program := "ytofcpkmnhmnfcaagreatr", sum := "aac9cfceb536e9bd0f140c82f40996505ba5a9e9a7693f4454aad511a46f8626", func := "simulator/simulatorlaw16.BindClosed", spec := "bindClosed", unfollowed := true, recurses := true, loops := true, plainKeys := false, apart := false }
def BindClosedSaid : Prop := bindClosedRow.holds Tryz.pinned (OpenSpec.ofChange bindClosedSpec)

/-- ITS FALSE NEIGHBOUR: 'it returns false'. Refute it at one input. -/
def bindClosedWrong : ChangeSpec := { name := "bindClosed", fn := fun _ => fun
  | [d] => { results := [.lit (.bool false)], args := [d] }
  | _ => none }
def BindClosedWrongFalsely : Prop := bindClosedRow.holds Tryz.pinned (OpenSpec.ofChange bindClosedWrong)

/- THE SECOND FORM. 'bulk': how many values and letters a reading holds, each counted each time it is reached (what is shared counts as often as it is met; a slice's spare places count too). A statement '..UptoSaid' is the law's where the arguments, and the package variables that the reading takes, are together of bulk at most 1048576: NARROWER than '..Said'. Prove '..Said' where nothing that the law and all that it calls make is longer than what came in: it says more and counts as full. Else prove '..UptoSaid'. A law counts once. -/
mutual
def uptoBulk {H : Type} : DataW H → Nat
  | .lit (.string bytes) => bytes.length + 1
  | .lit _ => 1
  | .nil => 1
  | .ptr d => uptoBulk d + 1
  | .slice elems spare => uptoBulkAll elems + uptoBulkAll spare + 1
  | .agg parts => uptoBulkAll parts + 1
  | .iface _ d => uptoBulk d + 1
  | .map entries => uptoBulkEntries entries + 1
  | .held _ => 1
def uptoBulkAll {H : Type} : List (DataW H) → Nat
  | [] => 0
  | d :: r => uptoBulk d + uptoBulkAll r
def uptoBulkEntries {H : Type} : List (Lit × DataW H) → Nat
  | [] => 0
  | x :: r => uptoBulkEntry x + uptoBulkEntries r
def uptoBulkEntry {H : Type} : Lit × DataW H → Nat
  | (.string bytes, d) => bytes.length + uptoBulk d + 1
  | (_, d) => uptoBulk d + 1
 end
def uptoSmall : (H : Type) → List (DataW H) → Bool := fun _ ds => decide (uptoBulkAll ds ≤ 1048576)
def OpenSpec.upto (s : _root_.Go.ChangeSpec) : _root_.Go.OpenSpec := { _root_.Go.OpenSpec.ofChange s with cond := some uptoSmall }

/-- 'simulatorlaw16.BindModels', WHERE WHAT IT READS IS OF BULK AT MOST 1048576: true; the input reads as it did. -/
def bindModelsUptoRow : OpenClaim := { program := "ytofcpkmnhmnfcaagreatr", sum := "aac9cfceb536e9bd0f140c82f40996505ba5a9e9a7693f4454aad511a46f8626", func := "simulator/simulatorlaw16.BindModels", spec := "bindModels", unfollowed := true, recurses := true, loops := true, plainKeys := false, apart := false, narrowed := true }
def BindModelsUptoSaid : Prop := bindModelsUptoRow.holds Tryz.pinned (OpenSpec.upto bindModelsSpec)

/-- 'simulatorlaw16.BindSettings', WHERE WHAT IT READS IS OF BULK AT MOST 1048576: true; the input reads as it did. -/
def bindSettingsUptoRow : OpenClaim := { program := "ytofcpkmnhmnfcaagreatr", sum := "aac9cfceb536e9bd0f140c82f40996505ba5a9e9a7693f4454aad511a46f8626", func := "simulator/simulatorlaw16.BindSettings", spec := "bindSettings", unfollowed := true, recurses := true, loops := true, plainKeys := false, apart := false, narrowed := true }
def BindSettingsUptoSaid : Prop := bindSettingsUptoRow.holds Tryz.pinned (OpenSpec.upto bindSettingsSpec)

/-- 'simulatorlaw16.BindClosed', WHERE WHAT IT READS IS OF BULK AT MOST 1048576: true; the input reads as it did. -/
def bindClosedUptoRow : OpenClaim := { program := "ytofcpkmnhmnfcaagreatr", sum := "aac9cfceb536e9bd0f140c82f40996505ba5a9e9a7693f4454aad511a46f8626", func := "simulator/simulatorlaw16.BindClosed", spec := "bindClosed", unfollowed := true, recurses := true, loops := true, plainKeys := false, apart := false, narrowed := true }
def BindClosedUptoSaid : Prop := bindClosedUptoRow.holds Tryz.pinned (OpenSpec.upto bindClosedSpec)

end Rows
end Go.Proofs.YtofcpkmnhmnfcaaGreatR
