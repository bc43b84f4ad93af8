/-
  NARROWER THAN 'FOR EVERY INPUT', by the rows' own cells (each row's printed sentence says how): TypingExprs: loops · TypingStmts: loops · TypingModels: loops · TypingKids: loops · TypingJoins: loops · TypingSwaps: loops · TypingHides: loops.
  DERIVED. THE GIVEN ROWS OF THIS SEAT. 7 by the template 'for every input the law returns true; each argument reads behind the call as it read before'; 0 by the template 'total and deterministic' (their statements: YtcbandfdmbkokaaGreatTotals.lean).
  GIVEN WITH THE SEED: the statements are not yours to turn. If you find one false, say at which input.
  Laid BY PROGRAM, IN A SANDBOX (cutbox-rows.mjs): the forced cells as the released guide's own fill.sh prints them over the translation 6c17dc3fa1a227a1… (all of the seat's roots in one cut). By AI agents, Wed Nov 11 2026. No macro, syntax, notation, axiom, sorry.
-/
import Derived.Test.YtcbandfdmbkokaaGreatChecked
import GoSem.Claim
import GoSem.ClaimJoined
import GoSem.ClaimMapViews
import Derived.JoinedTies
import Derived.KernelRfl
namespace Go.Proofs.YtcbandfdmbkokaaGreat
/- THE CELL 'sum', in the pinned program and in every row, IS THE sha256 OF THE DUMP (.gsa) THAT YtcbandfdmbkokaaGreatProg.lean LOADS. Nothing in Lean hashes anything: it is a label: what it is worth is what the hold of that sum in a sandbox is worth. -/
noncomputable def Tryz.pinned : Pinned := { name := "ytcbandfdmbkokaagreat", sum := "6c17dc3fa1a227a1cfbe10f3775b68bd634338a5758303032d3979f975397db3", checked := Tryz.checked }
namespace Rows
def none {H : Type} : Left H := { results := [], args := [] }

/-- 'simulatorlaw14.TypingExprs': WHATEVER THE INPUT: true; the input reads as it did. -/
def typingExprsSpec : ChangeSpec := { name := "typingExprs", fn := fun _ => fun
  | [d1, d2, d3] => { results := [.lit (.bool true)], args := [d1, d2, d3] }
  | _ => none }
def typingExprsRow : OpenClaim := { program := "ytcbandfdmbkokaagreat", sum := "6c17dc3fa1a227a1cfbe10f3775b68bd634338a5758303032d3979f975397db3", func := "simulator/simulatorlaw14.TypingExprs", spec := "typingExprs", unfollowed := true, recurses := true, loops := true, plainKeys := false, apart := false }
def TypingExprsSaid : Prop := typingExprsRow.holds Tryz.pinned (OpenSpec.ofChange typingExprsSpec)

/-- ITS FALSE NEIGHBOUR: 'it returns false'. Refute it at one input. -/
def typingExprsWrong : ChangeSpec := { name := "typingExprs", fn := fun _ => fun
  | [d1, d2, d3] => { results := [.lit (.bool false)], args := [d1, d2, d3] }
  | _ => none }
def TypingExprsWrongFalsely : Prop := typingExprsRow.holds Tryz.pinned (OpenSpec.ofChange typingExprsWrong)

/-- 'simulatorlaw14.TypingStmts': WHATEVER THE INPUT: true; the input reads as it did. -/
def typingStmtsSpec : ChangeSpec := { name := "typingStmts", fn := fun _ => fun
  | [d] => { results := [.lit (.bool true)], args := [d] }
  | _ => none }
def typingStmtsRow : OpenClaim := { program := "ytcbandfdmbkokaagreat", sum := "6c17dc3fa1a227a1cfbe10f3775b68bd634338a5758303032d3979f975397db3", func := "simulator/simulatorlaw14.TypingStmts", spec := "typingStmts", unfollowed := true, recurses := true, loops := true, plainKeys := false, apart := false }
def TypingStmtsSaid : Prop := typingStmtsRow.holds Tryz.pinned (OpenSpec.ofChange typingStmtsSpec)

/-- ITS FALSE NEIGHBOUR: 'it returns false'. Refute it at one input. -/
def typingStmtsWrong : ChangeSpec := { name := "typingStmts", fn := fun _ => fun
  | [d] => { results := [.lit (.bool false)], args := [d] }
  | _ => none }
def TypingStmtsWrongFalsely : Prop := typingStmtsRow.holds Tryz.pinned (OpenSpec.ofChange typingStmtsWrong)

/-- 'simulatorlaw14.TypingModels': WHATEVER THE INPUT: true; the input reads as it did. -/
def typingModelsSpec : ChangeSpec := { name := "typingModels", fn := fun _ => fun
  | [d] => { results := [.lit (.bool true)], args := [d] }
  | _ => none }
def typingModelsRow : OpenClaim := { program := "ytcbandfdmbkokaagreat", sum := "6c17dc3fa1a227a1cfbe10f3775b68bd634338a5758303032d3979f975397db3", func := "simulator/simulatorlaw14.TypingModels", spec := "typingModels", unfollowed := true, recurses := true, loops := true, plainKeys := false, apart := false }
def TypingModelsSaid : Prop := typingModelsRow.holds Tryz.pinned (OpenSpec.ofChange typingModelsSpec)

/-- ITS FALSE NEIGHBOUR: 'it returns false'. Refute it at one input. -/
def typingModelsWrong : ChangeSpec := { name := "typingModels", fn := fun _ => fun
  | [d] => { results := [.lit (.bool false)], args := [d] }
  | _ => none }
def TypingModelsWrongFalsely : Prop := typingModelsRow.holds Tryz.pinned (OpenSpec.ofChange typingModelsWrong)

/-- 'simulatorlaw14.TypingKids': WHATEVER THE INPUT: true; the input reads as it did. -/
def typingKidsSpec : ChangeSpec := { name := "typingKids", fn := fun _ => fun
  | [d1, d2] => { results := [.lit (.bool true)], args := [d1, d2] }
  | _ => none }
def typingKidsRow : OpenClaim := { program := "ytcbandfdmbkokaagreat", sum := "6c17dc3fa1a227a1cfbe10f3775b68bd634338a5758303032d3979f975397db3", func := "simulator/simulatorlaw14.TypingKids", spec := "typingKids", unfollowed := true, recurses := true, loops := true, plainKeys := false, apart := false }
def TypingKidsSaid : Prop := typingKidsRow.holds Tryz.pinned (OpenSpec.ofChange typingKidsSpec)

/-- ITS FALSE NEIGHBOUR: 'it returns false'. Refute it at one input. -/
def typingKidsWrong : ChangeSpec := { name := "typingKids", fn := fun _ => fun
  | [d1, d2] => { results := [.lit (.bool false)], args := [d1, d2] }
  | _ => none }
def TypingKidsWrongFalsely : Prop := typingKidsRow.holds Tryz.pinned (OpenSpec.ofChange typingKidsWrong)

/-- 'simulatorlaw14.TypingJoins': WHATEVER THE INPUT: true; the input reads as it did. -/
def typingJoinsSpec : ChangeSpec := { name := "typingJoins", fn := fun _ => fun
  | [d] => { results := [.lit (.bool true)], args := [d] }
  | _ => none }
def typingJoinsRow : OpenClaim := { program := "ytcbandfdmbkokaagreat", sum := "6c17dc3fa1a227a1cfbe10f3775b68bd634338a5758303032d3979f975397db3", func := "simulator/simulatorlaw14.TypingJoins", spec := "typingJoins", unfollowed := true, recurses := true, loops := true, plainKeys := false, apart := false }
def TypingJoinsSaid : Prop := typingJoinsRow.holds Tryz.pinned (OpenSpec.ofChange typingJoinsSpec)

/-- ITS FALSE NEIGHBOUR: 'it returns false'. Refute it at one input. -/
def typingJoinsWrong : ChangeSpec := { name := "typingJoins", fn := fun _ => fun
  | [d] => { results := [.lit (.bool false)], args := [d] }
  | _ => none }
def TypingJoinsWrongFalsely : Prop := typingJoinsRow.holds Tryz.pinned (OpenSpec.ofChange typingJoinsWrong)

/-- 'simulatorlaw14.TypingSwaps': WHATEVER THE INPUT: true; the input reads as it did. -/
def typingSwapsSpec : ChangeSpec := { name := "typingSwaps", fn := fun _ => fun
  | [d1, d2] => { results := [.lit (.bool true)], args := [d1, d2] }
  | _ => none }
def typingSwapsRow : OpenClaim := { program := "ytcbandfdmbkokaagreat", sum := "6c17dc3fa1a227a1cfbe10f3775b68bd634338a5758303032d3979f975397db3", func := "simulator/simulatorlaw14.TypingSwaps", spec := "typingSwaps", unfollowed := true, recurses := true, loops := true, plainKeys := false, apart := false }
def TypingSwapsSaid : Prop := typingSwapsRow.holds Tryz.pinned (OpenSpec.ofChange typingSwapsSpec)

/-- ITS FALSE NEIGHBOUR: 'it returns false'. Refute it at one input. -/
def typingSwapsWrong : ChangeSpec := { name := "typingSwaps", fn := fun _ => fun
  | [d1, d2] => { results := [.lit (.bool false)], args := [d1, d2] }
  | _ => none }
def TypingSwapsWrongFalsely : Prop := typingSwapsRow.holds Tryz.pinned (OpenSpec.ofChange typingSwapsWrong)

/-- 'simulatorlaw14.TypingHides': WHATEVER THE INPUT: true; the input reads as it did. -/
def typingHidesSpec : ChangeSpec := { name := "typingHides", fn := fun _ => fun
  | [d1, d2, d3] => { results := [.lit (.bool true)], args := [d1, d2, d3] }
  | _ => none }
def typingHidesRow : OpenClaim := { program := "ytcbandfdmbkokaagreat", sum := "6c17dc3fa1a227a1cfbe10f3775b68bd634338a5758303032d3979f975397db3", func := "simulator/simulatorlaw14.TypingHides", spec := "typingHides", unfollowed := true, recurses := true, loops := true, plainKeys := false, apart := false }
def TypingHidesSaid : Prop := typingHidesRow.holds Tryz.pinned (OpenSpec.ofChange typingHidesSpec)

/-- ITS FALSE NEIGHBOUR: 'it returns false'. Refute it at one input. -/
def typingHidesWrong : ChangeSpec := { name := "typingHides", fn := fun _ => fun
  | [d1, d2, d3] => { results := [.lit (.bool false)], args := [d1, d2, d3] }
  | _ => none }
def TypingHidesWrongFalsely : Prop := typingHidesRow.holds Tryz.pinned (OpenSpec.ofChange typingHidesWrong)

/- THE SECOND FORM. 'bulk': how many values and letters a reading holds, each counted each time it is reached (what is shared counts as often as it is met; a slice's spare places count too). A statement '..UptoSaid' is the law's where the arguments, and the package variables that the reading takes, are together of bulk at most 1048576: NARROWER than '..Said'. Prove '..Said' where nothing that the law and all that it calls make is longer than what came in: it says more and counts as full. Else prove '..UptoSaid'. A law counts once. -/
mutual
def uptoBulk {H : Type} : DataW H → Nat
  | .lit (.string bytes) => bytes.length + 1
  | .lit _ => 1
  | .nil => 1
  | .ptr d => uptoBulk d + 1
  | .slice elems spare => uptoBulkAll elems + uptoBulkAll spare + 1
  | .agg parts => uptoBulkAll parts + 1
  | .iface _ d => uptoBulk d + 1
  | .map entries => uptoBulkEntries entries + 1
  | .held _ => 1
def uptoBulkAll {H : Type} : List (DataW H) → Nat
  | [] => 0
  | d :: r => uptoBulk d + uptoBulkAll r
def uptoBulkEntries {H : Type} : List (Lit × DataW H) → Nat
  | [] => 0
  | x :: r => uptoBulkEntry x + uptoBulkEntries r
def uptoBulkEntry {H : Type} : Lit × DataW H → Nat
  | (.string bytes, d) => bytes.length + uptoBulk d + 1
  | (_, d) => uptoBulk d + 1
 end
def uptoSmall : (H : Type) → List (DataW H) → Bool := fun _ ds => decide (uptoBulkAll ds ≤ 1048576)
def OpenSpec.upto (s : _root_.Go.ChangeSpec) : _root_.Go.OpenSpec := { _root_.Go.OpenSpec.ofChange s with cond := some uptoSmall }

/-- 'simulatorlaw14.TypingExprs', WHERE WHAT IT READS IS OF BULK AT MOST 1048576: true; the input reads as it did. -/
def typingExprsUptoRow : OpenClaim := { program := "ytcbandfdmbkokaagreat", sum := "6c17dc3fa1a227a1cfbe10f3775b68bd634338a5758303032d3979f975397db3", func := "simulator/simulatorlaw14.TypingExprs", spec := "typingExprs", unfollowed := true, recurses := true, loops := true, plainKeys := false, apart := false, narrowed := true }
def TypingExprsUptoSaid : Prop := typingExprsUptoRow.holds Tryz.pinned (OpenSpec.upto typingExprsSpec)

/-- 'simulatorlaw14.TypingStmts', WHERE WHAT IT READS IS OF BULK AT MOST 1048576: true; the input reads as it did. -/
def typingStmtsUptoRow : OpenClaim := { program := "ytcbandfdmbkokaagreat", sum := "6c17dc3fa1a227a1cfbe10f3775b68bd634338a5758303032d3979f975397db3", func := "simulator/simulatorlaw14.TypingStmts", spec := "typingStmts", unfollowed := true, recurses := true, loops := true, plainKeys := false, apart := false, narrowed := true }
def TypingStmtsUptoSaid : Prop := typingStmtsUptoRow.holds Tryz.pinned (OpenSpec.upto typingStmtsSpec)

/-- 'simulatorlaw14.TypingModels', WHERE WHAT IT READS IS OF BULK AT MOST 1048576: true; the input reads as it did. -/
def typingModelsUptoRow : OpenClaim := { program := "ytcbandfdmbkokaagreat", sum := "6c17dc3fa1a227a1cfbe10f3775b68bd634338a5758303032d3979f975397db3", func := "simulator/simulatorlaw14.TypingModels", spec := "typingModels", unfollowed := true, recurses := true, loops := true, plainKeys := false, apart := false, narrowed := true }
def TypingModelsUptoSaid : Prop := typingModelsUptoRow.holds Tryz.pinned (OpenSpec.upto typingModelsSpec)

/-- 'simulatorlaw14.TypingKids', WHERE WHAT IT READS IS OF BULK AT MOST 1048576: true; the input reads as it did. -/
def typingKidsUptoRow : OpenClaim := { program := "ytcbandfdmbkokaagreat", sum := "6c17dc3fa1a227a1cfbe10f3775b68bd634338a5758303032d3979f975397db3", func := "simulator/simulatorlaw14.TypingKids", spec := "typingKids", unfollowed := true, recurses := true, loops := true, plainKeys := false, apart := false, narrowed := true }
def TypingKidsUptoSaid : Prop := typingKidsUptoRow.holds Tryz.pinned (OpenSpec.upto typingKidsSpec)

/-- 'simulatorlaw14.TypingJoins', WHERE WHAT IT READS IS OF BULK AT MOST 1048576: true; the input reads as it did. -/
def typingJoinsUptoRow : OpenClaim := { program := "ytcbandfdmbkokaagreat", sum := "6c17dc3fa1a227a1cfbe10f3775b68bd634338a5758303032d3979f975397db3", func := "simulator/simulatorlaw14.TypingJoins", spec := "typingJoins", unfollowed := true, recurses := true, loops := true, plainKeys := false, apart := false, narrowed := true }
def TypingJoinsUptoSaid : Prop := typingJoinsUptoRow.holds Tryz.pinned (OpenSpec.upto typingJoinsSpec)

/-- 'simulatorlaw14.TypingSwaps', WHERE WHAT IT READS IS OF BULK AT MOST 1048576: true; the input reads as it did. -/
def typingSwapsUptoRow : OpenClaim := { program := "ytcbandfdmbkokaagreat", sum := "6c17dc3fa1a227a1cfbe10f3775b68bd634338a5758303032d3979f975397db3", func := "simulator/simulatorlaw14.TypingSwaps", spec := "typingSwaps", unfollowed := true, recurses := true, loops := true, plainKeys := false, apart := false, narrowed := true }
def TypingSwapsUptoSaid : Prop := typingSwapsUptoRow.holds Tryz.pinned (OpenSpec.upto typingSwapsSpec)

/-- 'simulatorlaw14.TypingHides', WHERE WHAT IT READS IS OF BULK AT MOST 1048576: true; the input reads as it did. -/
def typingHidesUptoRow : OpenClaim := { program := "ytcbandfdmbkokaagreat", sum := "6c17dc3fa1a227a1cfbe10f3775b68bd634338a5758303032d3979f975397db3", func := "simulator/simulatorlaw14.TypingHides", spec := "typingHides", unfollowed := true, recurses := true, loops := true, plainKeys := false, apart := false, narrowed := true }
def TypingHidesUptoSaid : Prop := typingHidesUptoRow.holds Tryz.pinned (OpenSpec.upto typingHidesSpec)

end Rows
end Go.Proofs.YtcbandfdmbkokaaGreat
