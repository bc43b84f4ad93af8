/-
  NARROWER THAN 'FOR EVERY INPUT', by the rows' own cells (each row's printed sentence says how): RankingAdds: laid · RankingStages: laid · RankingKeeps: laid · RankingMoves: laid.
  DERIVED. THE GIVEN ROWS OF THIS SEAT. 4 by the template 'for every input the law returns true; each argument reads behind the call as it read before'; 0 by the template 'total and deterministic' (their statements: YtckmlfboedljeaaDoorTotals.lean).
  GIVEN WITH THE SEED: the statements are not yours to turn. If you find one false, say at which input.
  Laid BY PROGRAM, IN A SANDBOX (cutbox-rows.mjs): the forced cells as the released guide's own fill.sh prints them over the translation c6342e32ee103b7b… (all of the seat's roots in one cut). By AI agents, Wed Nov 11 2026. No macro, syntax, notation, axiom, sorry.
-/
import Derived.Test.YtckmlfboedljeaaDoorChecked
import GoSem.Claim
import GoSem.ClaimJoined
import GoSem.ClaimMapViews
import Derived.JoinedTies
import Derived.KernelRfl
namespace Go.Proofs.YtckmlfboedljeaaDoor
/- THE CELL 'sum', in the pinned program and in every row, IS THE sha256 OF THE DUMP (.gsa) THAT YtckmlfboedljeaaDoorProg.lean LOADS. Nothing in Lean hashes anything: it is a label: what it is worth is what the hold of that sum in a sandbox is worth. -/
noncomputable def Tryd.pinned : Pinned := { name := "ytckmlfboedljeaadoor", sum := "c6342e32ee103b7bc64a0f16eaed929b8a18a07696d9797e5c8e268c262234d8", checked := Tryd.checked }
namespace Rows
def none {H : Type} : Left H := { results := [], args := [] }

/- WHAT THE LISTED PACKAGE-LEVEL VARIABLES READ AS WHEN THE CALL BEGINS. Each datum BY PROGRAM (the guide's laid-datum.mjs) off the statement by which the dump's own 'gosem.cut.vars' lays the variable. In a bare row this is a premise. The card (YtckmlfboedljeaaDoorCards.lean) ties it to the program's text. -/
def laid_simulator_interval_quantiles {H : Type} : DataW H := .slice [.lit (.int .i64 12706), .lit (.int .i64 4303), .lit (.int .i64 3182), .lit (.int .i64 2776), .lit (.int .i64 2571), .lit (.int .i64 2447), .lit (.int .i64 2365), .lit (.int .i64 2306), .lit (.int .i64 2262), .lit (.int .i64 2228), .lit (.int .i64 2201), .lit (.int .i64 2179), .lit (.int .i64 2160), .lit (.int .i64 2145), .lit (.int .i64 2131), .lit (.int .i64 2120), .lit (.int .i64 2110), .lit (.int .i64 2101), .lit (.int .i64 2093), .lit (.int .i64 2086), .lit (.int .i64 2080), .lit (.int .i64 2074), .lit (.int .i64 2069), .lit (.int .i64 2064), .lit (.int .i64 2060), .lit (.int .i64 2056), .lit (.int .i64 2052), .lit (.int .i64 2048), .lit (.int .i64 2045), .lit (.int .i64 2042)] []

/-- 'simulatorlaw53.RankingAdds': WHATEVER THE INPUT: true; the input reads as it did. -/
def rankingAddsSpec : ChangeSpec := { name := "rankingAdds", fn := fun _ => fun
  | [d1, d2, d3] => { results := [.lit (.bool true)], args := [d1, d2, d3] }
  | _ => none }
def rankingAddsRow : OpenClaim := { program := "ytckmlfboedljeaadoor", sum := "c6342e32ee103b7bc64a0f16eaed929b8a18a07696d9797e5c8e268c262234d8", func := "simulator/simulatorlaw53.RankingAdds", spec := "rankingAdds", inPlace := ["math/bits.Add64", "math/bits.Sub64"], unfollowed := true, recurses := true, named := ["math/bits.divideError", "math/bits.overflowError", "simulator/interval.quantiles"], apart := false, laid := [("simulator/interval.quantiles", laid_simulator_interval_quantiles)] }
def RankingAddsSaid : Prop := rankingAddsRow.holds Tryd.pinned (OpenSpec.ofChange rankingAddsSpec)

/-- ITS FALSE NEIGHBOUR: 'it returns false'. Refute it at one input. -/
def rankingAddsWrong : ChangeSpec := { name := "rankingAdds", fn := fun _ => fun
  | [d1, d2, d3] => { results := [.lit (.bool false)], args := [d1, d2, d3] }
  | _ => none }
def RankingAddsWrongFalsely : Prop := rankingAddsRow.holds Tryd.pinned (OpenSpec.ofChange rankingAddsWrong)

/-- 'simulatorlaw53.RankingStages': WHATEVER THE INPUT: true; the input reads as it did. -/
def rankingStagesSpec : ChangeSpec := { name := "rankingStages", fn := fun _ => fun
  | [d1, d2] => { results := [.lit (.bool true)], args := [d1, d2] }
  | _ => none }
def rankingStagesRow : OpenClaim := { program := "ytckmlfboedljeaadoor", sum := "c6342e32ee103b7bc64a0f16eaed929b8a18a07696d9797e5c8e268c262234d8", func := "simulator/simulatorlaw53.RankingStages", spec := "rankingStages", inPlace := ["math/bits.Add64", "math/bits.Sub64"], unfollowed := true, recurses := true, named := ["math/bits.divideError", "math/bits.overflowError", "simulator/interval.quantiles"], apart := false, laid := [("simulator/interval.quantiles", laid_simulator_interval_quantiles)] }
def RankingStagesSaid : Prop := rankingStagesRow.holds Tryd.pinned (OpenSpec.ofChange rankingStagesSpec)

/-- ITS FALSE NEIGHBOUR: 'it returns false'. Refute it at one input. -/
def rankingStagesWrong : ChangeSpec := { name := "rankingStages", fn := fun _ => fun
  | [d1, d2] => { results := [.lit (.bool false)], args := [d1, d2] }
  | _ => none }
def RankingStagesWrongFalsely : Prop := rankingStagesRow.holds Tryd.pinned (OpenSpec.ofChange rankingStagesWrong)

/-- 'simulatorlaw53.RankingKeeps': WHATEVER THE INPUT: true; the input reads as it did. -/
def rankingKeepsSpec : ChangeSpec := { name := "rankingKeeps", fn := fun _ => fun
  | [d1, d2] => { results := [.lit (.bool true)], args := [d1, d2] }
  | _ => none }
def rankingKeepsRow : OpenClaim := { program := "ytckmlfboedljeaadoor", sum := "c6342e32ee103b7bc64a0f16eaed929b8a18a07696d9797e5c8e268c262234d8", func := "simulator/simulatorlaw53.RankingKeeps", spec := "rankingKeeps", inPlace := ["math/bits.Add64", "math/bits.Sub64"], unfollowed := true, recurses := true, named := ["math/bits.divideError", "math/bits.overflowError", "simulator/interval.quantiles"], apart := false, laid := [("simulator/interval.quantiles", laid_simulator_interval_quantiles)] }
def RankingKeepsSaid : Prop := rankingKeepsRow.holds Tryd.pinned (OpenSpec.ofChange rankingKeepsSpec)

/-- ITS FALSE NEIGHBOUR: 'it returns false'. Refute it at one input. -/
def rankingKeepsWrong : ChangeSpec := { name := "rankingKeeps", fn := fun _ => fun
  | [d1, d2] => { results := [.lit (.bool false)], args := [d1, d2] }
  | _ => none }
def RankingKeepsWrongFalsely : Prop := rankingKeepsRow.holds Tryd.pinned (OpenSpec.ofChange rankingKeepsWrong)

/-- 'simulatorlaw53.RankingMoves': WHATEVER THE INPUT: true; the input reads as it did. -/
def rankingMovesSpec : ChangeSpec := { name := "rankingMoves", fn := fun _ => fun
  | [d1, d2] => { results := [.lit (.bool true)], args := [d1, d2] }
  | _ => none }
def rankingMovesRow : OpenClaim := { program := "ytckmlfboedljeaadoor", sum := "c6342e32ee103b7bc64a0f16eaed929b8a18a07696d9797e5c8e268c262234d8", func := "simulator/simulatorlaw53.RankingMoves", spec := "rankingMoves", inPlace := ["math/bits.Add64", "math/bits.Sub64"], unfollowed := true, recurses := true, named := ["math/bits.divideError", "math/bits.overflowError", "simulator/interval.quantiles"], apart := false, laid := [("simulator/interval.quantiles", laid_simulator_interval_quantiles)] }
def RankingMovesSaid : Prop := rankingMovesRow.holds Tryd.pinned (OpenSpec.ofChange rankingMovesSpec)

/-- ITS FALSE NEIGHBOUR: 'it returns false'. Refute it at one input. -/
def rankingMovesWrong : ChangeSpec := { name := "rankingMoves", fn := fun _ => fun
  | [d1, d2] => { results := [.lit (.bool false)], args := [d1, d2] }
  | _ => none }
def RankingMovesWrongFalsely : Prop := rankingMovesRow.holds Tryd.pinned (OpenSpec.ofChange rankingMovesWrong)

/- THE SECOND FORM. 'bulk': how many values and letters a reading holds, each counted each time it is reached (what is shared counts as often as it is met; a slice's spare places count too). A statement '..UptoSaid' is the law's where the arguments, and the package variables that the reading takes, are together of bulk at most 1048576: NARROWER than '..Said'. Prove '..Said' where nothing that the law and all that it calls make is longer than what came in: it says more and counts as full. Else prove '..UptoSaid'. A law counts once. -/
mutual
def uptoBulk {H : Type} : DataW H → Nat
  | .lit (.string bytes) => bytes.length + 1
  | .lit _ => 1
  | .nil => 1
  | .ptr d => uptoBulk d + 1
  | .slice elems spare => uptoBulkAll elems + uptoBulkAll spare + 1
  | .agg parts => uptoBulkAll parts + 1
  | .iface _ d => uptoBulk d + 1
  | .map entries => uptoBulkEntries entries + 1
  | .held _ => 1
def uptoBulkAll {H : Type} : List (DataW H) → Nat
  | [] => 0
  | d :: r => uptoBulk d + uptoBulkAll r
def uptoBulkEntries {H : Type} : List (Lit × DataW H) → Nat
  | [] => 0
  | x :: r => uptoBulkEntry x + uptoBulkEntries r
def uptoBulkEntry {H : Type} : Lit × DataW H → Nat
  | (.string bytes, d) => bytes.length + uptoBulk d + 1
  | (_, d) => uptoBulk d + 1
 end
def uptoSmall : (H : Type) → List (DataW H) → Bool := fun _ ds => decide (uptoBulkAll ds ≤ 1048576)
def OpenSpec.upto (s : _root_.Go.ChangeSpec) : _root_.Go.OpenSpec := { _root_.Go.OpenSpec.ofChange s with cond := some uptoSmall }

/-- 'simulatorlaw53.RankingAdds', WHERE WHAT IT READS IS OF BULK AT MOST 1048576: true; the input reads as it did. -/
def rankingAddsUptoRow : OpenClaim := { program := "ytckmlfboedljeaadoor", sum := "c6342e32ee103b7bc64a0f16eaed929b8a18a07696d9797e5c8e268c262234d8", func := "simulator/simulatorlaw53.RankingAdds", spec := "rankingAdds", inPlace := ["math/bits.Add64", "math/bits.Sub64"], unfollowed := true, recurses := true, named := ["math/bits.divideError", "math/bits.overflowError", "simulator/interval.quantiles"], apart := false, laid := [("simulator/interval.quantiles", laid_simulator_interval_quantiles)], narrowed := true }
def RankingAddsUptoSaid : Prop := rankingAddsUptoRow.holds Tryd.pinned (OpenSpec.upto rankingAddsSpec)

/-- 'simulatorlaw53.RankingStages', WHERE WHAT IT READS IS OF BULK AT MOST 1048576: true; the input reads as it did. -/
def rankingStagesUptoRow : OpenClaim := { program := "ytckmlfboedljeaadoor", sum := "c6342e32ee103b7bc64a0f16eaed929b8a18a07696d9797e5c8e268c262234d8", func := "simulator/simulatorlaw53.RankingStages", spec := "rankingStages", inPlace := ["math/bits.Add64", "math/bits.Sub64"], unfollowed := true, recurses := true, named := ["math/bits.divideError", "math/bits.overflowError", "simulator/interval.quantiles"], apart := false, laid := [("simulator/interval.quantiles", laid_simulator_interval_quantiles)], narrowed := true }
def RankingStagesUptoSaid : Prop := rankingStagesUptoRow.holds Tryd.pinned (OpenSpec.upto rankingStagesSpec)

/-- 'simulatorlaw53.RankingKeeps', WHERE WHAT IT READS IS OF BULK AT MOST 1048576: true; the input reads as it did. -/
def rankingKeepsUptoRow : OpenClaim := { program := "ytckmlfboedljeaadoor", sum := "c6342e32ee103b7bc64a0f16eaed929b8a18a07696d9797e5c8e268c262234d8", func := "simulator/simulatorlaw53.RankingKeeps", spec := "rankingKeeps", inPlace := ["math/bits.Add64", "math/bits.Sub64"], unfollowed := true, recurses := true, named := ["math/bits.divideError", "math/bits.overflowError", "simulator/interval.quantiles"], apart := false, laid := [("simulator/interval.quantiles", laid_simulator_interval_quantiles)], narrowed := true }
def RankingKeepsUptoSaid : Prop := rankingKeepsUptoRow.holds Tryd.pinned (OpenSpec.upto rankingKeepsSpec)

/-- 'simulatorlaw53.RankingMoves', WHERE WHAT IT READS IS OF BULK AT MOST 1048576: true; the input reads as it did. -/
def rankingMovesUptoRow : OpenClaim := { program := "ytckmlfboedljeaadoor", sum := "c6342e32ee103b7bc64a0f16eaed929b8a18a07696d9797e5c8e268c262234d8", func := "simulator/simulatorlaw53.RankingMoves", spec := "rankingMoves", inPlace := ["math/bits.Add64", "math/bits.Sub64"], unfollowed := true, recurses := true, named := ["math/bits.divideError", "math/bits.overflowError", "simulator/interval.quantiles"], apart := false, laid := [("simulator/interval.quantiles", laid_simulator_interval_quantiles)], narrowed := true }
def RankingMovesUptoSaid : Prop := rankingMovesUptoRow.holds Tryd.pinned (OpenSpec.upto rankingMovesSpec)

end Rows
end Go.Proofs.YtckmlfboedljeaaDoor
