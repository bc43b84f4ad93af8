/-
  NARROWER THAN 'FOR EVERY INPUT', by the rows' own cells (each row's printed sentence says how): AnimateDraws: loops, laid · AnimateSeries: loops, laid · AnimateTexts: laid · AnimateLocal: loops, laid.
  DERIVED. THE GIVEN ROWS OF THIS SEAT. 4 by the template 'for every input the law returns true; each argument reads behind the call as it read before'; 0 by the template 'total and deterministic' (their statements: YthjhkpgonleelaaGreatDoorTotals.lean).
  GIVEN WITH THE SEED: the statements are not yours to turn. If you find one false, say at which input.
  Laid BY PROGRAM, IN A SANDBOX (cutbox-rows.mjs): the forced cells as the released guide's own fill.sh prints them over the translation 177fae6e22030e7f… (all of the seat's roots in one cut). By AI agents, Wed Nov 11 2026. No macro, syntax, notation, axiom, sorry.
-/
import Derived.Test.YthjhkpgonleelaaGreatDoorChecked
import GoSem.Claim
import GoSem.ClaimJoined
import GoSem.ClaimMapViews
import Derived.JoinedTies
import Derived.KernelRfl
namespace Go.Proofs.YthjhkpgonleelaaGreatDoor
/- THE CELL 'sum', in the pinned program and in every row, IS THE sha256 OF THE DUMP (.gsa) THAT YthjhkpgonleelaaGreatDoorProg.lean LOADS. Nothing in Lean hashes anything: it is a label: what it is worth is what the hold of that sum in a sandbox is worth. -/
noncomputable def Tryz.pinned : Pinned := { name := "ythjhkpgonleelaagreatdoor", sum := "177fae6e22030e7f3cd8768c105e97eac5045b3d5a546d0d91bbac8c708ae5fb", checked := Tryz.checked }
namespace Rows
def none {H : Type} : Left H := { results := [], args := [] }

/- WHAT THE LISTED PACKAGE-LEVEL VARIABLES READ AS WHEN THE CALL BEGINS. Each datum BY PROGRAM (the guide's laid-datum.mjs) off the statement by which the dump's own 'gosem.cut.vars' lays the variable. In a bare row this is a premise. The card (YthjhkpgonleelaaGreatDoorCards.lean) ties it to the program's text. -/
def laid_math_bits_deBruijn32tab {H : Type} : DataW H := .agg [.lit (.int .u8 0), .lit (.int .u8 1), .lit (.int .u8 28), .lit (.int .u8 2), .lit (.int .u8 29), .lit (.int .u8 14), .lit (.int .u8 24), .lit (.int .u8 3), .lit (.int .u8 30), .lit (.int .u8 22), .lit (.int .u8 20), .lit (.int .u8 15), .lit (.int .u8 25), .lit (.int .u8 17), .lit (.int .u8 4), .lit (.int .u8 8), .lit (.int .u8 31), .lit (.int .u8 27), .lit (.int .u8 13), .lit (.int .u8 23), .lit (.int .u8 21), .lit (.int .u8 19), .lit (.int .u8 16), .lit (.int .u8 7), .lit (.int .u8 26), .lit (.int .u8 12), .lit (.int .u8 18), .lit (.int .u8 6), .lit (.int .u8 11), .lit (.int .u8 5), .lit (.int .u8 10), .lit (.int .u8 9)]
def laid_math_bits_deBruijn64tab {H : Type} : DataW H := .agg [.lit (.int .u8 0), .lit (.int .u8 1), .lit (.int .u8 56), .lit (.int .u8 2), .lit (.int .u8 57), .lit (.int .u8 49), .lit (.int .u8 28), .lit (.int .u8 3), .lit (.int .u8 61), .lit (.int .u8 58), .lit (.int .u8 42), .lit (.int .u8 50), .lit (.int .u8 38), .lit (.int .u8 29), .lit (.int .u8 17), .lit (.int .u8 4), .lit (.int .u8 62), .lit (.int .u8 47), .lit (.int .u8 59), .lit (.int .u8 36), .lit (.int .u8 45), .lit (.int .u8 43), .lit (.int .u8 51), .lit (.int .u8 22), .lit (.int .u8 53), .lit (.int .u8 39), .lit (.int .u8 33), .lit (.int .u8 30), .lit (.int .u8 24), .lit (.int .u8 18), .lit (.int .u8 12), .lit (.int .u8 5), .lit (.int .u8 63), .lit (.int .u8 55), .lit (.int .u8 48), .lit (.int .u8 27), .lit (.int .u8 60), .lit (.int .u8 41), .lit (.int .u8 37), .lit (.int .u8 16), .lit (.int .u8 46), .lit (.int .u8 35), .lit (.int .u8 44), .lit (.int .u8 21), .lit (.int .u8 52), .lit (.int .u8 32), .lit (.int .u8 23), .lit (.int .u8 11), .lit (.int .u8 54), .lit (.int .u8 26), .lit (.int .u8 40), .lit (.int .u8 15), .lit (.int .u8 34), .lit (.int .u8 20), .lit (.int .u8 31), .lit (.int .u8 10), .lit (.int .u8 25), .lit (.int .u8 14), .lit (.int .u8 19), .lit (.int .u8 9), .lit (.int .u8 13), .lit (.int .u8 8), .lit (.int .u8 7), .lit (.int .u8 6)]
def laid_internal_strconv_uint64pow10 {H : Type} : DataW H := .agg [.lit (.int .u64 1), .lit (.int .u64 10), .lit (.int .u64 100), .lit (.int .u64 1000), .lit (.int .u64 10000), .lit (.int .u64 100000), .lit (.int .u64 1000000), .lit (.int .u64 10000000), .lit (.int .u64 100000000), .lit (.int .u64 1000000000), .lit (.int .u64 10000000000), .lit (.int .u64 100000000000), .lit (.int .u64 1000000000000), .lit (.int .u64 10000000000000), .lit (.int .u64 100000000000000), .lit (.int .u64 1000000000000000), .lit (.int .u64 10000000000000000), .lit (.int .u64 100000000000000000), .lit (.int .u64 1000000000000000000), .lit (.int .u64 10000000000000000000)]
def laid_simulator_code_forms {H : Type} : DataW H := .slice [.agg [.lit (.string []), .lit (.int .i64 0), .lit (.int .i64 0), .lit (.bool false), .lit (.bool false), .lit (.bool false), .lit (.bool false), .lit (.bool false), .lit (.bool false)], .agg [.lit (.string [115, 108, 111, 116]), .lit (.int .i64 1), .lit (.int .i64 0), .lit (.bool false), .lit (.bool true), .lit (.bool false), .lit (.bool false), .lit (.bool false), .lit (.bool false)], .agg [.lit (.string [118, 97, 114]), .lit (.int .i64 2), .lit (.int .i64 0), .lit (.bool false), .lit (.bool true), .lit (.bool false), .lit (.bool false), .lit (.bool false), .lit (.bool false)], .agg [.lit (.string [100, 114, 97, 119]), .lit (.int .i64 1), .lit (.int .i64 3), .lit (.bool false), .lit (.bool false), .lit (.bool false), .lit (.bool false), .lit (.bool true), .lit (.bool false)], .agg [.lit (.string [106, 117, 109, 112]), .lit (.int .i64 4), .lit (.int .i64 0), .lit (.bool false), .lit (.bool false), .lit (.bool false), .lit (.bool false), .lit (.bool false), .lit (.bool false)], .agg [.lit (.string [98, 114, 97, 110, 99, 104]), .lit (.int .i64 4), .lit (.int .i64 0), .lit (.bool false), .lit (.bool true), .lit (.bool false), .lit (.bool false), .lit (.bool false), .lit (.bool false)], .agg [.lit (.string [104, 111, 108, 100]), .lit (.int .i64 0), .lit (.int .i64 0), .lit (.bool false), .lit (.bool true), .lit (.bool false), .lit (.bool false), .lit (.bool false), .lit (.bool false)], .agg [.lit (.string [115, 101, 105, 122, 101]), .lit (.int .i64 5), .lit (.int .i64 0), .lit (.bool false), .lit (.bool true), .lit (.bool true), .lit (.bool false), .lit (.bool false), .lit (.bool true)], .agg [.lit (.string [114, 101, 108, 101, 97, 115, 101]), .lit (.int .i64 5), .lit (.int .i64 0), .lit (.bool false), .lit (.bool true), .lit (.bool false), .lit (.bool false), .lit (.bool false), .lit (.bool false)], .agg [.lit (.string [112, 117, 116]), .lit (.int .i64 6), .lit (.int .i64 0), .lit (.bool false), .lit (.bool true), .lit (.bool false), .lit (.bool false), .lit (.bool false), .lit (.bool false)], .agg [.lit (.string [103, 101, 116]), .lit (.int .i64 6), .lit (.int .i64 1), .lit (.bool false), .lit (.bool false), .lit (.bool false), .lit (.bool false), .lit (.bool false), .lit (.bool false)], .agg [.lit (.string [114, 105, 100, 101]), .lit (.int .i64 7), .lit (.int .i64 0), .lit (.bool false), .lit (.bool false), .lit (.bool false), .lit (.bool false), .lit (.bool false), .lit (.bool false)], .agg [.lit (.string [119, 97, 105, 116]), .lit (.int .i64 8), .lit (.int .i64 0), .lit (.bool false), .lit (.bool false), .lit (.bool false), .lit (.bool false), .lit (.bool false), .lit (.bool false)], .agg [.lit (.string [115, 105, 103, 110, 97, 108]), .lit (.int .i64 8), .lit (.int .i64 0), .lit (.bool false), .lit (.bool true), .lit (.bool false), .lit (.bool false), .lit (.bool false), .lit (.bool false)], .agg [.lit (.string [115, 101, 110, 100]), .lit (.int .i64 9), .lit (.int .i64 10), .lit (.bool true), .lit (.bool true), .lit (.bool false), .lit (.bool true), .lit (.bool false), .lit (.bool false)], .agg [.lit (.string [115, 112, 97, 119, 110]), .lit (.int .i64 0), .lit (.int .i64 10), .lit (.bool false), .lit (.bool true), .lit (.bool false), .lit (.bool true), .lit (.bool false), .lit (.bool false)], .agg [.lit (.string [111, 98, 115, 101, 114, 118, 101]), .lit (.int .i64 11), .lit (.int .i64 0), .lit (.bool false), .lit (.bool true), .lit (.bool false), .lit (.bool false), .lit (.bool false), .lit (.bool false)], .agg [.lit (.string [108, 101, 118, 101, 108]), .lit (.int .i64 12), .lit (.int .i64 0), .lit (.bool false), .lit (.bool true), .lit (.bool false), .lit (.bool false), .lit (.bool false), .lit (.bool false)], .agg [.lit (.string [99, 111, 117, 110, 116]), .lit (.int .i64 13), .lit (.int .i64 0), .lit (.bool false), .lit (.bool true), .lit (.bool false), .lit (.bool false), .lit (.bool false), .lit (.bool false)], .agg [.lit (.string [101, 110, 100]), .lit (.int .i64 0), .lit (.int .i64 0), .lit (.bool false), .lit (.bool false), .lit (.bool false), .lit (.bool false), .lit (.bool false), .lit (.bool false)]] []

/-- 'simulatorlaw44.AnimateDraws': WHATEVER THE INPUT: true; the input reads as it did. -/
def animateDrawsSpec : ChangeSpec := { name := "animateDraws", fn := fun _ => fun
  | [d] => { results := [.lit (.bool true)], args := [d] }
  | _ => none }
def animateDrawsRow : OpenClaim := { program := "ythjhkpgonleelaagreatdoor", sum := "177fae6e22030e7f3cd8768c105e97eac5045b3d5a546d0d91bbac8c708ae5fb", func := "simulator/simulatorlaw44.AnimateDraws", spec := "animateDraws", unfollowed := true, recurses := true, named := ["simulator/code.forms", "internal/strconv.uint64pow10", "math/bits.deBruijn32tab", "math/bits.deBruijn64tab"], loops := true, plainKeys := false, apart := false, laid := [("math/bits.deBruijn32tab", laid_math_bits_deBruijn32tab), ("math/bits.deBruijn64tab", laid_math_bits_deBruijn64tab), ("internal/strconv.uint64pow10", laid_internal_strconv_uint64pow10), ("simulator/code.forms", laid_simulator_code_forms)] }
def AnimateDrawsSaid : Prop := animateDrawsRow.holds Tryz.pinned (OpenSpec.ofChange animateDrawsSpec)

/-- ITS FALSE NEIGHBOUR: 'it returns false'. Refute it at one input. -/
def animateDrawsWrong : ChangeSpec := { name := "animateDraws", fn := fun _ => fun
  | [d] => { results := [.lit (.bool false)], args := [d] }
  | _ => none }
def AnimateDrawsWrongFalsely : Prop := animateDrawsRow.holds Tryz.pinned (OpenSpec.ofChange animateDrawsWrong)

/-- 'simulatorlaw44.AnimateSeries': WHATEVER THE INPUT: true; the input reads as it did. -/
def animateSeriesSpec : ChangeSpec := { name := "animateSeries", fn := fun _ => fun
  | [d] => { results := [.lit (.bool true)], args := [d] }
  | _ => none }
def animateSeriesRow : OpenClaim := { program := "ythjhkpgonleelaagreatdoor", sum := "177fae6e22030e7f3cd8768c105e97eac5045b3d5a546d0d91bbac8c708ae5fb", func := "simulator/simulatorlaw44.AnimateSeries", spec := "animateSeries", unfollowed := true, recurses := true, named := ["simulator/code.forms", "internal/strconv.uint64pow10", "math/bits.deBruijn32tab", "math/bits.deBruijn64tab"], loops := true, plainKeys := false, apart := false, laid := [("math/bits.deBruijn32tab", laid_math_bits_deBruijn32tab), ("math/bits.deBruijn64tab", laid_math_bits_deBruijn64tab), ("internal/strconv.uint64pow10", laid_internal_strconv_uint64pow10), ("simulator/code.forms", laid_simulator_code_forms)] }
def AnimateSeriesSaid : Prop := animateSeriesRow.holds Tryz.pinned (OpenSpec.ofChange animateSeriesSpec)

/-- ITS FALSE NEIGHBOUR: 'it returns false'. Refute it at one input. -/
def animateSeriesWrong : ChangeSpec := { name := "animateSeries", fn := fun _ => fun
  | [d] => { results := [.lit (.bool false)], args := [d] }
  | _ => none }
def AnimateSeriesWrongFalsely : Prop := animateSeriesRow.holds Tryz.pinned (OpenSpec.ofChange animateSeriesWrong)

/-- 'simulatorlaw44.AnimateTexts': WHATEVER THE INPUT: true; the input reads as it did. -/
def animateTextsSpec : ChangeSpec := { name := "animateTexts", fn := fun _ => fun
  | [d1, d2] => { results := [.lit (.bool true)], args := [d1, d2] }
  | _ => none }
def animateTextsRow : OpenClaim := { program := "ythjhkpgonleelaagreatdoor", sum := "177fae6e22030e7f3cd8768c105e97eac5045b3d5a546d0d91bbac8c708ae5fb", func := "simulator/simulatorlaw44.AnimateTexts", spec := "animateTexts", unfollowed := true, recurses := true, named := ["simulator/code.forms", "internal/strconv.uint64pow10", "math/bits.deBruijn32tab", "math/bits.deBruijn64tab"], plainKeys := false, apart := false, laid := [("math/bits.deBruijn32tab", laid_math_bits_deBruijn32tab), ("math/bits.deBruijn64tab", laid_math_bits_deBruijn64tab), ("internal/strconv.uint64pow10", laid_internal_strconv_uint64pow10), ("simulator/code.forms", laid_simulator_code_forms)] }
def AnimateTextsSaid : Prop := animateTextsRow.holds Tryz.pinned (OpenSpec.ofChange animateTextsSpec)

/-- ITS FALSE NEIGHBOUR: 'it returns false'. Refute it at one input. -/
def animateTextsWrong : ChangeSpec := { name := "animateTexts", fn := fun _ => fun
  | [d1, d2] => { results := [.lit (.bool false)], args := [d1, d2] }
  | _ => none }
def AnimateTextsWrongFalsely : Prop := animateTextsRow.holds Tryz.pinned (OpenSpec.ofChange animateTextsWrong)

/-- 'simulatorlaw44.AnimateLocal': WHATEVER THE INPUT: true; the input reads as it did. -/
def animateLocalSpec : ChangeSpec := { name := "animateLocal", fn := fun _ => fun
  | [d1, d2, d3] => { results := [.lit (.bool true)], args := [d1, d2, d3] }
  | _ => none }
def animateLocalRow : OpenClaim := { program := "ythjhkpgonleelaagreatdoor", sum := "177fae6e22030e7f3cd8768c105e97eac5045b3d5a546d0d91bbac8c708ae5fb", func := "simulator/simulatorlaw44.AnimateLocal", spec := "animateLocal", unfollowed := true, recurses := true, named := ["simulator/code.forms", "internal/strconv.uint64pow10", "math/bits.deBruijn32tab", "math/bits.deBruijn64tab"], loops := true, plainKeys := false, apart := false, laid := [("math/bits.deBruijn32tab", laid_math_bits_deBruijn32tab), ("math/bits.deBruijn64tab", laid_math_bits_deBruijn64tab), ("internal/strconv.uint64pow10", laid_internal_strconv_uint64pow10), ("simulator/code.forms", laid_simulator_code_forms)] }
def AnimateLocalSaid : Prop := animateLocalRow.holds Tryz.pinned (OpenSpec.ofChange animateLocalSpec)

/-- ITS FALSE NEIGHBOUR: 'it returns false'. Refute it at one input. -/
def animateLocalWrong : ChangeSpec := { name := "animateLocal", fn := fun _ => fun
  | [d1, d2, d3] => { results := [.lit (.bool false)], args := [d1, d2, d3] }
  | _ => none }
def AnimateLocalWrongFalsely : Prop := animateLocalRow.holds Tryz.pinned (OpenSpec.ofChange animateLocalWrong)

/- THE SECOND FORM. 'bulk': how many values and letters a reading holds, each counted each time it is reached (what is shared counts as often as it is met; a slice's spare places count too). A statement '..UptoSaid' is the law's where the arguments, and the package variables that the reading takes, are together of bulk at most 1048576: NARROWER than '..Said'. Prove '..Said' where nothing that the law and all that it calls make is longer than what came in: it says more and counts as full. Else prove '..UptoSaid'. A law counts once. -/
mutual
def uptoBulk {H : Type} : DataW H → Nat
  | .lit (.string bytes) => bytes.length + 1
  | .lit _ => 1
  | .nil => 1
  | .ptr d => uptoBulk d + 1
  | .slice elems spare => uptoBulkAll elems + uptoBulkAll spare + 1
  | .agg parts => uptoBulkAll parts + 1
  | .iface _ d => uptoBulk d + 1
  | .map entries => uptoBulkEntries entries + 1
  | .held _ => 1
def uptoBulkAll {H : Type} : List (DataW H) → Nat
  | [] => 0
  | d :: r => uptoBulk d + uptoBulkAll r
def uptoBulkEntries {H : Type} : List (Lit × DataW H) → Nat
  | [] => 0
  | x :: r => uptoBulkEntry x + uptoBulkEntries r
def uptoBulkEntry {H : Type} : Lit × DataW H → Nat
  | (.string bytes, d) => bytes.length + uptoBulk d + 1
  | (_, d) => uptoBulk d + 1
 end
def uptoSmall : (H : Type) → List (DataW H) → Bool := fun _ ds => decide (uptoBulkAll ds ≤ 1048576)
def OpenSpec.upto (s : _root_.Go.ChangeSpec) : _root_.Go.OpenSpec := { _root_.Go.OpenSpec.ofChange s with cond := some uptoSmall }

/-- 'simulatorlaw44.AnimateDraws', WHERE WHAT IT READS IS OF BULK AT MOST 1048576: true; the input reads as it did. -/
def animateDrawsUptoRow : OpenClaim := { program := "ythjhkpgonleelaagreatdoor", sum := "177fae6e22030e7f3cd8768c105e97eac5045b3d5a546d0d91bbac8c708ae5fb", func := "simulator/simulatorlaw44.AnimateDraws", spec := "animateDraws", unfollowed := true, recurses := true, named := ["simulator/code.forms", "internal/strconv.uint64pow10", "math/bits.deBruijn32tab", "math/bits.deBruijn64tab"], loops := true, plainKeys := false, apart := false, laid := [("math/bits.deBruijn32tab", laid_math_bits_deBruijn32tab), ("math/bits.deBruijn64tab", laid_math_bits_deBruijn64tab), ("internal/strconv.uint64pow10", laid_internal_strconv_uint64pow10), ("simulator/code.forms", laid_simulator_code_forms)], narrowed := true }
def AnimateDrawsUptoSaid : Prop := animateDrawsUptoRow.holds Tryz.pinned (OpenSpec.upto animateDrawsSpec)

/-- 'simulatorlaw44.AnimateSeries', WHERE WHAT IT READS IS OF BULK AT MOST 1048576: true; the input reads as it did. -/
def animateSeriesUptoRow : OpenClaim := { program := "ythjhkpgonleelaagreatdoor", sum := "177fae6e22030e7f3cd8768c105e97eac5045b3d5a546d0d91bbac8c708ae5fb", func := "simulator/simulatorlaw44.AnimateSeries", spec := "animateSeries", unfollowed := true, recurses := true, named := ["simulator/code.forms", "internal/strconv.uint64pow10", "math/bits.deBruijn32tab", "math/bits.deBruijn64tab"], loops := true, plainKeys := false, apart := false, laid := [("math/bits.deBruijn32tab", laid_math_bits_deBruijn32tab), ("math/bits.deBruijn64tab", laid_math_bits_deBruijn64tab), ("internal/strconv.uint64pow10", laid_internal_strconv_uint64pow10), ("simulator/code.forms", laid_simulator_code_forms)], narrowed := true }
def AnimateSeriesUptoSaid : Prop := animateSeriesUptoRow.holds Tryz.pinned (OpenSpec.upto animateSeriesSpec)

/-- 'simulatorlaw44.AnimateTexts', WHERE WHAT IT READS IS OF BULK AT MOST 1048576: true; the input reads as it did. -/
def animateTextsUptoRow : OpenClaim := { program := "ythjhkpgonleelaagreatdoor", sum := "177fae6e22030e7f3cd8768c105e97eac5045b3d5a546d0d91bbac8c708ae5fb", func := "simulator/simulatorlaw44.AnimateTexts", spec := "animateTexts", unfollowed := true, recurses := true, named := ["simulator/code.forms", "internal/strconv.uint64pow10", "math/bits.deBruijn32tab", "math/bits.deBruijn64tab"], plainKeys := false, apart := false, laid := [("math/bits.deBruijn32tab", laid_math_bits_deBruijn32tab), ("math/bits.deBruijn64tab", laid_math_bits_deBruijn64tab), ("internal/strconv.uint64pow10", laid_internal_strconv_uint64pow10), ("simulator/code.forms", laid_simulator_code_forms)], narrowed := true }
def AnimateTextsUptoSaid : Prop := animateTextsUptoRow.holds Tryz.pinned (OpenSpec.upto animateTextsSpec)

/-- 'simulatorlaw44.AnimateLocal', WHERE WHAT IT READS IS OF BULK AT MOST 1048576: true; the input reads as it did. -/
def animateLocalUptoRow : OpenClaim := { program := "ythjhkpgonleelaagreatdoor", sum := "177fae6e22030e7f3cd8768c105e97eac5045b3d5a546d0d91bbac8c708ae5fb", func := "simulator/simulatorlaw44.AnimateLocal", spec := "animateLocal", unfollowed := true, recurses := true, named := ["simulator/code.forms", "internal/strconv.uint64pow10", "math/bits.deBruijn32tab", "math/bits.deBruijn64tab"], loops := true, plainKeys := false, apart := false, laid := [("math/bits.deBruijn32tab", laid_math_bits_deBruijn32tab), ("math/bits.deBruijn64tab", laid_math_bits_deBruijn64tab), ("internal/strconv.uint64pow10", laid_internal_strconv_uint64pow10), ("simulator/code.forms", laid_simulator_code_forms)], narrowed := true }
def AnimateLocalUptoSaid : Prop := animateLocalUptoRow.holds Tryz.pinned (OpenSpec.upto animateLocalSpec)

end Rows
end Go.Proofs.YthjhkpgonleelaaGreatDoor
