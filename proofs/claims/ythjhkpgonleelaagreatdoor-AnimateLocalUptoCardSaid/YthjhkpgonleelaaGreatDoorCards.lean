/-
  DERIVED. GIVEN WITH THE SEED: THE CARDS: each row of YthjhkpgonleelaaGreatDoorRows.lean that lists a variable, with what it lists TIED to the program's text (the seventh form; the later family's looks); each row that meets fmt, with fmt's text TOLD by the authors' own Lean function (tested against real Go, not proved from fmt's source: count such statements apart). THE CARD IS WHAT COUNTS. Prove the row's statement (the work); the ties are given (YthjhkpgonleelaaGreatDoorTie.lean); close each card by the builder's one call (the guide's Derived/Test/ToyasCard.lean, 'card_holds'). Laid BY PROGRAM, IN A SANDBOX (cutbox-door.mjs). By AI agents, Wed Nov 11 2026. No macro, syntax, notation, axiom, sorry.
-/
import Derived.Test.YthjhkpgonleelaaGreatDoorRows
import GoSem.ClaimSeven
namespace Go.Proofs.YthjhkpgonleelaaGreatDoor
namespace Rows

/-- THE TIED CARD OF 'simulatorlaw44.AnimateDraws'. -/
def animateDrawsCard : Claim7 := { stood := { row := animateDrawsRow, standIns := [], harness := (true, "b4d2bd00f7a522c2164d237efd4cee87fb723fec3dd27210b7aa6a0c123d2325"), looks := false }, kinds := [], alts := [], laidByText := true, laidKinds := [.data, .data, .data, .data], laidTests := true, laidLooks := .later }
def AnimateDrawsCardSaid : Prop := Claim7.holds Tryz.pinned (.plain (OpenSpec.ofChange animateDrawsSpec)) animateDrawsCard

/-- THE TIED CARD OF 'simulatorlaw44.AnimateSeries'. -/
def animateSeriesCard : Claim7 := { stood := { row := animateSeriesRow, standIns := [], harness := (true, "b4d2bd00f7a522c2164d237efd4cee87fb723fec3dd27210b7aa6a0c123d2325"), looks := false }, kinds := [], alts := [], laidByText := true, laidKinds := [.data, .data, .data, .data], laidTests := true, laidLooks := .later }
def AnimateSeriesCardSaid : Prop := Claim7.holds Tryz.pinned (.plain (OpenSpec.ofChange animateSeriesSpec)) animateSeriesCard

/-- THE TIED CARD OF 'simulatorlaw44.AnimateTexts'. -/
def animateTextsCard : Claim7 := { stood := { row := animateTextsRow, standIns := [], harness := (true, "b4d2bd00f7a522c2164d237efd4cee87fb723fec3dd27210b7aa6a0c123d2325"), looks := false }, kinds := [], alts := [], laidByText := true, laidKinds := [.data, .data, .data, .data], laidTests := true, laidLooks := .later }
def AnimateTextsCardSaid : Prop := Claim7.holds Tryz.pinned (.plain (OpenSpec.ofChange animateTextsSpec)) animateTextsCard

/-- THE TIED CARD OF 'simulatorlaw44.AnimateLocal'. -/
def animateLocalCard : Claim7 := { stood := { row := animateLocalRow, standIns := [], harness := (true, "b4d2bd00f7a522c2164d237efd4cee87fb723fec3dd27210b7aa6a0c123d2325"), looks := false }, kinds := [], alts := [], laidByText := true, laidKinds := [.data, .data, .data, .data], laidTests := true, laidLooks := .later }
def AnimateLocalCardSaid : Prop := Claim7.holds Tryz.pinned (.plain (OpenSpec.ofChange animateLocalSpec)) animateLocalCard

/-- THE SECOND FORM's CARD OF 'simulatorlaw44.AnimateDraws'. -/
def animateDrawsUptoCard : Claim7 := { stood := { row := animateDrawsUptoRow, standIns := [], harness := (true, "b4d2bd00f7a522c2164d237efd4cee87fb723fec3dd27210b7aa6a0c123d2325"), looks := false }, kinds := [], alts := [], laidByText := true, laidKinds := [.data, .data, .data, .data], laidTests := true, laidLooks := .later }
def AnimateDrawsUptoCardSaid : Prop := Claim7.holds Tryz.pinned (.plain (OpenSpec.upto animateDrawsSpec)) animateDrawsUptoCard

/-- THE SECOND FORM's CARD OF 'simulatorlaw44.AnimateSeries'. -/
def animateSeriesUptoCard : Claim7 := { stood := { row := animateSeriesUptoRow, standIns := [], harness := (true, "b4d2bd00f7a522c2164d237efd4cee87fb723fec3dd27210b7aa6a0c123d2325"), looks := false }, kinds := [], alts := [], laidByText := true, laidKinds := [.data, .data, .data, .data], laidTests := true, laidLooks := .later }
def AnimateSeriesUptoCardSaid : Prop := Claim7.holds Tryz.pinned (.plain (OpenSpec.upto animateSeriesSpec)) animateSeriesUptoCard

/-- THE SECOND FORM's CARD OF 'simulatorlaw44.AnimateTexts'. -/
def animateTextsUptoCard : Claim7 := { stood := { row := animateTextsUptoRow, standIns := [], harness := (true, "b4d2bd00f7a522c2164d237efd4cee87fb723fec3dd27210b7aa6a0c123d2325"), looks := false }, kinds := [], alts := [], laidByText := true, laidKinds := [.data, .data, .data, .data], laidTests := true, laidLooks := .later }
def AnimateTextsUptoCardSaid : Prop := Claim7.holds Tryz.pinned (.plain (OpenSpec.upto animateTextsSpec)) animateTextsUptoCard

/-- THE SECOND FORM's CARD OF 'simulatorlaw44.AnimateLocal'. -/
def animateLocalUptoCard : Claim7 := { stood := { row := animateLocalUptoRow, standIns := [], harness := (true, "b4d2bd00f7a522c2164d237efd4cee87fb723fec3dd27210b7aa6a0c123d2325"), looks := false }, kinds := [], alts := [], laidByText := true, laidKinds := [.data, .data, .data, .data], laidTests := true, laidLooks := .later }
def AnimateLocalUptoCardSaid : Prop := Claim7.holds Tryz.pinned (.plain (OpenSpec.upto animateLocalSpec)) animateLocalUptoCard
end Rows
end Go.Proofs.YthjhkpgonleelaaGreatDoor
