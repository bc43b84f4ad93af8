/-
  DERIVED. GIVEN WITH THE SEED: THE CARDS: each row of YtpdlcbmnmeihoaaGreatDoorRows.lean that lists a variable, with what it lists TIED to the program's text (the seventh form; the later family's looks); each row that meets fmt, with fmt's text TOLD by the authors' own Lean function (tested against real Go, not proved from fmt's source: count such statements apart). THE CARD IS WHAT COUNTS. Prove the row's statement (the work); the ties are given (YtpdlcbmnmeihoaaGreatDoorTie.lean); close each card by the builder's one call (the guide's Derived/Test/ToyasCard.lean, 'card_holds'). Laid BY PROGRAM, IN A SANDBOX (cutbox-door.mjs). By AI agents, Wed Nov 11 2026. No macro, syntax, notation, axiom, sorry.
-/
import Derived.Test.YtpdlcbmnmeihoaaGreatDoorRows
import GoSem.ClaimSeven
namespace Go.Proofs.YtpdlcbmnmeihoaaGreatDoor
namespace Rows

/-- THE TIED CARD OF 'simulatorlaw45.CheckpointSaves'. -/
def checkpointSavesCard : Claim7 := { stood := { row := checkpointSavesRow, standIns := [], harness := (true, "9ad3c8d3ffb98d1314b2e06b0edd414977798c7ffab4958814599c17a852ba8a"), looks := false }, kinds := [], alts := [], laidByText := true, laidKinds := [.data], laidTests := true, laidLooks := .later }
def CheckpointSavesCardSaid : Prop := Claim7.holds Tryz.pinned (.plain (OpenSpec.ofChange checkpointSavesSpec)) checkpointSavesCard

/-- THE TIED CARD OF 'simulatorlaw45.CheckpointLoads'. -/
def checkpointLoadsCard : Claim7 := { stood := { row := checkpointLoadsRow, standIns := [], harness := (true, "9ad3c8d3ffb98d1314b2e06b0edd414977798c7ffab4958814599c17a852ba8a"), looks := false }, kinds := [], alts := [], laidByText := true, laidKinds := [.data], laidTests := true, laidLooks := .later }
def CheckpointLoadsCardSaid : Prop := Claim7.holds Tryz.pinned (.plain (OpenSpec.ofChange checkpointLoadsSpec)) checkpointLoadsCard

/-- THE TIED CARD OF 'simulatorlaw45.CheckpointForms'. -/
def checkpointFormsCard : Claim7 := { stood := { row := checkpointFormsRow, standIns := [], harness := (true, "9ad3c8d3ffb98d1314b2e06b0edd414977798c7ffab4958814599c17a852ba8a"), looks := false }, kinds := [], alts := [], laidByText := true, laidKinds := [.data], laidTests := true, laidLooks := .later }
def CheckpointFormsCardSaid : Prop := Claim7.holds Tryz.pinned (.plain (OpenSpec.ofChange checkpointFormsSpec)) checkpointFormsCard

/-- THE TIED CARD OF 'simulatorlaw45.CheckpointReturns'. -/
def checkpointReturnsCard : Claim7 := { stood := { row := checkpointReturnsRow, standIns := [], harness := (true, "9ad3c8d3ffb98d1314b2e06b0edd414977798c7ffab4958814599c17a852ba8a"), looks := false }, kinds := [], alts := [], laidByText := true, laidKinds := [.data], laidTests := true, laidLooks := .later }
def CheckpointReturnsCardSaid : Prop := Claim7.holds Tryz.pinned (.plain (OpenSpec.ofChange checkpointReturnsSpec)) checkpointReturnsCard

/-- THE TIED CARD OF 'simulatorlaw45.CheckpointBreaks'. -/
def checkpointBreaksCard : Claim7 := { stood := { row := checkpointBreaksRow, standIns := [], harness := (true, "9ad3c8d3ffb98d1314b2e06b0edd414977798c7ffab4958814599c17a852ba8a"), looks := false }, kinds := [], alts := [], laidByText := true, laidKinds := [.data], laidTests := true, laidLooks := .later }
def CheckpointBreaksCardSaid : Prop := Claim7.holds Tryz.pinned (.plain (OpenSpec.ofChange checkpointBreaksSpec)) checkpointBreaksCard

/-- THE SECOND FORM's CARD OF 'simulatorlaw45.CheckpointSaves'. -/
def checkpointSavesUptoCard : Claim7 := { stood := { row := checkpointSavesUptoRow, standIns := [], harness := (true, "9ad3c8d3ffb98d1314b2e06b0edd414977798c7ffab4958814599c17a852ba8a"), looks := false }, kinds := [], alts := [], laidByText := true, laidKinds := [.data], laidTests := true, laidLooks := .later }
def CheckpointSavesUptoCardSaid : Prop := Claim7.holds Tryz.pinned (.plain (OpenSpec.upto checkpointSavesSpec)) checkpointSavesUptoCard

/-- THE SECOND FORM's CARD OF 'simulatorlaw45.CheckpointLoads'. -/
def checkpointLoadsUptoCard : Claim7 := { stood := { row := checkpointLoadsUptoRow, standIns := [], harness := (true, "9ad3c8d3ffb98d1314b2e06b0edd414977798c7ffab4958814599c17a852ba8a"), looks := false }, kinds := [], alts := [], laidByText := true, laidKinds := [.data], laidTests := true, laidLooks := .later }
def CheckpointLoadsUptoCardSaid : Prop := Claim7.holds Tryz.pinned (.plain (OpenSpec.upto checkpointLoadsSpec)) checkpointLoadsUptoCard

/-- THE SECOND FORM's CARD OF 'simulatorlaw45.CheckpointForms'. -/
def checkpointFormsUptoCard : Claim7 := { stood := { row := checkpointFormsUptoRow, standIns := [], harness := (true, "9ad3c8d3ffb98d1314b2e06b0edd414977798c7ffab4958814599c17a852ba8a"), looks := false }, kinds := [], alts := [], laidByText := true, laidKinds := [.data], laidTests := true, laidLooks := .later }
def CheckpointFormsUptoCardSaid : Prop := Claim7.holds Tryz.pinned (.plain (OpenSpec.upto checkpointFormsSpec)) checkpointFormsUptoCard

/-- THE SECOND FORM's CARD OF 'simulatorlaw45.CheckpointReturns'. -/
def checkpointReturnsUptoCard : Claim7 := { stood := { row := checkpointReturnsUptoRow, standIns := [], harness := (true, "9ad3c8d3ffb98d1314b2e06b0edd414977798c7ffab4958814599c17a852ba8a"), looks := false }, kinds := [], alts := [], laidByText := true, laidKinds := [.data], laidTests := true, laidLooks := .later }
def CheckpointReturnsUptoCardSaid : Prop := Claim7.holds Tryz.pinned (.plain (OpenSpec.upto checkpointReturnsSpec)) checkpointReturnsUptoCard

/-- THE SECOND FORM's CARD OF 'simulatorlaw45.CheckpointBreaks'. -/
def checkpointBreaksUptoCard : Claim7 := { stood := { row := checkpointBreaksUptoRow, standIns := [], harness := (true, "9ad3c8d3ffb98d1314b2e06b0edd414977798c7ffab4958814599c17a852ba8a"), looks := false }, kinds := [], alts := [], laidByText := true, laidKinds := [.data], laidTests := true, laidLooks := .later }
def CheckpointBreaksUptoCardSaid : Prop := Claim7.holds Tryz.pinned (.plain (OpenSpec.upto checkpointBreaksSpec)) checkpointBreaksUptoCard
end Rows
end Go.Proofs.YtpdlcbmnmeihoaaGreatDoor
