/-
  DERIVED. GIVEN WITH THE SEED: THE CARDS: each row of YtckmlfboedljeaaDoorRows.lean that lists a variable, with what it lists TIED to the program's text (the seventh form; the later family's looks); each row that meets fmt, with fmt's text TOLD by the authors' own Lean function (tested against real Go, not proved from fmt's source: count such statements apart). THE CARD IS WHAT COUNTS. Prove the row's statement (the work); the ties are given (YtckmlfboedljeaaDoorTie.lean); close each card by the builder's one call (the guide's Derived/Test/ToyasCard.lean, 'card_holds'). Laid BY PROGRAM, IN A SANDBOX (cutbox-door.mjs). By AI agents, Wed Nov 11 2026. No macro, syntax, notation, axiom, sorry.
-/
import Derived.Test.YtckmlfboedljeaaDoorRows
import GoSem.ClaimSeven
namespace Go.Proofs.YtckmlfboedljeaaDoor
namespace Rows

/-- THE TIED CARD OF 'simulatorlaw53.RankingAdds'. -/
def rankingAddsCard : Claim7 := { stood := { row := rankingAddsRow, standIns := [], harness := (true, "d57e2b5a32e91bc97e70b421c40c23d9d40d5a2395d1ce413ef3dc2164b788e5"), looks := false }, kinds := [], alts := [], laidByText := true, laidKinds := [.data], laidTests := true, laidLooks := .later }
def RankingAddsCardSaid : Prop := Claim7.holds Tryd.pinned (.plain (OpenSpec.ofChange rankingAddsSpec)) rankingAddsCard

/-- THE TIED CARD OF 'simulatorlaw53.RankingStages'. -/
def rankingStagesCard : Claim7 := { stood := { row := rankingStagesRow, standIns := [], harness := (true, "d57e2b5a32e91bc97e70b421c40c23d9d40d5a2395d1ce413ef3dc2164b788e5"), looks := false }, kinds := [], alts := [], laidByText := true, laidKinds := [.data], laidTests := true, laidLooks := .later }
def RankingStagesCardSaid : Prop := Claim7.holds Tryd.pinned (.plain (OpenSpec.ofChange rankingStagesSpec)) rankingStagesCard

/-- THE TIED CARD OF 'simulatorlaw53.RankingKeeps'. -/
def rankingKeepsCard : Claim7 := { stood := { row := rankingKeepsRow, standIns := [], harness := (true, "d57e2b5a32e91bc97e70b421c40c23d9d40d5a2395d1ce413ef3dc2164b788e5"), looks := false }, kinds := [], alts := [], laidByText := true, laidKinds := [.data], laidTests := true, laidLooks := .later }
def RankingKeepsCardSaid : Prop := Claim7.holds Tryd.pinned (.plain (OpenSpec.ofChange rankingKeepsSpec)) rankingKeepsCard

/-- THE TIED CARD OF 'simulatorlaw53.RankingMoves'. -/
def rankingMovesCard : Claim7 := { stood := { row := rankingMovesRow, standIns := [], harness := (true, "d57e2b5a32e91bc97e70b421c40c23d9d40d5a2395d1ce413ef3dc2164b788e5"), looks := false }, kinds := [], alts := [], laidByText := true, laidKinds := [.data], laidTests := true, laidLooks := .later }
def RankingMovesCardSaid : Prop := Claim7.holds Tryd.pinned (.plain (OpenSpec.ofChange rankingMovesSpec)) rankingMovesCard

/-- THE SECOND FORM's CARD OF 'simulatorlaw53.RankingAdds'. -/
def rankingAddsUptoCard : Claim7 := { stood := { row := rankingAddsUptoRow, standIns := [], harness := (true, "d57e2b5a32e91bc97e70b421c40c23d9d40d5a2395d1ce413ef3dc2164b788e5"), looks := false }, kinds := [], alts := [], laidByText := true, laidKinds := [.data], laidTests := true, laidLooks := .later }
def RankingAddsUptoCardSaid : Prop := Claim7.holds Tryd.pinned (.plain (OpenSpec.upto rankingAddsSpec)) rankingAddsUptoCard

/-- THE SECOND FORM's CARD OF 'simulatorlaw53.RankingStages'. -/
def rankingStagesUptoCard : Claim7 := { stood := { row := rankingStagesUptoRow, standIns := [], harness := (true, "d57e2b5a32e91bc97e70b421c40c23d9d40d5a2395d1ce413ef3dc2164b788e5"), looks := false }, kinds := [], alts := [], laidByText := true, laidKinds := [.data], laidTests := true, laidLooks := .later }
def RankingStagesUptoCardSaid : Prop := Claim7.holds Tryd.pinned (.plain (OpenSpec.upto rankingStagesSpec)) rankingStagesUptoCard

/-- THE SECOND FORM's CARD OF 'simulatorlaw53.RankingKeeps'. -/
def rankingKeepsUptoCard : Claim7 := { stood := { row := rankingKeepsUptoRow, standIns := [], harness := (true, "d57e2b5a32e91bc97e70b421c40c23d9d40d5a2395d1ce413ef3dc2164b788e5"), looks := false }, kinds := [], alts := [], laidByText := true, laidKinds := [.data], laidTests := true, laidLooks := .later }
def RankingKeepsUptoCardSaid : Prop := Claim7.holds Tryd.pinned (.plain (OpenSpec.upto rankingKeepsSpec)) rankingKeepsUptoCard

/-- THE SECOND FORM's CARD OF 'simulatorlaw53.RankingMoves'. -/
def rankingMovesUptoCard : Claim7 := { stood := { row := rankingMovesUptoRow, standIns := [], harness := (true, "d57e2b5a32e91bc97e70b421c40c23d9d40d5a2395d1ce413ef3dc2164b788e5"), looks := false }, kinds := [], alts := [], laidByText := true, laidKinds := [.data], laidTests := true, laidLooks := .later }
def RankingMovesUptoCardSaid : Prop := Claim7.holds Tryd.pinned (.plain (OpenSpec.upto rankingMovesSpec)) rankingMovesUptoCard
end Rows
end Go.Proofs.YtckmlfboedljeaaDoor
