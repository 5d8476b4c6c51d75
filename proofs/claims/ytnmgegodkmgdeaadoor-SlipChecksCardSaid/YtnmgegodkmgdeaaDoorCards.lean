/-
  DERIVED. GIVEN WITH THE SEED: THE CARDS: each row of YtnmgegodkmgdeaaDoorRows.lean that lists a variable, with what it lists TIED to the program's text (the seventh form; the later family's looks); each row that meets fmt, with fmt's text TOLD by the authors' own Lean function (tested against real Go, not proved from fmt's source: count such statements apart). THE CARD IS WHAT COUNTS. Prove the row's statement (the work); the ties are given (YtnmgegodkmgdeaaDoorTie.lean); close each card by the builder's one call (the guide's Derived/Test/ToyasCard.lean, 'card_holds'). Laid BY PROGRAM, IN A SANDBOX (cutbox-door.mjs). By AI agents, Wed Nov 11 2026. No macro, syntax, notation, axiom, sorry.
-/
import Derived.Test.YtnmgegodkmgdeaaDoorRows
import GoSem.ClaimSeven
namespace Go.Proofs.YtnmgegodkmgdeaaDoor
namespace Rows

/-- THE TIED CARD OF 'caulkworkslaw07.SlipTells'. -/
def slipTellsCard : Claim7 := { stood := { row := slipTellsRow, standIns := [], harness := (true, "35477dcbd51abce31e2037b7b22eab23991c623f17c820fe62b7e760d96395d7"), looks := true }, kinds := [], alts := [], laidByText := true, laidKinds := [.data, .data], laidTests := true, laidLooks := .later }
def SlipTellsCardSaid : Prop := Claim7.holds Tryd.pinned (.plain (OpenSpec.ofChange slipTellsSpec)) slipTellsCard

/-- THE TIED CARD OF 'caulkworkslaw07.SlipPlans'. -/
def slipPlansCard : Claim7 := { stood := { row := slipPlansRow, standIns := [], harness := (true, "35477dcbd51abce31e2037b7b22eab23991c623f17c820fe62b7e760d96395d7"), looks := true }, kinds := [], alts := [], laidByText := true, laidKinds := [.data, .data], laidTests := true, laidLooks := .later }
def SlipPlansCardSaid : Prop := Claim7.holds Tryd.pinned (.plain (OpenSpec.ofChange slipPlansSpec)) slipPlansCard

/-- THE TIED CARD OF 'caulkworkslaw07.SlipNames'. -/
def slipNamesCard : Claim7 := { stood := { row := slipNamesRow, standIns := [], harness := (true, "35477dcbd51abce31e2037b7b22eab23991c623f17c820fe62b7e760d96395d7"), looks := true }, kinds := [], alts := [], laidByText := true, laidKinds := [.data, .data], laidTests := true, laidLooks := .later }
def SlipNamesCardSaid : Prop := Claim7.holds Tryd.pinned (.plain (OpenSpec.ofChange slipNamesSpec)) slipNamesCard

/-- THE TIED CARD OF 'caulkworkslaw07.SlipTrue'. -/
def slipTrueCard : Claim7 := { stood := { row := slipTrueRow, standIns := [], harness := (true, "35477dcbd51abce31e2037b7b22eab23991c623f17c820fe62b7e760d96395d7"), looks := true }, kinds := [], alts := [], laidByText := true, laidKinds := [.data, .data], laidTests := true, laidLooks := .later }
def SlipTrueCardSaid : Prop := Claim7.holds Tryd.pinned (.plain (OpenSpec.ofChange slipTrueSpec)) slipTrueCard

/-- THE TIED CARD OF 'caulkworkslaw07.SlipChecks'. -/
def slipChecksCard : Claim7 := { stood := { row := slipChecksRow, standIns := [], harness := (true, "35477dcbd51abce31e2037b7b22eab23991c623f17c820fe62b7e760d96395d7"), looks := true }, kinds := [], alts := [], laidByText := true, laidKinds := [.data, .data], laidTests := true, laidLooks := .later }
def SlipChecksCardSaid : Prop := Claim7.holds Tryd.pinned (.plain (OpenSpec.ofChange slipChecksSpec)) slipChecksCard

/-- THE TIED CARD OF 'caulkworkslaw07.SlipBest'. -/
def slipBestCard : Claim7 := { stood := { row := slipBestRow, standIns := [], harness := (true, "35477dcbd51abce31e2037b7b22eab23991c623f17c820fe62b7e760d96395d7"), looks := true }, kinds := [], alts := [], laidByText := true, laidKinds := [.data, .data], laidTests := true, laidLooks := .later }
def SlipBestCardSaid : Prop := Claim7.holds Tryd.pinned (.plain (OpenSpec.ofChange slipBestSpec)) slipBestCard

/-- THE TIED CARD OF 'caulkworkslaw07.SlipFavour'. -/
def slipFavourCard : Claim7 := { stood := { row := slipFavourRow, standIns := [], harness := (true, "35477dcbd51abce31e2037b7b22eab23991c623f17c820fe62b7e760d96395d7"), looks := true }, kinds := [], alts := [], laidByText := true, laidKinds := [.data, .data], laidTests := true, laidLooks := .later }
def SlipFavourCardSaid : Prop := Claim7.holds Tryd.pinned (.plain (OpenSpec.ofChange slipFavourSpec)) slipFavourCard

/-- THE TIED CARD OF 'caulkworkslaw07.SlipDrop'. -/
def slipDropCard : Claim7 := { stood := { row := slipDropRow, standIns := [], harness := (true, "35477dcbd51abce31e2037b7b22eab23991c623f17c820fe62b7e760d96395d7"), looks := true }, kinds := [], alts := [], laidByText := true, laidKinds := [.data, .data], laidTests := true, laidLooks := .later }
def SlipDropCardSaid : Prop := Claim7.holds Tryd.pinned (.plain (OpenSpec.ofChange slipDropSpec)) slipDropCard

/-- THE TIED CARD OF 'caulkworkslaw07.SlipMore'. -/
def slipMoreCard : Claim7 := { stood := { row := slipMoreRow, standIns := [], harness := (true, "35477dcbd51abce31e2037b7b22eab23991c623f17c820fe62b7e760d96395d7"), looks := true }, kinds := [], alts := [], laidByText := true, laidKinds := [.data, .data], laidTests := true, laidLooks := .later }
def SlipMoreCardSaid : Prop := Claim7.holds Tryd.pinned (.plain (OpenSpec.ofChange slipMoreSpec)) slipMoreCard

/-- THE TIED CARD OF 'caulkworkslaw07.SlipTurned'. -/
def slipTurnedCard : Claim7 := { stood := { row := slipTurnedRow, standIns := [], harness := (true, "35477dcbd51abce31e2037b7b22eab23991c623f17c820fe62b7e760d96395d7"), looks := true }, kinds := [], alts := [], laidByText := true, laidKinds := [.data, .data], laidTests := true, laidLooks := .later }
def SlipTurnedCardSaid : Prop := Claim7.holds Tryd.pinned (.plain (OpenSpec.ofChange slipTurnedSpec)) slipTurnedCard

/-- THE SECOND FORM's CARD OF 'caulkworkslaw07.SlipTells'. -/
def slipTellsUptoCard : Claim7 := { stood := { row := slipTellsUptoRow, standIns := [], harness := (true, "35477dcbd51abce31e2037b7b22eab23991c623f17c820fe62b7e760d96395d7"), looks := true }, kinds := [], alts := [], laidByText := true, laidKinds := [.data, .data], laidTests := true, laidLooks := .later }
def SlipTellsUptoCardSaid : Prop := Claim7.holds Tryd.pinned (.plain (OpenSpec.upto slipTellsSpec)) slipTellsUptoCard

/-- THE SECOND FORM's CARD OF 'caulkworkslaw07.SlipPlans'. -/
def slipPlansUptoCard : Claim7 := { stood := { row := slipPlansUptoRow, standIns := [], harness := (true, "35477dcbd51abce31e2037b7b22eab23991c623f17c820fe62b7e760d96395d7"), looks := true }, kinds := [], alts := [], laidByText := true, laidKinds := [.data, .data], laidTests := true, laidLooks := .later }
def SlipPlansUptoCardSaid : Prop := Claim7.holds Tryd.pinned (.plain (OpenSpec.upto slipPlansSpec)) slipPlansUptoCard

/-- THE SECOND FORM's CARD OF 'caulkworkslaw07.SlipNames'. -/
def slipNamesUptoCard : Claim7 := { stood := { row := slipNamesUptoRow, standIns := [], harness := (true, "35477dcbd51abce31e2037b7b22eab23991c623f17c820fe62b7e760d96395d7"), looks := true }, kinds := [], alts := [], laidByText := true, laidKinds := [.data, .data], laidTests := true, laidLooks := .later }
def SlipNamesUptoCardSaid : Prop := Claim7.holds Tryd.pinned (.plain (OpenSpec.upto slipNamesSpec)) slipNamesUptoCard

/-- THE SECOND FORM's CARD OF 'caulkworkslaw07.SlipTrue'. -/
def slipTrueUptoCard : Claim7 := { stood := { row := slipTrueUptoRow, standIns := [], harness := (true, "35477dcbd51abce31e2037b7b22eab23991c623f17c820fe62b7e760d96395d7"), looks := true }, kinds := [], alts := [], laidByText := true, laidKinds := [.data, .data], laidTests := true, laidLooks := .later }
def SlipTrueUptoCardSaid : Prop := Claim7.holds Tryd.pinned (.plain (OpenSpec.upto slipTrueSpec)) slipTrueUptoCard

/-- THE SECOND FORM's CARD OF 'caulkworkslaw07.SlipChecks'. -/
def slipChecksUptoCard : Claim7 := { stood := { row := slipChecksUptoRow, standIns := [], harness := (true, "35477dcbd51abce31e2037b7b22eab23991c623f17c820fe62b7e760d96395d7"), looks := true }, kinds := [], alts := [], laidByText := true, laidKinds := [.data, .data], laidTests := true, laidLooks := .later }
def SlipChecksUptoCardSaid : Prop := Claim7.holds Tryd.pinned (.plain (OpenSpec.upto slipChecksSpec)) slipChecksUptoCard

/-- THE SECOND FORM's CARD OF 'caulkworkslaw07.SlipBest'. -/
def slipBestUptoCard : Claim7 := { stood := { row := slipBestUptoRow, standIns := [], harness := (true, "35477dcbd51abce31e2037b7b22eab23991c623f17c820fe62b7e760d96395d7"), looks := true }, kinds := [], alts := [], laidByText := true, laidKinds := [.data, .data], laidTests := true, laidLooks := .later }
def SlipBestUptoCardSaid : Prop := Claim7.holds Tryd.pinned (.plain (OpenSpec.upto slipBestSpec)) slipBestUptoCard

/-- THE SECOND FORM's CARD OF 'caulkworkslaw07.SlipFavour'. -/
def slipFavourUptoCard : Claim7 := { stood := { row := slipFavourUptoRow, standIns := [], harness := (true, "35477dcbd51abce31e2037b7b22eab23991c623f17c820fe62b7e760d96395d7"), looks := true }, kinds := [], alts := [], laidByText := true, laidKinds := [.data, .data], laidTests := true, laidLooks := .later }
def SlipFavourUptoCardSaid : Prop := Claim7.holds Tryd.pinned (.plain (OpenSpec.upto slipFavourSpec)) slipFavourUptoCard

/-- THE SECOND FORM's CARD OF 'caulkworkslaw07.SlipDrop'. -/
def slipDropUptoCard : Claim7 := { stood := { row := slipDropUptoRow, standIns := [], harness := (true, "35477dcbd51abce31e2037b7b22eab23991c623f17c820fe62b7e760d96395d7"), looks := true }, kinds := [], alts := [], laidByText := true, laidKinds := [.data, .data], laidTests := true, laidLooks := .later }
def SlipDropUptoCardSaid : Prop := Claim7.holds Tryd.pinned (.plain (OpenSpec.upto slipDropSpec)) slipDropUptoCard

/-- THE SECOND FORM's CARD OF 'caulkworkslaw07.SlipMore'. -/
def slipMoreUptoCard : Claim7 := { stood := { row := slipMoreUptoRow, standIns := [], harness := (true, "35477dcbd51abce31e2037b7b22eab23991c623f17c820fe62b7e760d96395d7"), looks := true }, kinds := [], alts := [], laidByText := true, laidKinds := [.data, .data], laidTests := true, laidLooks := .later }
def SlipMoreUptoCardSaid : Prop := Claim7.holds Tryd.pinned (.plain (OpenSpec.upto slipMoreSpec)) slipMoreUptoCard

/-- THE SECOND FORM's CARD OF 'caulkworkslaw07.SlipTurned'. -/
def slipTurnedUptoCard : Claim7 := { stood := { row := slipTurnedUptoRow, standIns := [], harness := (true, "35477dcbd51abce31e2037b7b22eab23991c623f17c820fe62b7e760d96395d7"), looks := true }, kinds := [], alts := [], laidByText := true, laidKinds := [.data, .data], laidTests := true, laidLooks := .later }
def SlipTurnedUptoCardSaid : Prop := Claim7.holds Tryd.pinned (.plain (OpenSpec.upto slipTurnedSpec)) slipTurnedUptoCard
end Rows
end Go.Proofs.YtnmgegodkmgdeaaDoor
