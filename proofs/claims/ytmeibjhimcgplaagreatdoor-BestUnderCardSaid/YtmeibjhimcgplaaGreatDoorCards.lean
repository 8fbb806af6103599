/-
  DERIVED. GIVEN WITH THE SEED: THE CARDS: each row of YtmeibjhimcgplaaGreatDoorRows.lean that lists a variable, with what it lists TIED to the program's text (the seventh form; the later family's looks); each row that meets fmt, with fmt's text TOLD by the authors' own Lean function (tested against real Go, not proved from fmt's source: count such statements apart). THE CARD IS WHAT COUNTS. Prove the row's statement (the work); the ties are given (YtmeibjhimcgplaaGreatDoorTie.lean); close each card by the builder's one call (the guide's Derived/Test/ToyasCard.lean, 'card_holds'). Laid BY PROGRAM, IN A SANDBOX (cutbox-door.mjs). By AI agents, Wed Nov 11 2026. No macro, syntax, notation, axiom, sorry.
-/
import Derived.Test.YtmeibjhimcgplaaGreatDoorRows
import GoSem.ClaimSeven
namespace Go.Proofs.YtmeibjhimcgplaaGreatDoor
namespace Rows

/-- THE TIED CARD OF 'horariumlaw37.SeekMore'. -/
def seekMoreCard : Claim7 := { stood := { row := seekMoreRow, standIns := [], harness := (true, "dc7159a6b3ec38f30a50dd4c1b1a441d3a1104ac700846ce0eb44e7a13d01ab8"), looks := true }, kinds := [], alts := [], laidByText := true, laidKinds := [.data, .data, .data], laidTests := true, laidLooks := .later }
def SeekMoreCardSaid : Prop := Claim7.holds Tryz.pinned (.plain (OpenSpec.ofChange seekMoreSpec)) seekMoreCard

/-- THE TIED CARD OF 'horariumlaw37.SeekOff'. -/
def seekOffCard : Claim7 := { stood := { row := seekOffRow, standIns := [], harness := (true, "dc7159a6b3ec38f30a50dd4c1b1a441d3a1104ac700846ce0eb44e7a13d01ab8"), looks := true }, kinds := [], alts := [], laidByText := true, laidKinds := [.data, .data, .data], laidTests := true, laidLooks := .later }
def SeekOffCardSaid : Prop := Claim7.holds Tryz.pinned (.plain (OpenSpec.ofChange seekOffSpec)) seekOffCard

/-- THE TIED CARD OF 'horariumlaw37.SeekJudged'. -/
def seekJudgedCard : Claim7 := { stood := { row := seekJudgedRow, standIns := [], harness := (true, "dc7159a6b3ec38f30a50dd4c1b1a441d3a1104ac700846ce0eb44e7a13d01ab8"), looks := true }, kinds := [], alts := [], laidByText := true, laidKinds := [.data, .data, .data], laidTests := true, laidLooks := .later }
def SeekJudgedCardSaid : Prop := Claim7.holds Tryz.pinned (.plain (OpenSpec.ofChange seekJudgedSpec)) seekJudgedCard

/-- THE TIED CARD OF 'horariumlaw40.BestLeast'. -/
def bestLeastCard : Claim7 := { stood := { row := bestLeastRow, standIns := [], harness := (true, "dc7159a6b3ec38f30a50dd4c1b1a441d3a1104ac700846ce0eb44e7a13d01ab8"), looks := true }, kinds := [], alts := [], laidByText := true, laidKinds := [.data, .data, .data], laidTests := true, laidLooks := .later }
def BestLeastCardSaid : Prop := Claim7.holds Tryz.pinned (.plain (OpenSpec.ofChange bestLeastSpec)) bestLeastCard

/-- THE TIED CARD OF 'horariumlaw40.BestTells'. -/
def bestTellsCard : Claim7 := { stood := { row := bestTellsRow, standIns := [], harness := (true, "dc7159a6b3ec38f30a50dd4c1b1a441d3a1104ac700846ce0eb44e7a13d01ab8"), looks := true }, kinds := [], alts := [], laidByText := true, laidKinds := [.data, .data, .data], laidTests := true, laidLooks := .later }
def BestTellsCardSaid : Prop := Claim7.holds Tryz.pinned (.plain (OpenSpec.ofChange bestTellsSpec)) bestTellsCard

/-- THE TIED CARD OF 'horariumlaw40.BestUnder'. -/
def bestUnderCard : Claim7 := { stood := { row := bestUnderRow, standIns := [], harness := (true, "dc7159a6b3ec38f30a50dd4c1b1a441d3a1104ac700846ce0eb44e7a13d01ab8"), looks := true }, kinds := [], alts := [], laidByText := true, laidKinds := [.data, .data, .data], laidTests := true, laidLooks := .later }
def BestUnderCardSaid : Prop := Claim7.holds Tryz.pinned (.plain (OpenSpec.ofChange bestUnderSpec)) bestUnderCard

/-- THE TIED CARD OF 'horariumlaw40.BestOff'. -/
def bestOffCard : Claim7 := { stood := { row := bestOffRow, standIns := [], harness := (true, "dc7159a6b3ec38f30a50dd4c1b1a441d3a1104ac700846ce0eb44e7a13d01ab8"), looks := true }, kinds := [], alts := [], laidByText := true, laidKinds := [.data, .data, .data], laidTests := true, laidLooks := .later }
def BestOffCardSaid : Prop := Claim7.holds Tryz.pinned (.plain (OpenSpec.ofChange bestOffSpec)) bestOffCard

/-- THE TIED CARD OF 'horariumlaw40.BestAgain'. -/
def bestAgainCard : Claim7 := { stood := { row := bestAgainRow, standIns := [], harness := (true, "dc7159a6b3ec38f30a50dd4c1b1a441d3a1104ac700846ce0eb44e7a13d01ab8"), looks := true }, kinds := [], alts := [], laidByText := true, laidKinds := [.data, .data, .data], laidTests := true, laidLooks := .later }
def BestAgainCardSaid : Prop := Claim7.holds Tryz.pinned (.plain (OpenSpec.ofChange bestAgainSpec)) bestAgainCard

/-- THE SECOND FORM's CARD OF 'horariumlaw37.SeekMore'. -/
def seekMoreUptoCard : Claim7 := { stood := { row := seekMoreUptoRow, standIns := [], harness := (true, "dc7159a6b3ec38f30a50dd4c1b1a441d3a1104ac700846ce0eb44e7a13d01ab8"), looks := true }, kinds := [], alts := [], laidByText := true, laidKinds := [.data, .data, .data], laidTests := true, laidLooks := .later }
def SeekMoreUptoCardSaid : Prop := Claim7.holds Tryz.pinned (.plain (OpenSpec.upto seekMoreSpec)) seekMoreUptoCard

/-- THE SECOND FORM's CARD OF 'horariumlaw37.SeekOff'. -/
def seekOffUptoCard : Claim7 := { stood := { row := seekOffUptoRow, standIns := [], harness := (true, "dc7159a6b3ec38f30a50dd4c1b1a441d3a1104ac700846ce0eb44e7a13d01ab8"), looks := true }, kinds := [], alts := [], laidByText := true, laidKinds := [.data, .data, .data], laidTests := true, laidLooks := .later }
def SeekOffUptoCardSaid : Prop := Claim7.holds Tryz.pinned (.plain (OpenSpec.upto seekOffSpec)) seekOffUptoCard

/-- THE SECOND FORM's CARD OF 'horariumlaw37.SeekJudged'. -/
def seekJudgedUptoCard : Claim7 := { stood := { row := seekJudgedUptoRow, standIns := [], harness := (true, "dc7159a6b3ec38f30a50dd4c1b1a441d3a1104ac700846ce0eb44e7a13d01ab8"), looks := true }, kinds := [], alts := [], laidByText := true, laidKinds := [.data, .data, .data], laidTests := true, laidLooks := .later }
def SeekJudgedUptoCardSaid : Prop := Claim7.holds Tryz.pinned (.plain (OpenSpec.upto seekJudgedSpec)) seekJudgedUptoCard

/-- THE SECOND FORM's CARD OF 'horariumlaw40.BestLeast'. -/
def bestLeastUptoCard : Claim7 := { stood := { row := bestLeastUptoRow, standIns := [], harness := (true, "dc7159a6b3ec38f30a50dd4c1b1a441d3a1104ac700846ce0eb44e7a13d01ab8"), looks := true }, kinds := [], alts := [], laidByText := true, laidKinds := [.data, .data, .data], laidTests := true, laidLooks := .later }
def BestLeastUptoCardSaid : Prop := Claim7.holds Tryz.pinned (.plain (OpenSpec.upto bestLeastSpec)) bestLeastUptoCard

/-- THE SECOND FORM's CARD OF 'horariumlaw40.BestTells'. -/
def bestTellsUptoCard : Claim7 := { stood := { row := bestTellsUptoRow, standIns := [], harness := (true, "dc7159a6b3ec38f30a50dd4c1b1a441d3a1104ac700846ce0eb44e7a13d01ab8"), looks := true }, kinds := [], alts := [], laidByText := true, laidKinds := [.data, .data, .data], laidTests := true, laidLooks := .later }
def BestTellsUptoCardSaid : Prop := Claim7.holds Tryz.pinned (.plain (OpenSpec.upto bestTellsSpec)) bestTellsUptoCard

/-- THE SECOND FORM's CARD OF 'horariumlaw40.BestUnder'. -/
def bestUnderUptoCard : Claim7 := { stood := { row := bestUnderUptoRow, standIns := [], harness := (true, "dc7159a6b3ec38f30a50dd4c1b1a441d3a1104ac700846ce0eb44e7a13d01ab8"), looks := true }, kinds := [], alts := [], laidByText := true, laidKinds := [.data, .data, .data], laidTests := true, laidLooks := .later }
def BestUnderUptoCardSaid : Prop := Claim7.holds Tryz.pinned (.plain (OpenSpec.upto bestUnderSpec)) bestUnderUptoCard

/-- THE SECOND FORM's CARD OF 'horariumlaw40.BestOff'. -/
def bestOffUptoCard : Claim7 := { stood := { row := bestOffUptoRow, standIns := [], harness := (true, "dc7159a6b3ec38f30a50dd4c1b1a441d3a1104ac700846ce0eb44e7a13d01ab8"), looks := true }, kinds := [], alts := [], laidByText := true, laidKinds := [.data, .data, .data], laidTests := true, laidLooks := .later }
def BestOffUptoCardSaid : Prop := Claim7.holds Tryz.pinned (.plain (OpenSpec.upto bestOffSpec)) bestOffUptoCard

/-- THE SECOND FORM's CARD OF 'horariumlaw40.BestAgain'. -/
def bestAgainUptoCard : Claim7 := { stood := { row := bestAgainUptoRow, standIns := [], harness := (true, "dc7159a6b3ec38f30a50dd4c1b1a441d3a1104ac700846ce0eb44e7a13d01ab8"), looks := true }, kinds := [], alts := [], laidByText := true, laidKinds := [.data, .data, .data], laidTests := true, laidLooks := .later }
def BestAgainUptoCardSaid : Prop := Claim7.holds Tryz.pinned (.plain (OpenSpec.upto bestAgainSpec)) bestAgainUptoCard
end Rows
end Go.Proofs.YtmeibjhimcgplaaGreatDoor
