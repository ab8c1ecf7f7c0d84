/-
  DERIVED. GIVEN WITH THE SEED: THE CARDS: each row of YtflonlkiajhhjaaGreatDoorRows.lean that lists a variable, with what it lists TIED to the program's text (the seventh form; the later family's looks); each row that meets fmt, with fmt's text TOLD by the authors' own Lean function (tested against real Go, not proved from fmt's source: count such statements apart). THE CARD IS WHAT COUNTS. Prove the row's statement (the work); the ties are given (YtflonlkiajhhjaaGreatDoorTie.lean); close each card by the builder's one call (the guide's Derived/Test/ToyasCard.lean, 'card_holds'). Laid BY PROGRAM, IN A SANDBOX (cutbox-door.mjs). By AI agents, Wed Nov 11 2026. No macro, syntax, notation, axiom, sorry.
-/
import Derived.Test.YtflonlkiajhhjaaGreatDoorRows
import GoSem.ClaimSeven
namespace Go.Proofs.YtflonlkiajhhjaaGreatDoor
namespace Rows

/-- THE TIED CARD OF 'spadilletop.TopMoved'. -/
def topMovedCard : Claim7 := { stood := { row := topMovedRow, standIns := [], harness := (true, "6c671db9ed6593a05676bc4c4be3d85ef3cd5bde4673826926509fab78fd0c9f"), looks := true }, kinds := [], alts := [], laidByText := true, laidKinds := [.data, .data], laidTests := true, laidLooks := .later }
def TopMovedCardSaid : Prop := Claim7.holds Tryz.pinned (.plain (OpenSpec.ofChange topMovedSpec)) topMovedCard

/-- THE TIED CARD OF 'spadilletop.TopBorder'. -/
def topBorderCard : Claim7 := { stood := { row := topBorderRow, standIns := [], harness := (true, "6c671db9ed6593a05676bc4c4be3d85ef3cd5bde4673826926509fab78fd0c9f"), looks := true }, kinds := [], alts := [], laidByText := true, laidKinds := [.data], laidTests := true, laidLooks := .later }
def TopBorderCardSaid : Prop := Claim7.holds Tryz.pinned (.plain (OpenSpec.ofChange topBorderSpec)) topBorderCard

/-- THE TIED CARD OF 'spadilletop.TopSorted'. -/
def topSortedCard : Claim7 := { stood := { row := topSortedRow, standIns := [], harness := (true, "6c671db9ed6593a05676bc4c4be3d85ef3cd5bde4673826926509fab78fd0c9f"), looks := true }, kinds := [], alts := [], laidByText := true, laidKinds := [.data], laidTests := true, laidLooks := .later }
def TopSortedCardSaid : Prop := Claim7.holds Tryz.pinned (.plain (OpenSpec.ofChange topSortedSpec)) topSortedCard

/-- THE TIED CARD OF 'spadilletop.TopFewRows'. -/
def topFewRowsCard : Claim7 := { stood := { row := topFewRowsRow, standIns := [], harness := (true, "6c671db9ed6593a05676bc4c4be3d85ef3cd5bde4673826926509fab78fd0c9f"), looks := true }, kinds := [], alts := [], laidByText := true, laidKinds := [.data, .data], laidTests := true, laidLooks := .later }
def TopFewRowsCardSaid : Prop := Claim7.holds Tryz.pinned (.plain (OpenSpec.ofChange topFewRowsSpec)) topFewRowsCard

/-- THE TIED CARD OF 'spadilletop.TopShown'. -/
def topShownCard : Claim7 := { stood := { row := topShownRow, standIns := [], harness := (true, "6c671db9ed6593a05676bc4c4be3d85ef3cd5bde4673826926509fab78fd0c9f"), looks := true }, kinds := [], alts := [], laidByText := true, laidKinds := [.data], laidTests := true, laidLooks := .later }
def TopShownCardSaid : Prop := Claim7.holds Tryz.pinned (.plain (OpenSpec.ofChange topShownSpec)) topShownCard

/-- THE TIED CARD OF 'spadilletop.TopRiffled'. -/
def topRiffledCard : Claim7 := { stood := { row := topRiffledRow, standIns := [], harness := (true, "6c671db9ed6593a05676bc4c4be3d85ef3cd5bde4673826926509fab78fd0c9f"), looks := true }, kinds := [], alts := [], laidByText := true, laidKinds := [.data], laidTests := true, laidLooks := .later }
def TopRiffledCardSaid : Prop := Claim7.holds Tryz.pinned (.plain (OpenSpec.ofChange topRiffledSpec)) topRiffledCard

/-- THE TIED CARD OF 'spadilletop.TopPerfect'. -/
def topPerfectCard : Claim7 := { stood := { row := topPerfectRow, standIns := [], harness := (true, "6c671db9ed6593a05676bc4c4be3d85ef3cd5bde4673826926509fab78fd0c9f"), looks := true }, kinds := [], alts := [], laidByText := true, laidKinds := [.data], laidTests := true, laidLooks := .later }
def TopPerfectCardSaid : Prop := Claim7.holds Tryz.pinned (.plain (OpenSpec.ofChange topPerfectSpec)) topPerfectCard

/-- THE SECOND FORM's CARD OF 'spadilletop.TopMoved'. -/
def topMovedUptoCard : Claim7 := { stood := { row := topMovedUptoRow, standIns := [], harness := (true, "6c671db9ed6593a05676bc4c4be3d85ef3cd5bde4673826926509fab78fd0c9f"), looks := true }, kinds := [], alts := [], laidByText := true, laidKinds := [.data, .data], laidTests := true, laidLooks := .later }
def TopMovedUptoCardSaid : Prop := Claim7.holds Tryz.pinned (.plain (OpenSpec.upto topMovedSpec)) topMovedUptoCard

/-- THE SECOND FORM's CARD OF 'spadilletop.TopBorder'. -/
def topBorderUptoCard : Claim7 := { stood := { row := topBorderUptoRow, standIns := [], harness := (true, "6c671db9ed6593a05676bc4c4be3d85ef3cd5bde4673826926509fab78fd0c9f"), looks := true }, kinds := [], alts := [], laidByText := true, laidKinds := [.data], laidTests := true, laidLooks := .later }
def TopBorderUptoCardSaid : Prop := Claim7.holds Tryz.pinned (.plain (OpenSpec.upto topBorderSpec)) topBorderUptoCard

/-- THE SECOND FORM's CARD OF 'spadilletop.TopSorted'. -/
def topSortedUptoCard : Claim7 := { stood := { row := topSortedUptoRow, standIns := [], harness := (true, "6c671db9ed6593a05676bc4c4be3d85ef3cd5bde4673826926509fab78fd0c9f"), looks := true }, kinds := [], alts := [], laidByText := true, laidKinds := [.data], laidTests := true, laidLooks := .later }
def TopSortedUptoCardSaid : Prop := Claim7.holds Tryz.pinned (.plain (OpenSpec.upto topSortedSpec)) topSortedUptoCard

/-- THE SECOND FORM's CARD OF 'spadilletop.TopFewRows'. -/
def topFewRowsUptoCard : Claim7 := { stood := { row := topFewRowsUptoRow, standIns := [], harness := (true, "6c671db9ed6593a05676bc4c4be3d85ef3cd5bde4673826926509fab78fd0c9f"), looks := true }, kinds := [], alts := [], laidByText := true, laidKinds := [.data, .data], laidTests := true, laidLooks := .later }
def TopFewRowsUptoCardSaid : Prop := Claim7.holds Tryz.pinned (.plain (OpenSpec.upto topFewRowsSpec)) topFewRowsUptoCard

/-- THE SECOND FORM's CARD OF 'spadilletop.TopShown'. -/
def topShownUptoCard : Claim7 := { stood := { row := topShownUptoRow, standIns := [], harness := (true, "6c671db9ed6593a05676bc4c4be3d85ef3cd5bde4673826926509fab78fd0c9f"), looks := true }, kinds := [], alts := [], laidByText := true, laidKinds := [.data], laidTests := true, laidLooks := .later }
def TopShownUptoCardSaid : Prop := Claim7.holds Tryz.pinned (.plain (OpenSpec.upto topShownSpec)) topShownUptoCard

/-- THE SECOND FORM's CARD OF 'spadilletop.TopRiffled'. -/
def topRiffledUptoCard : Claim7 := { stood := { row := topRiffledUptoRow, standIns := [], harness := (true, "6c671db9ed6593a05676bc4c4be3d85ef3cd5bde4673826926509fab78fd0c9f"), looks := true }, kinds := [], alts := [], laidByText := true, laidKinds := [.data], laidTests := true, laidLooks := .later }
def TopRiffledUptoCardSaid : Prop := Claim7.holds Tryz.pinned (.plain (OpenSpec.upto topRiffledSpec)) topRiffledUptoCard

/-- THE SECOND FORM's CARD OF 'spadilletop.TopPerfect'. -/
def topPerfectUptoCard : Claim7 := { stood := { row := topPerfectUptoRow, standIns := [], harness := (true, "6c671db9ed6593a05676bc4c4be3d85ef3cd5bde4673826926509fab78fd0c9f"), looks := true }, kinds := [], alts := [], laidByText := true, laidKinds := [.data], laidTests := true, laidLooks := .later }
def TopPerfectUptoCardSaid : Prop := Claim7.holds Tryz.pinned (.plain (OpenSpec.upto topPerfectSpec)) topPerfectUptoCard
end Rows
end Go.Proofs.YtflonlkiajhhjaaGreatDoor
