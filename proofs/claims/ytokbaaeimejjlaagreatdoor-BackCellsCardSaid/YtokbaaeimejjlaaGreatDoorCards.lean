/-
  DERIVED. GIVEN WITH THE SEED: THE CARDS: each row of YtokbaaeimejjlaaGreatDoorRows.lean that lists a variable, with what it lists TIED to the program's text (the seventh form; the later family's looks); each row that meets fmt, with fmt's text TOLD by the authors' own Lean function (tested against real Go, not proved from fmt's source: count such statements apart). THE CARD IS WHAT COUNTS. Prove the row's statement (the work); the ties are given (YtokbaaeimejjlaaGreatDoorTie.lean); close each card by the builder's one call (the guide's Derived/Test/ToyasCard.lean, 'card_holds'). Laid BY PROGRAM, IN A SANDBOX (cutbox-door.mjs). By AI agents, Wed Nov 11 2026. No macro, syntax, notation, axiom, sorry.
-/
import Derived.Test.YtokbaaeimejjlaaGreatDoorRows
import GoSem.ClaimSeven
namespace Go.Proofs.YtokbaaeimejjlaaGreatDoor
namespace Rows

/-- THE TIED CARD OF 'spadillelaw03.BackTurned'. -/
def backTurnedCard : Claim7 := { stood := { row := backTurnedRow, standIns := [], harness := (true, "30e750b192d54c1e7b0ee5f1bdf7f2e298564c0f021e283c767a4c915ed7545e"), looks := false }, kinds := [], alts := [], laidByText := true, laidKinds := [.data], laidTests := true, laidLooks := .later }
def BackTurnedCardSaid : Prop := Claim7.holds Tryz.pinned (.plain (OpenSpec.ofChange backTurnedSpec)) backTurnedCard

/-- THE TIED CARD OF 'spadillelaw03.BackKin'. -/
def backKinCard : Claim7 := { stood := { row := backKinRow, standIns := [], harness := (true, "30e750b192d54c1e7b0ee5f1bdf7f2e298564c0f021e283c767a4c915ed7545e"), looks := false }, kinds := [], alts := [], laidByText := true, laidKinds := [.data], laidTests := true, laidLooks := .later }
def BackKinCardSaid : Prop := Claim7.holds Tryz.pinned (.plain (OpenSpec.ofChange backKinSpec)) backKinCard

/-- THE TIED CARD OF 'spadillelaw03.BackCounts'. -/
def backCountsCard : Claim7 := { stood := { row := backCountsRow, standIns := [], harness := (true, "30e750b192d54c1e7b0ee5f1bdf7f2e298564c0f021e283c767a4c915ed7545e"), looks := false }, kinds := [], alts := [], laidByText := true, laidKinds := [.data], laidTests := true, laidLooks := .later }
def BackCountsCardSaid : Prop := Claim7.holds Tryz.pinned (.plain (OpenSpec.ofChange backCountsSpec)) backCountsCard

/-- THE TIED CARD OF 'spadillelaw03.BackCells'. -/
def backCellsCard : Claim7 := { stood := { row := backCellsRow, standIns := [], harness := (true, "30e750b192d54c1e7b0ee5f1bdf7f2e298564c0f021e283c767a4c915ed7545e"), looks := false }, kinds := [], alts := [], laidByText := true, laidKinds := [.data], laidTests := true, laidLooks := .later }
def BackCellsCardSaid : Prop := Claim7.holds Tryz.pinned (.plain (OpenSpec.ofChange backCellsSpec)) backCellsCard

/-- THE TIED CARD OF 'spadillelaw03.BackPresses'. -/
def backPressesCard : Claim7 := { stood := { row := backPressesRow, standIns := [], harness := (true, "30e750b192d54c1e7b0ee5f1bdf7f2e298564c0f021e283c767a4c915ed7545e"), looks := false }, kinds := [], alts := [], laidByText := true, laidKinds := [.data], laidTests := true, laidLooks := .later }
def BackPressesCardSaid : Prop := Claim7.holds Tryz.pinned (.plain (OpenSpec.ofChange backPressesSpec)) backPressesCard

/-- THE TIED CARD OF 'spadillelaw03.BackAll'. -/
def backAllCard : Claim7 := { stood := { row := backAllRow, standIns := [], harness := (true, "30e750b192d54c1e7b0ee5f1bdf7f2e298564c0f021e283c767a4c915ed7545e"), looks := false }, kinds := [], alts := [], laidByText := true, laidKinds := [.data], laidTests := true, laidLooks := .later }
def BackAllCardSaid : Prop := Claim7.holds Tryz.pinned (.plain (OpenSpec.ofChange backAllSpec)) backAllCard

/-- THE SECOND FORM's CARD OF 'spadillelaw03.BackTurned'. -/
def backTurnedUptoCard : Claim7 := { stood := { row := backTurnedUptoRow, standIns := [], harness := (true, "30e750b192d54c1e7b0ee5f1bdf7f2e298564c0f021e283c767a4c915ed7545e"), looks := false }, kinds := [], alts := [], laidByText := true, laidKinds := [.data], laidTests := true, laidLooks := .later }
def BackTurnedUptoCardSaid : Prop := Claim7.holds Tryz.pinned (.plain (OpenSpec.upto backTurnedSpec)) backTurnedUptoCard

/-- THE SECOND FORM's CARD OF 'spadillelaw03.BackKin'. -/
def backKinUptoCard : Claim7 := { stood := { row := backKinUptoRow, standIns := [], harness := (true, "30e750b192d54c1e7b0ee5f1bdf7f2e298564c0f021e283c767a4c915ed7545e"), looks := false }, kinds := [], alts := [], laidByText := true, laidKinds := [.data], laidTests := true, laidLooks := .later }
def BackKinUptoCardSaid : Prop := Claim7.holds Tryz.pinned (.plain (OpenSpec.upto backKinSpec)) backKinUptoCard

/-- THE SECOND FORM's CARD OF 'spadillelaw03.BackCounts'. -/
def backCountsUptoCard : Claim7 := { stood := { row := backCountsUptoRow, standIns := [], harness := (true, "30e750b192d54c1e7b0ee5f1bdf7f2e298564c0f021e283c767a4c915ed7545e"), looks := false }, kinds := [], alts := [], laidByText := true, laidKinds := [.data], laidTests := true, laidLooks := .later }
def BackCountsUptoCardSaid : Prop := Claim7.holds Tryz.pinned (.plain (OpenSpec.upto backCountsSpec)) backCountsUptoCard

/-- THE SECOND FORM's CARD OF 'spadillelaw03.BackCells'. -/
def backCellsUptoCard : Claim7 := { stood := { row := backCellsUptoRow, standIns := [], harness := (true, "30e750b192d54c1e7b0ee5f1bdf7f2e298564c0f021e283c767a4c915ed7545e"), looks := false }, kinds := [], alts := [], laidByText := true, laidKinds := [.data], laidTests := true, laidLooks := .later }
def BackCellsUptoCardSaid : Prop := Claim7.holds Tryz.pinned (.plain (OpenSpec.upto backCellsSpec)) backCellsUptoCard

/-- THE SECOND FORM's CARD OF 'spadillelaw03.BackPresses'. -/
def backPressesUptoCard : Claim7 := { stood := { row := backPressesUptoRow, standIns := [], harness := (true, "30e750b192d54c1e7b0ee5f1bdf7f2e298564c0f021e283c767a4c915ed7545e"), looks := false }, kinds := [], alts := [], laidByText := true, laidKinds := [.data], laidTests := true, laidLooks := .later }
def BackPressesUptoCardSaid : Prop := Claim7.holds Tryz.pinned (.plain (OpenSpec.upto backPressesSpec)) backPressesUptoCard

/-- THE SECOND FORM's CARD OF 'spadillelaw03.BackAll'. -/
def backAllUptoCard : Claim7 := { stood := { row := backAllUptoRow, standIns := [], harness := (true, "30e750b192d54c1e7b0ee5f1bdf7f2e298564c0f021e283c767a4c915ed7545e"), looks := false }, kinds := [], alts := [], laidByText := true, laidKinds := [.data], laidTests := true, laidLooks := .later }
def BackAllUptoCardSaid : Prop := Claim7.holds Tryz.pinned (.plain (OpenSpec.upto backAllSpec)) backAllUptoCard
end Rows
end Go.Proofs.YtokbaaeimejjlaaGreatDoor
