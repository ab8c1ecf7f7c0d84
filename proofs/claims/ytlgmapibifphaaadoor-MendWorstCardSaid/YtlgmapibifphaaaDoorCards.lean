/-
  DERIVED. GIVEN WITH THE SEED: THE CARDS: each row of YtlgmapibifphaaaDoorRows.lean that lists a variable, with what it lists TIED to the program's text (the seventh form; the later family's looks); each row that meets fmt, with fmt's text TOLD by the authors' own Lean function (tested against real Go, not proved from fmt's source: count such statements apart). THE CARD IS WHAT COUNTS. Prove the row's statement (the work); the ties are given (YtlgmapibifphaaaDoorTie.lean); close each card by the builder's one call (the guide's Derived/Test/ToyasCard.lean, 'card_holds'). Laid BY PROGRAM, IN A SANDBOX (cutbox-door.mjs). By AI agents, Wed Nov 11 2026. No macro, syntax, notation, axiom, sorry.
-/
import Derived.Test.YtlgmapibifphaaaDoorRows
import GoSem.ClaimSeven
namespace Go.Proofs.YtlgmapibifphaaaDoor
namespace Rows

/-- THE TIED CARD OF 'spadillelaw09.MendHelps'. -/
def mendHelpsCard : Claim7 := { stood := { row := mendHelpsRow, standIns := [], harness := (true, "c031f602e4b885bc91aca69598699ff50219e45aa2c63901488b2211a82c1f36"), looks := false }, kinds := [], alts := [], laidByText := true, laidKinds := [.data], laidTests := true, laidLooks := .later }
def MendHelpsCardSaid : Prop := Claim7.holds Tryd.pinned (.plain (OpenSpec.ofChange mendHelpsSpec)) mendHelpsCard

/-- THE TIED CARD OF 'spadillelaw09.MendRings'. -/
def mendRingsCard : Claim7 := { stood := { row := mendRingsRow, standIns := [], harness := (true, "c031f602e4b885bc91aca69598699ff50219e45aa2c63901488b2211a82c1f36"), looks := false }, kinds := [], alts := [], laidByText := true, laidKinds := [.data], laidTests := true, laidLooks := .later }
def MendRingsCardSaid : Prop := Claim7.holds Tryd.pinned (.plain (OpenSpec.ofChange mendRingsSpec)) mendRingsCard

/-- THE TIED CARD OF 'spadillelaw09.MendOne'. -/
def mendOneCard : Claim7 := { stood := { row := mendOneRow, standIns := [], harness := (true, "c031f602e4b885bc91aca69598699ff50219e45aa2c63901488b2211a82c1f36"), looks := false }, kinds := [], alts := [], laidByText := true, laidKinds := [.data], laidTests := true, laidLooks := .later }
def MendOneCardSaid : Prop := Claim7.holds Tryd.pinned (.plain (OpenSpec.ofChange mendOneSpec)) mendOneCard

/-- THE TIED CARD OF 'spadillelaw09.MendWorst'. -/
def mendWorstCard : Claim7 := { stood := { row := mendWorstRow, standIns := [], harness := (true, "c031f602e4b885bc91aca69598699ff50219e45aa2c63901488b2211a82c1f36"), looks := false }, kinds := [], alts := [], laidByText := true, laidKinds := [.data], laidTests := true, laidLooks := .later }
def MendWorstCardSaid : Prop := Claim7.holds Tryd.pinned (.plain (OpenSpec.ofChange mendWorstSpec)) mendWorstCard

/-- THE TIED CARD OF 'spadillelaw09.MendNeighbours'. -/
def mendNeighboursCard : Claim7 := { stood := { row := mendNeighboursRow, standIns := [], harness := (true, "c031f602e4b885bc91aca69598699ff50219e45aa2c63901488b2211a82c1f36"), looks := false }, kinds := [], alts := [], laidByText := true, laidKinds := [.data], laidTests := true, laidLooks := .later }
def MendNeighboursCardSaid : Prop := Claim7.holds Tryd.pinned (.plain (OpenSpec.ofChange mendNeighboursSpec)) mendNeighboursCard

/-- THE TIED CARD OF 'spadillelaw09.MendTurned'. -/
def mendTurnedCard : Claim7 := { stood := { row := mendTurnedRow, standIns := [], harness := (true, "c031f602e4b885bc91aca69598699ff50219e45aa2c63901488b2211a82c1f36"), looks := false }, kinds := [], alts := [], laidByText := true, laidKinds := [.data], laidTests := true, laidLooks := .later }
def MendTurnedCardSaid : Prop := Claim7.holds Tryd.pinned (.plain (OpenSpec.ofChange mendTurnedSpec)) mendTurnedCard

/-- THE TIED CARD OF 'spadillelaw09.MendFewest'. -/
def mendFewestCard : Claim7 := { stood := { row := mendFewestRow, standIns := [], harness := (true, "c031f602e4b885bc91aca69598699ff50219e45aa2c63901488b2211a82c1f36"), looks := false }, kinds := [], alts := [], laidByText := true, laidKinds := [.data], laidTests := true, laidLooks := .later }
def MendFewestCardSaid : Prop := Claim7.holds Tryd.pinned (.plain (OpenSpec.ofChange mendFewestSpec)) mendFewestCard

/-- THE TIED CARD OF 'spadillelaw09.MendSaved'. -/
def mendSavedCard : Claim7 := { stood := { row := mendSavedRow, standIns := [], harness := (true, "c031f602e4b885bc91aca69598699ff50219e45aa2c63901488b2211a82c1f36"), looks := false }, kinds := [], alts := [], laidByText := true, laidKinds := [.data], laidTests := true, laidLooks := .later }
def MendSavedCardSaid : Prop := Claim7.holds Tryd.pinned (.plain (OpenSpec.ofChange mendSavedSpec)) mendSavedCard

/-- THE SECOND FORM's CARD OF 'spadillelaw09.MendHelps'. -/
def mendHelpsUptoCard : Claim7 := { stood := { row := mendHelpsUptoRow, standIns := [], harness := (true, "c031f602e4b885bc91aca69598699ff50219e45aa2c63901488b2211a82c1f36"), looks := false }, kinds := [], alts := [], laidByText := true, laidKinds := [.data], laidTests := true, laidLooks := .later }
def MendHelpsUptoCardSaid : Prop := Claim7.holds Tryd.pinned (.plain (OpenSpec.upto mendHelpsSpec)) mendHelpsUptoCard

/-- THE SECOND FORM's CARD OF 'spadillelaw09.MendRings'. -/
def mendRingsUptoCard : Claim7 := { stood := { row := mendRingsUptoRow, standIns := [], harness := (true, "c031f602e4b885bc91aca69598699ff50219e45aa2c63901488b2211a82c1f36"), looks := false }, kinds := [], alts := [], laidByText := true, laidKinds := [.data], laidTests := true, laidLooks := .later }
def MendRingsUptoCardSaid : Prop := Claim7.holds Tryd.pinned (.plain (OpenSpec.upto mendRingsSpec)) mendRingsUptoCard

/-- THE SECOND FORM's CARD OF 'spadillelaw09.MendOne'. -/
def mendOneUptoCard : Claim7 := { stood := { row := mendOneUptoRow, standIns := [], harness := (true, "c031f602e4b885bc91aca69598699ff50219e45aa2c63901488b2211a82c1f36"), looks := false }, kinds := [], alts := [], laidByText := true, laidKinds := [.data], laidTests := true, laidLooks := .later }
def MendOneUptoCardSaid : Prop := Claim7.holds Tryd.pinned (.plain (OpenSpec.upto mendOneSpec)) mendOneUptoCard

/-- THE SECOND FORM's CARD OF 'spadillelaw09.MendWorst'. -/
def mendWorstUptoCard : Claim7 := { stood := { row := mendWorstUptoRow, standIns := [], harness := (true, "c031f602e4b885bc91aca69598699ff50219e45aa2c63901488b2211a82c1f36"), looks := false }, kinds := [], alts := [], laidByText := true, laidKinds := [.data], laidTests := true, laidLooks := .later }
def MendWorstUptoCardSaid : Prop := Claim7.holds Tryd.pinned (.plain (OpenSpec.upto mendWorstSpec)) mendWorstUptoCard

/-- THE SECOND FORM's CARD OF 'spadillelaw09.MendNeighbours'. -/
def mendNeighboursUptoCard : Claim7 := { stood := { row := mendNeighboursUptoRow, standIns := [], harness := (true, "c031f602e4b885bc91aca69598699ff50219e45aa2c63901488b2211a82c1f36"), looks := false }, kinds := [], alts := [], laidByText := true, laidKinds := [.data], laidTests := true, laidLooks := .later }
def MendNeighboursUptoCardSaid : Prop := Claim7.holds Tryd.pinned (.plain (OpenSpec.upto mendNeighboursSpec)) mendNeighboursUptoCard

/-- THE SECOND FORM's CARD OF 'spadillelaw09.MendTurned'. -/
def mendTurnedUptoCard : Claim7 := { stood := { row := mendTurnedUptoRow, standIns := [], harness := (true, "c031f602e4b885bc91aca69598699ff50219e45aa2c63901488b2211a82c1f36"), looks := false }, kinds := [], alts := [], laidByText := true, laidKinds := [.data], laidTests := true, laidLooks := .later }
def MendTurnedUptoCardSaid : Prop := Claim7.holds Tryd.pinned (.plain (OpenSpec.upto mendTurnedSpec)) mendTurnedUptoCard

/-- THE SECOND FORM's CARD OF 'spadillelaw09.MendFewest'. -/
def mendFewestUptoCard : Claim7 := { stood := { row := mendFewestUptoRow, standIns := [], harness := (true, "c031f602e4b885bc91aca69598699ff50219e45aa2c63901488b2211a82c1f36"), looks := false }, kinds := [], alts := [], laidByText := true, laidKinds := [.data], laidTests := true, laidLooks := .later }
def MendFewestUptoCardSaid : Prop := Claim7.holds Tryd.pinned (.plain (OpenSpec.upto mendFewestSpec)) mendFewestUptoCard

/-- THE SECOND FORM's CARD OF 'spadillelaw09.MendSaved'. -/
def mendSavedUptoCard : Claim7 := { stood := { row := mendSavedUptoRow, standIns := [], harness := (true, "c031f602e4b885bc91aca69598699ff50219e45aa2c63901488b2211a82c1f36"), looks := false }, kinds := [], alts := [], laidByText := true, laidKinds := [.data], laidTests := true, laidLooks := .later }
def MendSavedUptoCardSaid : Prop := Claim7.holds Tryd.pinned (.plain (OpenSpec.upto mendSavedSpec)) mendSavedUptoCard
end Rows
end Go.Proofs.YtlgmapibifphaaaDoor
