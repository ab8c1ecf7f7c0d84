/-
  DERIVED. GIVEN WITH THE SEED: THE CARDS: each row of YtenlanbdolnhhaaDoorRows.lean that lists a variable, with what it lists TIED to the program's text (the seventh form; the later family's looks); each row that meets fmt, with fmt's text TOLD by the authors' own Lean function (tested against real Go, not proved from fmt's source: count such statements apart). THE CARD IS WHAT COUNTS. Prove the row's statement (the work); the ties are given (YtenlanbdolnhhaaDoorTie.lean); close each card by the builder's one call (the guide's Derived/Test/ToyasCard.lean, 'card_holds'). Laid BY PROGRAM, IN A SANDBOX (cutbox-door.mjs). By AI agents, Wed Nov 11 2026. No macro, syntax, notation, axiom, sorry.
-/
import Derived.Test.YtenlanbdolnhhaaDoorRows
import GoSem.ClaimSeven
namespace Go.Proofs.YtenlanbdolnhhaaDoor
namespace Rows

/-- THE TIED CARD OF 'spadillelaw12.RingHall'. -/
def ringHallCard : Claim7 := { stood := { row := ringHallRow, standIns := [], harness := (true, "b7a408aed1608056d438078c4a2dcd9525e4ca959f2e34bfb9606f7a33f21a7b"), looks := false }, kinds := [], alts := [], laidByText := true, laidKinds := [.data], laidTests := true, laidLooks := .later }
def RingHallCardSaid : Prop := Claim7.holds Tryd.pinned (.plain (OpenSpec.ofChange ringHallSpec)) ringHallCard

/-- THE SECOND FORM's CARD OF 'spadillelaw12.RingHall'. -/
def ringHallUptoCard : Claim7 := { stood := { row := ringHallUptoRow, standIns := [], harness := (true, "b7a408aed1608056d438078c4a2dcd9525e4ca959f2e34bfb9606f7a33f21a7b"), looks := false }, kinds := [], alts := [], laidByText := true, laidKinds := [.data], laidTests := true, laidLooks := .later }
def RingHallUptoCardSaid : Prop := Claim7.holds Tryd.pinned (.plain (OpenSpec.upto ringHallSpec)) ringHallUptoCard
end Rows
end Go.Proofs.YtenlanbdolnhhaaDoor
