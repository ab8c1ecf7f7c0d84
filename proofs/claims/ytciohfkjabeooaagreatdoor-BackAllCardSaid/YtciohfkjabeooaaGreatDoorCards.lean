/-
  DERIVED. GIVEN WITH THE SEED: THE CARDS: each row of YtciohfkjabeooaaGreatDoorRows.lean that lists a variable, with what it lists TIED to the program's text (the seventh form; the later family's looks); each row that meets fmt, with fmt's text TOLD by the authors' own Lean function (tested against real Go, not proved from fmt's source: count such statements apart). THE CARD IS WHAT COUNTS. Prove the row's statement (the work); the ties are given (YtciohfkjabeooaaGreatDoorTie.lean); close each card by the builder's one call (the guide's Derived/Test/ToyasCard.lean, 'card_holds'). Laid BY PROGRAM, IN A SANDBOX (cutbox-door.mjs). By AI agents, Wed Nov 11 2026. No macro, syntax, notation, axiom, sorry.
-/
import Derived.Test.YtciohfkjabeooaaGreatDoorRows
import GoSem.ClaimSeven
namespace Go.Proofs.YtciohfkjabeooaaGreatDoor
namespace Rows

/-- THE TIED CARD OF 'spadillelaw03.BackAll'. -/
def backAllCard : Claim7 := { stood := { row := backAllRow, standIns := [], harness := (true, "e59773b5b4c97e18b10fdf63260824482e3e05bf1b543a1f675930ac6bb8c51b"), looks := false }, kinds := [], alts := [], laidByText := true, laidKinds := [.data], laidTests := true, laidLooks := .later }
def BackAllCardSaid : Prop := Claim7.holds Tryz.pinned (.plain (OpenSpec.ofChange backAllSpec)) backAllCard

/-- THE SECOND FORM's CARD OF 'spadillelaw03.BackAll'. -/
def backAllUptoCard : Claim7 := { stood := { row := backAllUptoRow, standIns := [], harness := (true, "e59773b5b4c97e18b10fdf63260824482e3e05bf1b543a1f675930ac6bb8c51b"), looks := false }, kinds := [], alts := [], laidByText := true, laidKinds := [.data], laidTests := true, laidLooks := .later }
def BackAllUptoCardSaid : Prop := Claim7.holds Tryz.pinned (.plain (OpenSpec.upto backAllSpec)) backAllUptoCard
end Rows
end Go.Proofs.YtciohfkjabeooaaGreatDoor
