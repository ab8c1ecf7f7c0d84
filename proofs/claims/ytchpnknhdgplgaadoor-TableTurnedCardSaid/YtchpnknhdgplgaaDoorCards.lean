/-
  DERIVED. GIVEN WITH THE SEED: THE CARDS: each row of YtchpnknhdgplgaaDoorRows.lean that lists a variable, with what it lists TIED to the program's text (the seventh form; the later family's looks); each row that meets fmt, with fmt's text TOLD by the authors' own Lean function (tested against real Go, not proved from fmt's source: count such statements apart). THE CARD IS WHAT COUNTS. Prove the row's statement (the work); the ties are given (YtchpnknhdgplgaaDoorTie.lean); close each card by the builder's one call (the guide's Derived/Test/ToyasCard.lean, 'card_holds'). Laid BY PROGRAM, IN A SANDBOX (cutbox-door.mjs). By AI agents, Wed Nov 11 2026. No macro, syntax, notation, axiom, sorry.
-/
import Derived.Test.YtchpnknhdgplgaaDoorRows
import GoSem.ClaimSeven
namespace Go.Proofs.YtchpnknhdgplgaaDoor
namespace Rows

/-- THE TIED CARD OF 'spadillelaw07.TableSorts'. -/
def tableSortsCard : Claim7 := { stood := { row := tableSortsRow, standIns := [], harness := (true, "90011ffa347dd673174d751d4659e809a7265d277b1ccfa311f0f34318c7e516"), looks := false }, kinds := [], alts := [], laidByText := true, laidKinds := [.data], laidTests := true, laidLooks := .later }
def TableSortsCardSaid : Prop := Claim7.holds Tryd.pinned (.plain (OpenSpec.ofChange tableSortsSpec)) tableSortsCard

/-- THE TIED CARD OF 'spadillelaw07.TableIdle'. -/
def tableIdleCard : Claim7 := { stood := { row := tableIdleRow, standIns := [], harness := (true, "90011ffa347dd673174d751d4659e809a7265d277b1ccfa311f0f34318c7e516"), looks := false }, kinds := [], alts := [], laidByText := true, laidKinds := [.data], laidTests := true, laidLooks := .later }
def TableIdleCardSaid : Prop := Claim7.holds Tryd.pinned (.plain (OpenSpec.ofChange tableIdleSpec)) tableIdleCard

/-- THE TIED CARD OF 'spadillelaw07.TableSteps'. -/
def tableStepsCard : Claim7 := { stood := { row := tableStepsRow, standIns := [], harness := (true, "90011ffa347dd673174d751d4659e809a7265d277b1ccfa311f0f34318c7e516"), looks := false }, kinds := [], alts := [], laidByText := true, laidKinds := [.data], laidTests := true, laidLooks := .later }
def TableStepsCardSaid : Prop := Claim7.holds Tryd.pinned (.plain (OpenSpec.ofChange tableStepsSpec)) tableStepsCard

/-- THE TIED CARD OF 'spadillelaw07.TableTurned'. -/
def tableTurnedCard : Claim7 := { stood := { row := tableTurnedRow, standIns := [], harness := (true, "90011ffa347dd673174d751d4659e809a7265d277b1ccfa311f0f34318c7e516"), looks := false }, kinds := [], alts := [], laidByText := true, laidKinds := [.data], laidTests := true, laidLooks := .later }
def TableTurnedCardSaid : Prop := Claim7.holds Tryd.pinned (.plain (OpenSpec.ofChange tableTurnedSpec)) tableTurnedCard

/-- THE SECOND FORM's CARD OF 'spadillelaw07.TableSorts'. -/
def tableSortsUptoCard : Claim7 := { stood := { row := tableSortsUptoRow, standIns := [], harness := (true, "90011ffa347dd673174d751d4659e809a7265d277b1ccfa311f0f34318c7e516"), looks := false }, kinds := [], alts := [], laidByText := true, laidKinds := [.data], laidTests := true, laidLooks := .later }
def TableSortsUptoCardSaid : Prop := Claim7.holds Tryd.pinned (.plain (OpenSpec.upto tableSortsSpec)) tableSortsUptoCard

/-- THE SECOND FORM's CARD OF 'spadillelaw07.TableIdle'. -/
def tableIdleUptoCard : Claim7 := { stood := { row := tableIdleUptoRow, standIns := [], harness := (true, "90011ffa347dd673174d751d4659e809a7265d277b1ccfa311f0f34318c7e516"), looks := false }, kinds := [], alts := [], laidByText := true, laidKinds := [.data], laidTests := true, laidLooks := .later }
def TableIdleUptoCardSaid : Prop := Claim7.holds Tryd.pinned (.plain (OpenSpec.upto tableIdleSpec)) tableIdleUptoCard

/-- THE SECOND FORM's CARD OF 'spadillelaw07.TableSteps'. -/
def tableStepsUptoCard : Claim7 := { stood := { row := tableStepsUptoRow, standIns := [], harness := (true, "90011ffa347dd673174d751d4659e809a7265d277b1ccfa311f0f34318c7e516"), looks := false }, kinds := [], alts := [], laidByText := true, laidKinds := [.data], laidTests := true, laidLooks := .later }
def TableStepsUptoCardSaid : Prop := Claim7.holds Tryd.pinned (.plain (OpenSpec.upto tableStepsSpec)) tableStepsUptoCard

/-- THE SECOND FORM's CARD OF 'spadillelaw07.TableTurned'. -/
def tableTurnedUptoCard : Claim7 := { stood := { row := tableTurnedUptoRow, standIns := [], harness := (true, "90011ffa347dd673174d751d4659e809a7265d277b1ccfa311f0f34318c7e516"), looks := false }, kinds := [], alts := [], laidByText := true, laidKinds := [.data], laidTests := true, laidLooks := .later }
def TableTurnedUptoCardSaid : Prop := Claim7.holds Tryd.pinned (.plain (OpenSpec.upto tableTurnedSpec)) tableTurnedUptoCard
end Rows
end Go.Proofs.YtchpnknhdgplgaaDoor
