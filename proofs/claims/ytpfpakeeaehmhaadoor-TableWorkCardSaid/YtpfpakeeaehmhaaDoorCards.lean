/-
  DERIVED. GIVEN WITH THE SEED: THE CARDS: each row of YtpfpakeeaehmhaaDoorRows.lean that lists a variable, with what it lists TIED to the program's text (the seventh form; the later family's looks); each row that meets fmt, with fmt's text TOLD by the authors' own Lean function (tested against real Go, not proved from fmt's source: count such statements apart). THE CARD IS WHAT COUNTS. Prove the row's statement (the work); the ties are given (YtpfpakeeaehmhaaDoorTie.lean); close each card by the builder's one call (the guide's Derived/Test/ToyasCard.lean, 'card_holds'). Laid BY PROGRAM, IN A SANDBOX (cutbox-door.mjs). By AI agents, Wed Nov 11 2026. No macro, syntax, notation, axiom, sorry.
-/
import Derived.Test.YtpfpakeeaehmhaaDoorRows
import GoSem.ClaimSeven
namespace Go.Proofs.YtpfpakeeaehmhaaDoor
namespace Rows

/-- THE TIED CARD OF 'spadillelaw07.TableIdle'. -/
def tableIdleCard : Claim7 := { stood := { row := tableIdleRow, standIns := [], harness := (true, "8782c0153d872f02199626c1a680d6ae80fe28ddc92c669cfa0e9a89e161db28"), looks := false }, kinds := [], alts := [], laidByText := true, laidKinds := [.data], laidTests := true, laidLooks := .later }
def TableIdleCardSaid : Prop := Claim7.holds Tryd.pinned (.plain (OpenSpec.ofChange tableIdleSpec)) tableIdleCard

/-- THE TIED CARD OF 'spadillelaw07.TablePlaces'. -/
def tablePlacesCard : Claim7 := { stood := { row := tablePlacesRow, standIns := [], harness := (true, "8782c0153d872f02199626c1a680d6ae80fe28ddc92c669cfa0e9a89e161db28"), looks := false }, kinds := [], alts := [], laidByText := true, laidKinds := [.data], laidTests := true, laidLooks := .later }
def TablePlacesCardSaid : Prop := Claim7.holds Tryd.pinned (.plain (OpenSpec.ofChange tablePlacesSpec)) tablePlacesCard

/-- THE TIED CARD OF 'spadillelaw07.TableSteps'. -/
def tableStepsCard : Claim7 := { stood := { row := tableStepsRow, standIns := [], harness := (true, "8782c0153d872f02199626c1a680d6ae80fe28ddc92c669cfa0e9a89e161db28"), looks := false }, kinds := [], alts := [], laidByText := true, laidKinds := [.data], laidTests := true, laidLooks := .later }
def TableStepsCardSaid : Prop := Claim7.holds Tryd.pinned (.plain (OpenSpec.ofChange tableStepsSpec)) tableStepsCard

/-- THE TIED CARD OF 'spadillelaw07.TableFinished'. -/
def tableFinishedCard : Claim7 := { stood := { row := tableFinishedRow, standIns := [], harness := (true, "8782c0153d872f02199626c1a680d6ae80fe28ddc92c669cfa0e9a89e161db28"), looks := false }, kinds := [], alts := [], laidByText := true, laidKinds := [.data], laidTests := true, laidLooks := .later }
def TableFinishedCardSaid : Prop := Claim7.holds Tryd.pinned (.plain (OpenSpec.ofChange tableFinishedSpec)) tableFinishedCard

/-- THE TIED CARD OF 'spadillelaw07.TableWork'. -/
def tableWorkCard : Claim7 := { stood := { row := tableWorkRow, standIns := [], harness := (true, "8782c0153d872f02199626c1a680d6ae80fe28ddc92c669cfa0e9a89e161db28"), looks := false }, kinds := [], alts := [], laidByText := true, laidKinds := [.data], laidTests := true, laidLooks := .later }
def TableWorkCardSaid : Prop := Claim7.holds Tryd.pinned (.plain (OpenSpec.ofChange tableWorkSpec)) tableWorkCard

/-- THE TIED CARD OF 'spadillelaw07.TableOnes'. -/
def tableOnesCard : Claim7 := { stood := { row := tableOnesRow, standIns := [], harness := (true, "8782c0153d872f02199626c1a680d6ae80fe28ddc92c669cfa0e9a89e161db28"), looks := false }, kinds := [], alts := [], laidByText := true, laidKinds := [.data], laidTests := true, laidLooks := .later }
def TableOnesCardSaid : Prop := Claim7.holds Tryd.pinned (.plain (OpenSpec.ofChange tableOnesSpec)) tableOnesCard

/-- THE SECOND FORM's CARD OF 'spadillelaw07.TableIdle'. -/
def tableIdleUptoCard : Claim7 := { stood := { row := tableIdleUptoRow, standIns := [], harness := (true, "8782c0153d872f02199626c1a680d6ae80fe28ddc92c669cfa0e9a89e161db28"), looks := false }, kinds := [], alts := [], laidByText := true, laidKinds := [.data], laidTests := true, laidLooks := .later }
def TableIdleUptoCardSaid : Prop := Claim7.holds Tryd.pinned (.plain (OpenSpec.upto tableIdleSpec)) tableIdleUptoCard

/-- THE SECOND FORM's CARD OF 'spadillelaw07.TablePlaces'. -/
def tablePlacesUptoCard : Claim7 := { stood := { row := tablePlacesUptoRow, standIns := [], harness := (true, "8782c0153d872f02199626c1a680d6ae80fe28ddc92c669cfa0e9a89e161db28"), looks := false }, kinds := [], alts := [], laidByText := true, laidKinds := [.data], laidTests := true, laidLooks := .later }
def TablePlacesUptoCardSaid : Prop := Claim7.holds Tryd.pinned (.plain (OpenSpec.upto tablePlacesSpec)) tablePlacesUptoCard

/-- THE SECOND FORM's CARD OF 'spadillelaw07.TableSteps'. -/
def tableStepsUptoCard : Claim7 := { stood := { row := tableStepsUptoRow, standIns := [], harness := (true, "8782c0153d872f02199626c1a680d6ae80fe28ddc92c669cfa0e9a89e161db28"), looks := false }, kinds := [], alts := [], laidByText := true, laidKinds := [.data], laidTests := true, laidLooks := .later }
def TableStepsUptoCardSaid : Prop := Claim7.holds Tryd.pinned (.plain (OpenSpec.upto tableStepsSpec)) tableStepsUptoCard

/-- THE SECOND FORM's CARD OF 'spadillelaw07.TableFinished'. -/
def tableFinishedUptoCard : Claim7 := { stood := { row := tableFinishedUptoRow, standIns := [], harness := (true, "8782c0153d872f02199626c1a680d6ae80fe28ddc92c669cfa0e9a89e161db28"), looks := false }, kinds := [], alts := [], laidByText := true, laidKinds := [.data], laidTests := true, laidLooks := .later }
def TableFinishedUptoCardSaid : Prop := Claim7.holds Tryd.pinned (.plain (OpenSpec.upto tableFinishedSpec)) tableFinishedUptoCard

/-- THE SECOND FORM's CARD OF 'spadillelaw07.TableWork'. -/
def tableWorkUptoCard : Claim7 := { stood := { row := tableWorkUptoRow, standIns := [], harness := (true, "8782c0153d872f02199626c1a680d6ae80fe28ddc92c669cfa0e9a89e161db28"), looks := false }, kinds := [], alts := [], laidByText := true, laidKinds := [.data], laidTests := true, laidLooks := .later }
def TableWorkUptoCardSaid : Prop := Claim7.holds Tryd.pinned (.plain (OpenSpec.upto tableWorkSpec)) tableWorkUptoCard

/-- THE SECOND FORM's CARD OF 'spadillelaw07.TableOnes'. -/
def tableOnesUptoCard : Claim7 := { stood := { row := tableOnesUptoRow, standIns := [], harness := (true, "8782c0153d872f02199626c1a680d6ae80fe28ddc92c669cfa0e9a89e161db28"), looks := false }, kinds := [], alts := [], laidByText := true, laidKinds := [.data], laidTests := true, laidLooks := .later }
def TableOnesUptoCardSaid : Prop := Claim7.holds Tryd.pinned (.plain (OpenSpec.upto tableOnesSpec)) tableOnesUptoCard
end Rows
end Go.Proofs.YtpfpakeeaehmhaaDoor
