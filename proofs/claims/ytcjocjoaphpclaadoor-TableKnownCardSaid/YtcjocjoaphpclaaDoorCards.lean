/-
  DERIVED. GIVEN WITH THE SEED: THE CARDS: each row of YtcjocjoaphpclaaDoorRows.lean that lists a variable, with what it lists TIED to the program's text (the seventh form; the later family's looks); each row that meets fmt, with fmt's text TOLD by the authors' own Lean function (tested against real Go, not proved from fmt's source: count such statements apart). THE CARD IS WHAT COUNTS. Prove the row's statement (the work); the ties are given (YtcjocjoaphpclaaDoorTie.lean); close each card by the builder's one call (the guide's Derived/Test/ToyasCard.lean, 'card_holds'). Laid BY PROGRAM, IN A SANDBOX (cutbox-door.mjs). By AI agents, Wed Nov 11 2026. No macro, syntax, notation, axiom, sorry.
-/
import Derived.Test.YtcjocjoaphpclaaDoorRows
import GoSem.ClaimSeven
namespace Go.Proofs.YtcjocjoaphpclaaDoor
namespace Rows

/-- THE TIED CARD OF 'spadillelaw07.TableRuns'. -/
def tableRunsCard : Claim7 := { stood := { row := tableRunsRow, standIns := [], harness := (true, "9f68f30a58b776a1af1e4504a931b944a1f3ce35ce6c293089bace36a23b86e0"), looks := false }, kinds := [], alts := [], laidByText := true, laidKinds := [.data], laidTests := true, laidLooks := .later }
def TableRunsCardSaid : Prop := Claim7.holds Tryd.pinned (.plain (OpenSpec.ofChange tableRunsSpec)) tableRunsCard

/-- THE TIED CARD OF 'spadillelaw07.TableSorts'. -/
def tableSortsCard : Claim7 := { stood := { row := tableSortsRow, standIns := [], harness := (true, "9f68f30a58b776a1af1e4504a931b944a1f3ce35ce6c293089bace36a23b86e0"), looks := false }, kinds := [], alts := [], laidByText := true, laidKinds := [.data], laidTests := true, laidLooks := .later }
def TableSortsCardSaid : Prop := Claim7.holds Tryd.pinned (.plain (OpenSpec.ofChange tableSortsSpec)) tableSortsCard

/-- THE TIED CARD OF 'spadillelaw07.TableIdle'. -/
def tableIdleCard : Claim7 := { stood := { row := tableIdleRow, standIns := [], harness := (true, "9f68f30a58b776a1af1e4504a931b944a1f3ce35ce6c293089bace36a23b86e0"), looks := false }, kinds := [], alts := [], laidByText := true, laidKinds := [.data], laidTests := true, laidLooks := .later }
def TableIdleCardSaid : Prop := Claim7.holds Tryd.pinned (.plain (OpenSpec.ofChange tableIdleSpec)) tableIdleCard

/-- THE TIED CARD OF 'spadillelaw07.TablePlaces'. -/
def tablePlacesCard : Claim7 := { stood := { row := tablePlacesRow, standIns := [], harness := (true, "9f68f30a58b776a1af1e4504a931b944a1f3ce35ce6c293089bace36a23b86e0"), looks := false }, kinds := [], alts := [], laidByText := true, laidKinds := [.data], laidTests := true, laidLooks := .later }
def TablePlacesCardSaid : Prop := Claim7.holds Tryd.pinned (.plain (OpenSpec.ofChange tablePlacesSpec)) tablePlacesCard

/-- THE TIED CARD OF 'spadillelaw07.TableSteps'. -/
def tableStepsCard : Claim7 := { stood := { row := tableStepsRow, standIns := [], harness := (true, "9f68f30a58b776a1af1e4504a931b944a1f3ce35ce6c293089bace36a23b86e0"), looks := false }, kinds := [], alts := [], laidByText := true, laidKinds := [.data], laidTests := true, laidLooks := .later }
def TableStepsCardSaid : Prop := Claim7.holds Tryd.pinned (.plain (OpenSpec.ofChange tableStepsSpec)) tableStepsCard

/-- THE TIED CARD OF 'spadillelaw07.TableFinished'. -/
def tableFinishedCard : Claim7 := { stood := { row := tableFinishedRow, standIns := [], harness := (true, "9f68f30a58b776a1af1e4504a931b944a1f3ce35ce6c293089bace36a23b86e0"), looks := false }, kinds := [], alts := [], laidByText := true, laidKinds := [.data], laidTests := true, laidLooks := .later }
def TableFinishedCardSaid : Prop := Claim7.holds Tryd.pinned (.plain (OpenSpec.ofChange tableFinishedSpec)) tableFinishedCard

/-- THE TIED CARD OF 'spadillelaw07.TableTurned'. -/
def tableTurnedCard : Claim7 := { stood := { row := tableTurnedRow, standIns := [], harness := (true, "9f68f30a58b776a1af1e4504a931b944a1f3ce35ce6c293089bace36a23b86e0"), looks := false }, kinds := [], alts := [], laidByText := true, laidKinds := [.data], laidTests := true, laidLooks := .later }
def TableTurnedCardSaid : Prop := Claim7.holds Tryd.pinned (.plain (OpenSpec.ofChange tableTurnedSpec)) tableTurnedCard

/-- THE TIED CARD OF 'spadillelaw07.TableKnown'. -/
def tableKnownCard : Claim7 := { stood := { row := tableKnownRow, standIns := [], harness := (true, "9f68f30a58b776a1af1e4504a931b944a1f3ce35ce6c293089bace36a23b86e0"), looks := false }, kinds := [], alts := [], laidByText := true, laidKinds := [.data], laidTests := true, laidLooks := .later }
def TableKnownCardSaid : Prop := Claim7.holds Tryd.pinned (.plain (OpenSpec.ofChange tableKnownSpec)) tableKnownCard

/-- THE TIED CARD OF 'spadillelaw07.TableWork'. -/
def tableWorkCard : Claim7 := { stood := { row := tableWorkRow, standIns := [], harness := (true, "9f68f30a58b776a1af1e4504a931b944a1f3ce35ce6c293089bace36a23b86e0"), looks := false }, kinds := [], alts := [], laidByText := true, laidKinds := [.data], laidTests := true, laidLooks := .later }
def TableWorkCardSaid : Prop := Claim7.holds Tryd.pinned (.plain (OpenSpec.ofChange tableWorkSpec)) tableWorkCard

/-- THE TIED CARD OF 'spadillelaw07.TableRanks'. -/
def tableRanksCard : Claim7 := { stood := { row := tableRanksRow, standIns := [], harness := (true, "9f68f30a58b776a1af1e4504a931b944a1f3ce35ce6c293089bace36a23b86e0"), looks := false }, kinds := [], alts := [], laidByText := true, laidKinds := [.data], laidTests := true, laidLooks := .later }
def TableRanksCardSaid : Prop := Claim7.holds Tryd.pinned (.plain (OpenSpec.ofChange tableRanksSpec)) tableRanksCard

/-- THE TIED CARD OF 'spadillelaw07.TableMerged'. -/
def tableMergedCard : Claim7 := { stood := { row := tableMergedRow, standIns := [], harness := (true, "9f68f30a58b776a1af1e4504a931b944a1f3ce35ce6c293089bace36a23b86e0"), looks := false }, kinds := [], alts := [], laidByText := true, laidKinds := [.data], laidTests := true, laidLooks := .later }
def TableMergedCardSaid : Prop := Claim7.holds Tryd.pinned (.plain (OpenSpec.ofChange tableMergedSpec)) tableMergedCard

/-- THE TIED CARD OF 'spadillelaw07.TableOnes'. -/
def tableOnesCard : Claim7 := { stood := { row := tableOnesRow, standIns := [], harness := (true, "9f68f30a58b776a1af1e4504a931b944a1f3ce35ce6c293089bace36a23b86e0"), looks := false }, kinds := [], alts := [], laidByText := true, laidKinds := [.data], laidTests := true, laidLooks := .later }
def TableOnesCardSaid : Prop := Claim7.holds Tryd.pinned (.plain (OpenSpec.ofChange tableOnesSpec)) tableOnesCard

/-- THE SECOND FORM's CARD OF 'spadillelaw07.TableRuns'. -/
def tableRunsUptoCard : Claim7 := { stood := { row := tableRunsUptoRow, standIns := [], harness := (true, "9f68f30a58b776a1af1e4504a931b944a1f3ce35ce6c293089bace36a23b86e0"), looks := false }, kinds := [], alts := [], laidByText := true, laidKinds := [.data], laidTests := true, laidLooks := .later }
def TableRunsUptoCardSaid : Prop := Claim7.holds Tryd.pinned (.plain (OpenSpec.upto tableRunsSpec)) tableRunsUptoCard

/-- THE SECOND FORM's CARD OF 'spadillelaw07.TableSorts'. -/
def tableSortsUptoCard : Claim7 := { stood := { row := tableSortsUptoRow, standIns := [], harness := (true, "9f68f30a58b776a1af1e4504a931b944a1f3ce35ce6c293089bace36a23b86e0"), looks := false }, kinds := [], alts := [], laidByText := true, laidKinds := [.data], laidTests := true, laidLooks := .later }
def TableSortsUptoCardSaid : Prop := Claim7.holds Tryd.pinned (.plain (OpenSpec.upto tableSortsSpec)) tableSortsUptoCard

/-- THE SECOND FORM's CARD OF 'spadillelaw07.TableIdle'. -/
def tableIdleUptoCard : Claim7 := { stood := { row := tableIdleUptoRow, standIns := [], harness := (true, "9f68f30a58b776a1af1e4504a931b944a1f3ce35ce6c293089bace36a23b86e0"), looks := false }, kinds := [], alts := [], laidByText := true, laidKinds := [.data], laidTests := true, laidLooks := .later }
def TableIdleUptoCardSaid : Prop := Claim7.holds Tryd.pinned (.plain (OpenSpec.upto tableIdleSpec)) tableIdleUptoCard

/-- THE SECOND FORM's CARD OF 'spadillelaw07.TablePlaces'. -/
def tablePlacesUptoCard : Claim7 := { stood := { row := tablePlacesUptoRow, standIns := [], harness := (true, "9f68f30a58b776a1af1e4504a931b944a1f3ce35ce6c293089bace36a23b86e0"), looks := false }, kinds := [], alts := [], laidByText := true, laidKinds := [.data], laidTests := true, laidLooks := .later }
def TablePlacesUptoCardSaid : Prop := Claim7.holds Tryd.pinned (.plain (OpenSpec.upto tablePlacesSpec)) tablePlacesUptoCard

/-- THE SECOND FORM's CARD OF 'spadillelaw07.TableSteps'. -/
def tableStepsUptoCard : Claim7 := { stood := { row := tableStepsUptoRow, standIns := [], harness := (true, "9f68f30a58b776a1af1e4504a931b944a1f3ce35ce6c293089bace36a23b86e0"), looks := false }, kinds := [], alts := [], laidByText := true, laidKinds := [.data], laidTests := true, laidLooks := .later }
def TableStepsUptoCardSaid : Prop := Claim7.holds Tryd.pinned (.plain (OpenSpec.upto tableStepsSpec)) tableStepsUptoCard

/-- THE SECOND FORM's CARD OF 'spadillelaw07.TableFinished'. -/
def tableFinishedUptoCard : Claim7 := { stood := { row := tableFinishedUptoRow, standIns := [], harness := (true, "9f68f30a58b776a1af1e4504a931b944a1f3ce35ce6c293089bace36a23b86e0"), looks := false }, kinds := [], alts := [], laidByText := true, laidKinds := [.data], laidTests := true, laidLooks := .later }
def TableFinishedUptoCardSaid : Prop := Claim7.holds Tryd.pinned (.plain (OpenSpec.upto tableFinishedSpec)) tableFinishedUptoCard

/-- THE SECOND FORM's CARD OF 'spadillelaw07.TableTurned'. -/
def tableTurnedUptoCard : Claim7 := { stood := { row := tableTurnedUptoRow, standIns := [], harness := (true, "9f68f30a58b776a1af1e4504a931b944a1f3ce35ce6c293089bace36a23b86e0"), looks := false }, kinds := [], alts := [], laidByText := true, laidKinds := [.data], laidTests := true, laidLooks := .later }
def TableTurnedUptoCardSaid : Prop := Claim7.holds Tryd.pinned (.plain (OpenSpec.upto tableTurnedSpec)) tableTurnedUptoCard

/-- THE SECOND FORM's CARD OF 'spadillelaw07.TableKnown'. -/
def tableKnownUptoCard : Claim7 := { stood := { row := tableKnownUptoRow, standIns := [], harness := (true, "9f68f30a58b776a1af1e4504a931b944a1f3ce35ce6c293089bace36a23b86e0"), looks := false }, kinds := [], alts := [], laidByText := true, laidKinds := [.data], laidTests := true, laidLooks := .later }
def TableKnownUptoCardSaid : Prop := Claim7.holds Tryd.pinned (.plain (OpenSpec.upto tableKnownSpec)) tableKnownUptoCard

/-- THE SECOND FORM's CARD OF 'spadillelaw07.TableWork'. -/
def tableWorkUptoCard : Claim7 := { stood := { row := tableWorkUptoRow, standIns := [], harness := (true, "9f68f30a58b776a1af1e4504a931b944a1f3ce35ce6c293089bace36a23b86e0"), looks := false }, kinds := [], alts := [], laidByText := true, laidKinds := [.data], laidTests := true, laidLooks := .later }
def TableWorkUptoCardSaid : Prop := Claim7.holds Tryd.pinned (.plain (OpenSpec.upto tableWorkSpec)) tableWorkUptoCard

/-- THE SECOND FORM's CARD OF 'spadillelaw07.TableRanks'. -/
def tableRanksUptoCard : Claim7 := { stood := { row := tableRanksUptoRow, standIns := [], harness := (true, "9f68f30a58b776a1af1e4504a931b944a1f3ce35ce6c293089bace36a23b86e0"), looks := false }, kinds := [], alts := [], laidByText := true, laidKinds := [.data], laidTests := true, laidLooks := .later }
def TableRanksUptoCardSaid : Prop := Claim7.holds Tryd.pinned (.plain (OpenSpec.upto tableRanksSpec)) tableRanksUptoCard

/-- THE SECOND FORM's CARD OF 'spadillelaw07.TableMerged'. -/
def tableMergedUptoCard : Claim7 := { stood := { row := tableMergedUptoRow, standIns := [], harness := (true, "9f68f30a58b776a1af1e4504a931b944a1f3ce35ce6c293089bace36a23b86e0"), looks := false }, kinds := [], alts := [], laidByText := true, laidKinds := [.data], laidTests := true, laidLooks := .later }
def TableMergedUptoCardSaid : Prop := Claim7.holds Tryd.pinned (.plain (OpenSpec.upto tableMergedSpec)) tableMergedUptoCard

/-- THE SECOND FORM's CARD OF 'spadillelaw07.TableOnes'. -/
def tableOnesUptoCard : Claim7 := { stood := { row := tableOnesUptoRow, standIns := [], harness := (true, "9f68f30a58b776a1af1e4504a931b944a1f3ce35ce6c293089bace36a23b86e0"), looks := false }, kinds := [], alts := [], laidByText := true, laidKinds := [.data], laidTests := true, laidLooks := .later }
def TableOnesUptoCardSaid : Prop := Claim7.holds Tryd.pinned (.plain (OpenSpec.upto tableOnesSpec)) tableOnesUptoCard
end Rows
end Go.Proofs.YtcjocjoaphpclaaDoor
