/-
  DERIVED. GIVEN WITH THE SEED: THE CARDS: each row of YtglnihplphhhoaaDoorRows.lean that lists a variable, with what it lists TIED to the program's text (the seventh form; the later family's looks); each row that meets fmt, with fmt's text TOLD by the authors' own Lean function (tested against real Go, not proved from fmt's source: count such statements apart). THE CARD IS WHAT COUNTS. Prove the row's statement (the work); the ties are given (YtglnihplphhhoaaDoorTie.lean); close each card by the builder's one call (the guide's Derived/Test/ToyasCard.lean, 'card_holds'). Laid BY PROGRAM, IN A SANDBOX (cutbox-door.mjs). By AI agents, Wed Nov 11 2026. No macro, syntax, notation, axiom, sorry.
-/
import Derived.Test.YtglnihplphhhoaaDoorRows
import GoSem.ClaimSeven
namespace Go.Proofs.YtglnihplphhhoaaDoor
namespace Rows

/-- THE TIED CARD OF 'spadillelaw07.TableRanks'. -/
def tableRanksCard : Claim7 := { stood := { row := tableRanksRow, standIns := [], harness := (true, "c295823a7545741abe47c3afd74aa2af9dbd4b4b6bf1e40ce963ef64df7a6f12"), looks := false }, kinds := [], alts := [], laidByText := true, laidKinds := [.data], laidTests := true, laidLooks := .later }
def TableRanksCardSaid : Prop := Claim7.holds Tryd.pinned (.plain (OpenSpec.ofChange tableRanksSpec)) tableRanksCard

/-- THE TIED CARD OF 'spadillelaw07.TableMerged'. -/
def tableMergedCard : Claim7 := { stood := { row := tableMergedRow, standIns := [], harness := (true, "c295823a7545741abe47c3afd74aa2af9dbd4b4b6bf1e40ce963ef64df7a6f12"), looks := false }, kinds := [], alts := [], laidByText := true, laidKinds := [.data], laidTests := true, laidLooks := .later }
def TableMergedCardSaid : Prop := Claim7.holds Tryd.pinned (.plain (OpenSpec.ofChange tableMergedSpec)) tableMergedCard

/-- THE SECOND FORM's CARD OF 'spadillelaw07.TableRanks'. -/
def tableRanksUptoCard : Claim7 := { stood := { row := tableRanksUptoRow, standIns := [], harness := (true, "c295823a7545741abe47c3afd74aa2af9dbd4b4b6bf1e40ce963ef64df7a6f12"), looks := false }, kinds := [], alts := [], laidByText := true, laidKinds := [.data], laidTests := true, laidLooks := .later }
def TableRanksUptoCardSaid : Prop := Claim7.holds Tryd.pinned (.plain (OpenSpec.upto tableRanksSpec)) tableRanksUptoCard

/-- THE SECOND FORM's CARD OF 'spadillelaw07.TableMerged'. -/
def tableMergedUptoCard : Claim7 := { stood := { row := tableMergedUptoRow, standIns := [], harness := (true, "c295823a7545741abe47c3afd74aa2af9dbd4b4b6bf1e40ce963ef64df7a6f12"), looks := false }, kinds := [], alts := [], laidByText := true, laidKinds := [.data], laidTests := true, laidLooks := .later }
def TableMergedUptoCardSaid : Prop := Claim7.holds Tryd.pinned (.plain (OpenSpec.upto tableMergedSpec)) tableMergedUptoCard
end Rows
end Go.Proofs.YtglnihplphhhoaaDoor
