/-
  DERIVED. GIVEN WITH THE SEED: THE CARDS: each row of YtokbaaeimejjlaaDoorRows.lean that lists a variable, with what it lists TIED to the program's text (the seventh form; the later family's looks); each row that meets fmt, with fmt's text TOLD by the authors' own Lean function (tested against real Go, not proved from fmt's source: count such statements apart). THE CARD IS WHAT COUNTS. Prove the row's statement (the work); the ties are given (YtokbaaeimejjlaaDoorTie.lean); close each card by the builder's one call (the guide's Derived/Test/ToyasCard.lean, 'card_holds'). Laid BY PROGRAM, IN A SANDBOX (cutbox-door.mjs). By AI agents, Wed Nov 11 2026. No macro, syntax, notation, axiom, sorry.
-/
import Derived.Test.YtokbaaeimejjlaaDoorRows
import GoSem.ClaimSeven
namespace Go.Proofs.YtokbaaeimejjlaaDoor
namespace Rows

/-- THE TIED CARD OF 'spadillelaw03.BackOrbit'. -/
def backOrbitCard : Claim7 := { stood := { row := backOrbitRow, standIns := [], harness := (true, "73d0d4c256ffb46832f4730e984fb63ee74951f146b9e5b1ed93fb6a58858faf"), looks := false }, kinds := [], alts := [], laidByText := true, laidKinds := [.data], laidTests := true, laidLooks := .later }
def BackOrbitCardSaid : Prop := Claim7.holds Tryd.pinned (.plain (OpenSpec.ofChange backOrbitSpec)) backOrbitCard

/-- THE TIED CARD OF 'spadillelaw03.BackShown'. -/
def backShownCard : Claim7 := { stood := { row := backShownRow, standIns := [], harness := (true, "73d0d4c256ffb46832f4730e984fb63ee74951f146b9e5b1ed93fb6a58858faf"), looks := false }, kinds := [], alts := [], laidByText := true, laidKinds := [.data], laidTests := true, laidLooks := .later }
def BackShownCardSaid : Prop := Claim7.holds Tryd.pinned (.plain (OpenSpec.ofChange backShownSpec)) backShownCard

/-- THE TIED CARD OF 'spadillelaw03.BackMore'. -/
def backMoreCard : Claim7 := { stood := { row := backMoreRow, standIns := [], harness := (true, "73d0d4c256ffb46832f4730e984fb63ee74951f146b9e5b1ed93fb6a58858faf"), looks := false }, kinds := [], alts := [], laidByText := true, laidKinds := [.data], laidTests := true, laidLooks := .later }
def BackMoreCardSaid : Prop := Claim7.holds Tryd.pinned (.plain (OpenSpec.ofChange backMoreSpec)) backMoreCard

/-- THE TIED CARD OF 'spadillelaw03.BackProducts'. -/
def backProductsCard : Claim7 := { stood := { row := backProductsRow, standIns := [], harness := (true, "73d0d4c256ffb46832f4730e984fb63ee74951f146b9e5b1ed93fb6a58858faf"), looks := false }, kinds := [], alts := [], laidByText := true, laidKinds := [.data], laidTests := true, laidLooks := .later }
def BackProductsCardSaid : Prop := Claim7.holds Tryd.pinned (.plain (OpenSpec.ofChange backProductsSpec)) backProductsCard

/-- THE TIED CARD OF 'spadillelaw03.BackBurnside'. -/
def backBurnsideCard : Claim7 := { stood := { row := backBurnsideRow, standIns := [], harness := (true, "73d0d4c256ffb46832f4730e984fb63ee74951f146b9e5b1ed93fb6a58858faf"), looks := false }, kinds := [], alts := [], laidByText := true, laidKinds := [.data], laidTests := true, laidLooks := .later }
def BackBurnsideCardSaid : Prop := Claim7.holds Tryd.pinned (.plain (OpenSpec.ofChange backBurnsideSpec)) backBurnsideCard

/-- THE TIED CARD OF 'spadillelaw03.BackKnown'. -/
def backKnownCard : Claim7 := { stood := { row := backKnownRow, standIns := [], harness := (true, "73d0d4c256ffb46832f4730e984fb63ee74951f146b9e5b1ed93fb6a58858faf"), looks := false }, kinds := [], alts := [], laidByText := true, laidKinds := [.data], laidTests := true, laidLooks := .later }
def BackKnownCardSaid : Prop := Claim7.holds Tryd.pinned (.plain (OpenSpec.ofChange backKnownSpec)) backKnownCard

/-- THE SECOND FORM's CARD OF 'spadillelaw03.BackOrbit'. -/
def backOrbitUptoCard : Claim7 := { stood := { row := backOrbitUptoRow, standIns := [], harness := (true, "73d0d4c256ffb46832f4730e984fb63ee74951f146b9e5b1ed93fb6a58858faf"), looks := false }, kinds := [], alts := [], laidByText := true, laidKinds := [.data], laidTests := true, laidLooks := .later }
def BackOrbitUptoCardSaid : Prop := Claim7.holds Tryd.pinned (.plain (OpenSpec.upto backOrbitSpec)) backOrbitUptoCard

/-- THE SECOND FORM's CARD OF 'spadillelaw03.BackShown'. -/
def backShownUptoCard : Claim7 := { stood := { row := backShownUptoRow, standIns := [], harness := (true, "73d0d4c256ffb46832f4730e984fb63ee74951f146b9e5b1ed93fb6a58858faf"), looks := false }, kinds := [], alts := [], laidByText := true, laidKinds := [.data], laidTests := true, laidLooks := .later }
def BackShownUptoCardSaid : Prop := Claim7.holds Tryd.pinned (.plain (OpenSpec.upto backShownSpec)) backShownUptoCard

/-- THE SECOND FORM's CARD OF 'spadillelaw03.BackMore'. -/
def backMoreUptoCard : Claim7 := { stood := { row := backMoreUptoRow, standIns := [], harness := (true, "73d0d4c256ffb46832f4730e984fb63ee74951f146b9e5b1ed93fb6a58858faf"), looks := false }, kinds := [], alts := [], laidByText := true, laidKinds := [.data], laidTests := true, laidLooks := .later }
def BackMoreUptoCardSaid : Prop := Claim7.holds Tryd.pinned (.plain (OpenSpec.upto backMoreSpec)) backMoreUptoCard

/-- THE SECOND FORM's CARD OF 'spadillelaw03.BackProducts'. -/
def backProductsUptoCard : Claim7 := { stood := { row := backProductsUptoRow, standIns := [], harness := (true, "73d0d4c256ffb46832f4730e984fb63ee74951f146b9e5b1ed93fb6a58858faf"), looks := false }, kinds := [], alts := [], laidByText := true, laidKinds := [.data], laidTests := true, laidLooks := .later }
def BackProductsUptoCardSaid : Prop := Claim7.holds Tryd.pinned (.plain (OpenSpec.upto backProductsSpec)) backProductsUptoCard

/-- THE SECOND FORM's CARD OF 'spadillelaw03.BackBurnside'. -/
def backBurnsideUptoCard : Claim7 := { stood := { row := backBurnsideUptoRow, standIns := [], harness := (true, "73d0d4c256ffb46832f4730e984fb63ee74951f146b9e5b1ed93fb6a58858faf"), looks := false }, kinds := [], alts := [], laidByText := true, laidKinds := [.data], laidTests := true, laidLooks := .later }
def BackBurnsideUptoCardSaid : Prop := Claim7.holds Tryd.pinned (.plain (OpenSpec.upto backBurnsideSpec)) backBurnsideUptoCard

/-- THE SECOND FORM's CARD OF 'spadillelaw03.BackKnown'. -/
def backKnownUptoCard : Claim7 := { stood := { row := backKnownUptoRow, standIns := [], harness := (true, "73d0d4c256ffb46832f4730e984fb63ee74951f146b9e5b1ed93fb6a58858faf"), looks := false }, kinds := [], alts := [], laidByText := true, laidKinds := [.data], laidTests := true, laidLooks := .later }
def BackKnownUptoCardSaid : Prop := Claim7.holds Tryd.pinned (.plain (OpenSpec.upto backKnownSpec)) backKnownUptoCard
end Rows
end Go.Proofs.YtokbaaeimejjlaaDoor
