/-
  DERIVED. GIVEN WITH THE SEED: THE CARDS: each row of YtalnfeacnnmchaaDoorRows.lean that lists a variable, with what it lists TIED to the program's text (the seventh form; the later family's looks); each row that meets fmt, with fmt's text TOLD by the authors' own Lean function (tested against real Go, not proved from fmt's source: count such statements apart). THE CARD IS WHAT COUNTS. Prove the row's statement (the work); the ties are given (YtalnfeacnnmchaaDoorTie.lean); close each card by the builder's one call (the guide's Derived/Test/ToyasCard.lean, 'card_holds'). Laid BY PROGRAM, IN A SANDBOX (cutbox-door.mjs). By AI agents, Wed Nov 11 2026. No macro, syntax, notation, axiom, sorry.
-/
import Derived.Test.YtalnfeacnnmchaaDoorRows
import GoSem.ClaimSeven
namespace Go.Proofs.YtalnfeacnnmchaaDoor
namespace Rows

/-- THE TIED CARD OF 'spadillelaw07.TableRuns'. -/
def tableRunsCard : Claim7 := { stood := { row := tableRunsRow, standIns := [], harness := (true, "02d534d4d10b49f16fc3a53cafc183e7eb11ee0e94338a2096ba0549462cdb0b"), looks := false }, kinds := [], alts := [], laidByText := true, laidKinds := [.data], laidTests := true, laidLooks := .later }
def TableRunsCardSaid : Prop := Claim7.holds Tryd.pinned (.plain (OpenSpec.ofChange tableRunsSpec)) tableRunsCard

/-- THE SECOND FORM's CARD OF 'spadillelaw07.TableRuns'. -/
def tableRunsUptoCard : Claim7 := { stood := { row := tableRunsUptoRow, standIns := [], harness := (true, "02d534d4d10b49f16fc3a53cafc183e7eb11ee0e94338a2096ba0549462cdb0b"), looks := false }, kinds := [], alts := [], laidByText := true, laidKinds := [.data], laidTests := true, laidLooks := .later }
def TableRunsUptoCardSaid : Prop := Claim7.holds Tryd.pinned (.plain (OpenSpec.upto tableRunsSpec)) tableRunsUptoCard
end Rows
end Go.Proofs.YtalnfeacnnmchaaDoor
