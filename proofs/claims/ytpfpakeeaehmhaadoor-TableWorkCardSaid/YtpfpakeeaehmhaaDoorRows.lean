/-
  NARROWER THAN 'FOR EVERY INPUT', by the rows' own cells (each row's printed sentence says how): TableIdle: laid · TablePlaces: laid · TableSteps: laid · TableFinished: laid · TableWork: laid · TableOnes: laid.
  DERIVED. THE GIVEN ROWS OF THIS SEAT. 6 by the template 'for every input the law returns true; each argument reads behind the call as it read before'; 0 by the template 'total and deterministic' (their statements: YtpfpakeeaehmhaaDoorTotals.lean).
  GIVEN WITH THE SEED: the statements are not yours to turn. If you find one false, say at which input.
  Laid BY PROGRAM, IN A SANDBOX (cutbox-rows.mjs): the forced cells as the released guide's own fill.sh prints them over the translation d0e8822e517e9777… (all of the seat's roots in one cut). By AI agents, Wed Nov 11 2026. No macro, syntax, notation, axiom, sorry.
-/
import Derived.Test.YtpfpakeeaehmhaaDoorChecked
import GoSem.Claim
import GoSem.ClaimJoined
import GoSem.ClaimMapViews
import Derived.JoinedTies
import Derived.KernelRfl
namespace Go.Proofs.YtpfpakeeaehmhaaDoor
/- THE CELL 'sum', in the pinned program and in every row, IS THE sha256 OF THE DUMP (.gsa) THAT YtpfpakeeaehmhaaDoorProg.lean LOADS. Nothing in Lean hashes anything: it is a label: what it is worth is what the hold of that sum in a sandbox is worth. -/
noncomputable def Tryd.pinned : Pinned := { name := "ytpfpakeeaehmhaadoor", sum := "d0e8822e517e9777d80faaad60fea2f5bf297787c566530893d5a43532538e6f", checked := Tryd.checked }
namespace Rows
def none {H : Type} : Left H := { results := [], args := [] }

/- WHAT THE LISTED PACKAGE-LEVEL VARIABLES READ AS WHEN THE CALL BEGINS. Each datum BY PROGRAM (the guide's laid-datum.mjs) off the statement by which the dump's own 'gosem.cut.vars' lays the variable. In a bare row this is a premise. The card (YtpfpakeeaehmhaaDoorCards.lean) ties it to the program's text. -/
def laid_math_bits_deBruijn64tab {H : Type} : DataW H := .agg [.lit (.int .u8 0), .lit (.int .u8 1), .lit (.int .u8 56), .lit (.int .u8 2), .lit (.int .u8 57), .lit (.int .u8 49), .lit (.int .u8 28), .lit (.int .u8 3), .lit (.int .u8 61), .lit (.int .u8 58), .lit (.int .u8 42), .lit (.int .u8 50), .lit (.int .u8 38), .lit (.int .u8 29), .lit (.int .u8 17), .lit (.int .u8 4), .lit (.int .u8 62), .lit (.int .u8 47), .lit (.int .u8 59), .lit (.int .u8 36), .lit (.int .u8 45), .lit (.int .u8 43), .lit (.int .u8 51), .lit (.int .u8 22), .lit (.int .u8 53), .lit (.int .u8 39), .lit (.int .u8 33), .lit (.int .u8 30), .lit (.int .u8 24), .lit (.int .u8 18), .lit (.int .u8 12), .lit (.int .u8 5), .lit (.int .u8 63), .lit (.int .u8 55), .lit (.int .u8 48), .lit (.int .u8 27), .lit (.int .u8 60), .lit (.int .u8 41), .lit (.int .u8 37), .lit (.int .u8 16), .lit (.int .u8 46), .lit (.int .u8 35), .lit (.int .u8 44), .lit (.int .u8 21), .lit (.int .u8 52), .lit (.int .u8 32), .lit (.int .u8 23), .lit (.int .u8 11), .lit (.int .u8 54), .lit (.int .u8 26), .lit (.int .u8 40), .lit (.int .u8 15), .lit (.int .u8 34), .lit (.int .u8 20), .lit (.int .u8 31), .lit (.int .u8 10), .lit (.int .u8 25), .lit (.int .u8 14), .lit (.int .u8 19), .lit (.int .u8 9), .lit (.int .u8 13), .lit (.int .u8 8), .lit (.int .u8 7), .lit (.int .u8 6)]

/-- 'spadillelaw07.TableIdle': WHATEVER THE INPUT: true; the input reads as it did. -/
def tableIdleSpec : ChangeSpec := { name := "tableIdle", fn := fun _ => fun
  | [d] => { results := [.lit (.bool true)], args := [d] }
  | _ => none }
def tableIdleRow : OpenClaim := { program := "ytpfpakeeaehmhaadoor", sum := "d0e8822e517e9777d80faaad60fea2f5bf297787c566530893d5a43532538e6f", func := "spadille/spadillelaw07.TableIdle", spec := "tableIdle", unfollowed := true, recurses := true, named := ["math/bits.deBruijn64tab"], plainKeys := false, apart := false, laid := [("math/bits.deBruijn64tab", laid_math_bits_deBruijn64tab)] }
def TableIdleSaid : Prop := tableIdleRow.holds Tryd.pinned (OpenSpec.ofChange tableIdleSpec)

/-- ITS FALSE NEIGHBOUR: 'it returns false'. Refute it at one input. -/
def tableIdleWrong : ChangeSpec := { name := "tableIdle", fn := fun _ => fun
  | [d] => { results := [.lit (.bool false)], args := [d] }
  | _ => none }
def TableIdleWrongFalsely : Prop := tableIdleRow.holds Tryd.pinned (OpenSpec.ofChange tableIdleWrong)

/-- 'spadillelaw07.TablePlaces': WHATEVER THE INPUT: true; the input reads as it did. -/
def tablePlacesSpec : ChangeSpec := { name := "tablePlaces", fn := fun _ => fun
  | [d1, d2, d3] => { results := [.lit (.bool true)], args := [d1, d2, d3] }
  | _ => none }
def tablePlacesRow : OpenClaim := { program := "ytpfpakeeaehmhaadoor", sum := "d0e8822e517e9777d80faaad60fea2f5bf297787c566530893d5a43532538e6f", func := "spadille/spadillelaw07.TablePlaces", spec := "tablePlaces", unfollowed := true, recurses := true, named := ["math/bits.deBruijn64tab"], plainKeys := false, apart := false, laid := [("math/bits.deBruijn64tab", laid_math_bits_deBruijn64tab)] }
def TablePlacesSaid : Prop := tablePlacesRow.holds Tryd.pinned (OpenSpec.ofChange tablePlacesSpec)

/-- ITS FALSE NEIGHBOUR: 'it returns false'. Refute it at one input. -/
def tablePlacesWrong : ChangeSpec := { name := "tablePlaces", fn := fun _ => fun
  | [d1, d2, d3] => { results := [.lit (.bool false)], args := [d1, d2, d3] }
  | _ => none }
def TablePlacesWrongFalsely : Prop := tablePlacesRow.holds Tryd.pinned (OpenSpec.ofChange tablePlacesWrong)

/-- 'spadillelaw07.TableSteps': WHATEVER THE INPUT: true; the input reads as it did. -/
def tableStepsSpec : ChangeSpec := { name := "tableSteps", fn := fun _ => fun
  | [d1, d2] => { results := [.lit (.bool true)], args := [d1, d2] }
  | _ => none }
def tableStepsRow : OpenClaim := { program := "ytpfpakeeaehmhaadoor", sum := "d0e8822e517e9777d80faaad60fea2f5bf297787c566530893d5a43532538e6f", func := "spadille/spadillelaw07.TableSteps", spec := "tableSteps", unfollowed := true, recurses := true, named := ["math/bits.deBruijn64tab"], plainKeys := false, apart := false, laid := [("math/bits.deBruijn64tab", laid_math_bits_deBruijn64tab)] }
def TableStepsSaid : Prop := tableStepsRow.holds Tryd.pinned (OpenSpec.ofChange tableStepsSpec)

/-- ITS FALSE NEIGHBOUR: 'it returns false'. Refute it at one input. -/
def tableStepsWrong : ChangeSpec := { name := "tableSteps", fn := fun _ => fun
  | [d1, d2] => { results := [.lit (.bool false)], args := [d1, d2] }
  | _ => none }
def TableStepsWrongFalsely : Prop := tableStepsRow.holds Tryd.pinned (OpenSpec.ofChange tableStepsWrong)

/-- 'spadillelaw07.TableFinished': WHATEVER THE INPUT: true; the input reads as it did. -/
def tableFinishedSpec : ChangeSpec := { name := "tableFinished", fn := fun _ => fun
  | [d] => { results := [.lit (.bool true)], args := [d] }
  | _ => none }
def tableFinishedRow : OpenClaim := { program := "ytpfpakeeaehmhaadoor", sum := "d0e8822e517e9777d80faaad60fea2f5bf297787c566530893d5a43532538e6f", func := "spadille/spadillelaw07.TableFinished", spec := "tableFinished", unfollowed := true, recurses := true, named := ["math/bits.deBruijn64tab"], plainKeys := false, apart := false, laid := [("math/bits.deBruijn64tab", laid_math_bits_deBruijn64tab)] }
def TableFinishedSaid : Prop := tableFinishedRow.holds Tryd.pinned (OpenSpec.ofChange tableFinishedSpec)

/-- ITS FALSE NEIGHBOUR: 'it returns false'. Refute it at one input. -/
def tableFinishedWrong : ChangeSpec := { name := "tableFinished", fn := fun _ => fun
  | [d] => { results := [.lit (.bool false)], args := [d] }
  | _ => none }
def TableFinishedWrongFalsely : Prop := tableFinishedRow.holds Tryd.pinned (OpenSpec.ofChange tableFinishedWrong)

/-- 'spadillelaw07.TableWork': WHATEVER THE INPUT: true; the input reads as it did. -/
def tableWorkSpec : ChangeSpec := { name := "tableWork", fn := fun _ => fun
  | [d] => { results := [.lit (.bool true)], args := [d] }
  | _ => none }
def tableWorkRow : OpenClaim := { program := "ytpfpakeeaehmhaadoor", sum := "d0e8822e517e9777d80faaad60fea2f5bf297787c566530893d5a43532538e6f", func := "spadille/spadillelaw07.TableWork", spec := "tableWork", unfollowed := true, recurses := true, named := ["math/bits.deBruijn64tab"], plainKeys := false, apart := false, laid := [("math/bits.deBruijn64tab", laid_math_bits_deBruijn64tab)] }
def TableWorkSaid : Prop := tableWorkRow.holds Tryd.pinned (OpenSpec.ofChange tableWorkSpec)

/-- ITS FALSE NEIGHBOUR: 'it returns false'. Refute it at one input. -/
def tableWorkWrong : ChangeSpec := { name := "tableWork", fn := fun _ => fun
  | [d] => { results := [.lit (.bool false)], args := [d] }
  | _ => none }
def TableWorkWrongFalsely : Prop := tableWorkRow.holds Tryd.pinned (OpenSpec.ofChange tableWorkWrong)

/-- 'spadillelaw07.TableOnes': WHATEVER THE INPUT: true; the input reads as it did. -/
def tableOnesSpec : ChangeSpec := { name := "tableOnes", fn := fun _ => fun
  | [d] => { results := [.lit (.bool true)], args := [d] }
  | _ => none }
def tableOnesRow : OpenClaim := { program := "ytpfpakeeaehmhaadoor", sum := "d0e8822e517e9777d80faaad60fea2f5bf297787c566530893d5a43532538e6f", func := "spadille/spadillelaw07.TableOnes", spec := "tableOnes", unfollowed := true, recurses := true, named := ["math/bits.deBruijn64tab"], plainKeys := false, apart := false, laid := [("math/bits.deBruijn64tab", laid_math_bits_deBruijn64tab)] }
def TableOnesSaid : Prop := tableOnesRow.holds Tryd.pinned (OpenSpec.ofChange tableOnesSpec)

/-- ITS FALSE NEIGHBOUR: 'it returns false'. Refute it at one input. -/
def tableOnesWrong : ChangeSpec := { name := "tableOnes", fn := fun _ => fun
  | [d] => { results := [.lit (.bool false)], args := [d] }
  | _ => none }
def TableOnesWrongFalsely : Prop := tableOnesRow.holds Tryd.pinned (OpenSpec.ofChange tableOnesWrong)

/- THE SECOND FORM. 'bulk': how many values and letters a reading holds, each counted each time it is reached (what is shared counts as often as it is met; a slice's spare places count too). A statement '..UptoSaid' is the law's where the arguments, and the package variables that the reading takes, are together of bulk at most 1048576: NARROWER than '..Said'. Prove '..Said' where nothing that the law and all that it calls make is longer than what came in: it says more and counts as full. Else prove '..UptoSaid'. A law counts once. -/
mutual
def uptoBulk {H : Type} : DataW H → Nat
  | .lit (.string bytes) => bytes.length + 1
  | .lit _ => 1
  | .nil => 1
  | .ptr d => uptoBulk d + 1
  | .slice elems spare => uptoBulkAll elems + uptoBulkAll spare + 1
  | .agg parts => uptoBulkAll parts + 1
  | .iface _ d => uptoBulk d + 1
  | .map entries => uptoBulkEntries entries + 1
  | .held _ => 1
def uptoBulkAll {H : Type} : List (DataW H) → Nat
  | [] => 0
  | d :: r => uptoBulk d + uptoBulkAll r
def uptoBulkEntries {H : Type} : List (Lit × DataW H) → Nat
  | [] => 0
  | x :: r => uptoBulkEntry x + uptoBulkEntries r
def uptoBulkEntry {H : Type} : Lit × DataW H → Nat
  | (.string bytes, d) => bytes.length + uptoBulk d + 1
  | (_, d) => uptoBulk d + 1
 end
def uptoSmall : (H : Type) → List (DataW H) → Bool := fun _ ds => decide (uptoBulkAll ds ≤ 1048576)
def OpenSpec.upto (s : _root_.Go.ChangeSpec) : _root_.Go.OpenSpec := { _root_.Go.OpenSpec.ofChange s with cond := some uptoSmall }

/-- 'spadillelaw07.TableIdle', WHERE WHAT IT READS IS OF BULK AT MOST 1048576: true; the input reads as it did. -/
def tableIdleUptoRow : OpenClaim := { program := "ytpfpakeeaehmhaadoor", sum := "d0e8822e517e9777d80faaad60fea2f5bf297787c566530893d5a43532538e6f", func := "spadille/spadillelaw07.TableIdle", spec := "tableIdle", unfollowed := true, recurses := true, named := ["math/bits.deBruijn64tab"], plainKeys := false, apart := false, laid := [("math/bits.deBruijn64tab", laid_math_bits_deBruijn64tab)], narrowed := true }
def TableIdleUptoSaid : Prop := tableIdleUptoRow.holds Tryd.pinned (OpenSpec.upto tableIdleSpec)

/-- 'spadillelaw07.TablePlaces', WHERE WHAT IT READS IS OF BULK AT MOST 1048576: true; the input reads as it did. -/
def tablePlacesUptoRow : OpenClaim := { program := "ytpfpakeeaehmhaadoor", sum := "d0e8822e517e9777d80faaad60fea2f5bf297787c566530893d5a43532538e6f", func := "spadille/spadillelaw07.TablePlaces", spec := "tablePlaces", unfollowed := true, recurses := true, named := ["math/bits.deBruijn64tab"], plainKeys := false, apart := false, laid := [("math/bits.deBruijn64tab", laid_math_bits_deBruijn64tab)], narrowed := true }
def TablePlacesUptoSaid : Prop := tablePlacesUptoRow.holds Tryd.pinned (OpenSpec.upto tablePlacesSpec)

/-- 'spadillelaw07.TableSteps', WHERE WHAT IT READS IS OF BULK AT MOST 1048576: true; the input reads as it did. -/
def tableStepsUptoRow : OpenClaim := { program := "ytpfpakeeaehmhaadoor", sum := "d0e8822e517e9777d80faaad60fea2f5bf297787c566530893d5a43532538e6f", func := "spadille/spadillelaw07.TableSteps", spec := "tableSteps", unfollowed := true, recurses := true, named := ["math/bits.deBruijn64tab"], plainKeys := false, apart := false, laid := [("math/bits.deBruijn64tab", laid_math_bits_deBruijn64tab)], narrowed := true }
def TableStepsUptoSaid : Prop := tableStepsUptoRow.holds Tryd.pinned (OpenSpec.upto tableStepsSpec)

/-- 'spadillelaw07.TableFinished', WHERE WHAT IT READS IS OF BULK AT MOST 1048576: true; the input reads as it did. -/
def tableFinishedUptoRow : OpenClaim := { program := "ytpfpakeeaehmhaadoor", sum := "d0e8822e517e9777d80faaad60fea2f5bf297787c566530893d5a43532538e6f", func := "spadille/spadillelaw07.TableFinished", spec := "tableFinished", unfollowed := true, recurses := true, named := ["math/bits.deBruijn64tab"], plainKeys := false, apart := false, laid := [("math/bits.deBruijn64tab", laid_math_bits_deBruijn64tab)], narrowed := true }
def TableFinishedUptoSaid : Prop := tableFinishedUptoRow.holds Tryd.pinned (OpenSpec.upto tableFinishedSpec)

/-- 'spadillelaw07.TableWork', WHERE WHAT IT READS IS OF BULK AT MOST 1048576: true; the input reads as it did. -/
def tableWorkUptoRow : OpenClaim := { program := "ytpfpakeeaehmhaadoor", sum := "d0e8822e517e9777d80faaad60fea2f5bf297787c566530893d5a43532538e6f", func := "spadille/spadillelaw07.TableWork", spec := "tableWork", unfollowed := true, recurses := true, named := ["math/bits.deBruijn64tab"], plainKeys := false, apart := false, laid := [("math/bits.deBruijn64tab", laid_math_bits_deBruijn64tab)], narrowed := true }
def TableWorkUptoSaid : Prop := tableWorkUptoRow.holds Tryd.pinned (OpenSpec.upto tableWorkSpec)

/-- 'spadillelaw07.TableOnes', WHERE WHAT IT READS IS OF BULK AT MOST 1048576: true; the input reads as it did. -/
def tableOnesUptoRow : OpenClaim := { program := "ytpfpakeeaehmhaadoor", sum := "d0e8822e517e9777d80faaad60fea2f5bf297787c566530893d5a43532538e6f", func := "spadille/spadillelaw07.TableOnes", spec := "tableOnes", unfollowed := true, recurses := true, named := ["math/bits.deBruijn64tab"], plainKeys := false, apart := false, laid := [("math/bits.deBruijn64tab", laid_math_bits_deBruijn64tab)], narrowed := true }
def TableOnesUptoSaid : Prop := tableOnesUptoRow.holds Tryd.pinned (OpenSpec.upto tableOnesSpec)

end Rows
end Go.Proofs.YtpfpakeeaehmhaaDoor
