/-
  NARROWER THAN 'FOR EVERY INPUT', by the rows' own cells (each row's printed sentence says how): BackTurned: laid · BackKin: laid · BackCounts: laid · BackCells: laid · BackPresses: laid · BackAll: laid.
  DERIVED. THE GIVEN ROWS OF THIS SEAT. 6 by the template 'for every input the law returns true; each argument reads behind the call as it read before'; 0 by the template 'total and deterministic' (their statements: YtokbaaeimejjlaaGreatDoorTotals.lean).
  GIVEN WITH THE SEED: the statements are not yours to turn. If you find one false, say at which input.
  Laid BY PROGRAM, IN A SANDBOX (cutbox-rows.mjs): the forced cells as the released guide's own fill.sh prints them over the translation 9c4398a4c7f6a823… (all of the seat's roots in one cut). By AI agents, Wed Nov 11 2026. No macro, syntax, notation, axiom, sorry.
-/
import Derived.Test.YtokbaaeimejjlaaGreatDoorChecked
import GoSem.Claim
import GoSem.ClaimJoined
import GoSem.ClaimMapViews
import Derived.JoinedTies
import Derived.KernelRfl
namespace Go.Proofs.YtokbaaeimejjlaaGreatDoor
/- THE CELL 'sum', in the pinned program and in every row, IS THE sha256 OF THE DUMP (.gsa) THAT YtokbaaeimejjlaaGreatDoorProg.lean LOADS. Nothing in Lean hashes anything: it is a label: what it is worth is what the hold of that sum in a sandbox is worth. -/
noncomputable def Tryz.pinned : Pinned := { name := "ytokbaaeimejjlaagreatdoor", sum := "9c4398a4c7f6a82371b1ff63dd3cf05f8bd76f41b0f9d23ac3df330783a6ddd4", checked := Tryz.checked }
namespace Rows
def none {H : Type} : Left H := { results := [], args := [] }

/- WHAT THE LISTED PACKAGE-LEVEL VARIABLES READ AS WHEN THE CALL BEGINS. Each datum BY PROGRAM (the guide's laid-datum.mjs) off the statement by which the dump's own 'gosem.cut.vars' lays the variable. In a bare row this is a premise. The card (YtokbaaeimejjlaaGreatDoorCards.lean) ties it to the program's text. -/
def laid_math_bits_deBruijn32tab {H : Type} : DataW H := .agg [.lit (.int .u8 0), .lit (.int .u8 1), .lit (.int .u8 28), .lit (.int .u8 2), .lit (.int .u8 29), .lit (.int .u8 14), .lit (.int .u8 24), .lit (.int .u8 3), .lit (.int .u8 30), .lit (.int .u8 22), .lit (.int .u8 20), .lit (.int .u8 15), .lit (.int .u8 25), .lit (.int .u8 17), .lit (.int .u8 4), .lit (.int .u8 8), .lit (.int .u8 31), .lit (.int .u8 27), .lit (.int .u8 13), .lit (.int .u8 23), .lit (.int .u8 21), .lit (.int .u8 19), .lit (.int .u8 16), .lit (.int .u8 7), .lit (.int .u8 26), .lit (.int .u8 12), .lit (.int .u8 18), .lit (.int .u8 6), .lit (.int .u8 11), .lit (.int .u8 5), .lit (.int .u8 10), .lit (.int .u8 9)]

/-- 'spadillelaw03.BackTurned': WHATEVER THE INPUT: true; the input reads as it did. -/
def backTurnedSpec : ChangeSpec := { name := "backTurned", fn := fun _ => fun
  | [d1, d2, d3, d4] => { results := [.lit (.bool true)], args := [d1, d2, d3, d4] }
  | _ => none }
def backTurnedRow : OpenClaim := { program := "ytokbaaeimejjlaagreatdoor", sum := "9c4398a4c7f6a82371b1ff63dd3cf05f8bd76f41b0f9d23ac3df330783a6ddd4", func := "spadille/spadillelaw03.BackTurned", spec := "backTurned", unfollowed := true, recurses := true, named := ["math/bits.deBruijn32tab"], apart := false, laid := [("math/bits.deBruijn32tab", laid_math_bits_deBruijn32tab)] }
def BackTurnedSaid : Prop := backTurnedRow.holds Tryz.pinned (OpenSpec.ofChange backTurnedSpec)

/-- ITS FALSE NEIGHBOUR: 'it returns false'. Refute it at one input. -/
def backTurnedWrong : ChangeSpec := { name := "backTurned", fn := fun _ => fun
  | [d1, d2, d3, d4] => { results := [.lit (.bool false)], args := [d1, d2, d3, d4] }
  | _ => none }
def BackTurnedWrongFalsely : Prop := backTurnedRow.holds Tryz.pinned (OpenSpec.ofChange backTurnedWrong)

/-- 'spadillelaw03.BackKin': WHATEVER THE INPUT: true; the input reads as it did. -/
def backKinSpec : ChangeSpec := { name := "backKin", fn := fun _ => fun
  | [d1, d2] => { results := [.lit (.bool true)], args := [d1, d2] }
  | _ => none }
def backKinRow : OpenClaim := { program := "ytokbaaeimejjlaagreatdoor", sum := "9c4398a4c7f6a82371b1ff63dd3cf05f8bd76f41b0f9d23ac3df330783a6ddd4", func := "spadille/spadillelaw03.BackKin", spec := "backKin", unfollowed := true, recurses := true, named := ["math/bits.deBruijn32tab"], apart := false, laid := [("math/bits.deBruijn32tab", laid_math_bits_deBruijn32tab)] }
def BackKinSaid : Prop := backKinRow.holds Tryz.pinned (OpenSpec.ofChange backKinSpec)

/-- ITS FALSE NEIGHBOUR: 'it returns false'. Refute it at one input. -/
def backKinWrong : ChangeSpec := { name := "backKin", fn := fun _ => fun
  | [d1, d2] => { results := [.lit (.bool false)], args := [d1, d2] }
  | _ => none }
def BackKinWrongFalsely : Prop := backKinRow.holds Tryz.pinned (OpenSpec.ofChange backKinWrong)

/-- 'spadillelaw03.BackCounts': WHATEVER THE INPUT: true; the input reads as it did. -/
def backCountsSpec : ChangeSpec := { name := "backCounts", fn := fun _ => fun
  | [d1, d2, d3] => { results := [.lit (.bool true)], args := [d1, d2, d3] }
  | _ => none }
def backCountsRow : OpenClaim := { program := "ytokbaaeimejjlaagreatdoor", sum := "9c4398a4c7f6a82371b1ff63dd3cf05f8bd76f41b0f9d23ac3df330783a6ddd4", func := "spadille/spadillelaw03.BackCounts", spec := "backCounts", unfollowed := true, recurses := true, named := ["math/bits.deBruijn32tab"], apart := false, laid := [("math/bits.deBruijn32tab", laid_math_bits_deBruijn32tab)] }
def BackCountsSaid : Prop := backCountsRow.holds Tryz.pinned (OpenSpec.ofChange backCountsSpec)

/-- ITS FALSE NEIGHBOUR: 'it returns false'. Refute it at one input. -/
def backCountsWrong : ChangeSpec := { name := "backCounts", fn := fun _ => fun
  | [d1, d2, d3] => { results := [.lit (.bool false)], args := [d1, d2, d3] }
  | _ => none }
def BackCountsWrongFalsely : Prop := backCountsRow.holds Tryz.pinned (OpenSpec.ofChange backCountsWrong)

/-- 'spadillelaw03.BackCells': WHATEVER THE INPUT: true; the input reads as it did. -/
def backCellsSpec : ChangeSpec := { name := "backCells", fn := fun _ => fun
  | [d1, d2, d3] => { results := [.lit (.bool true)], args := [d1, d2, d3] }
  | _ => none }
def backCellsRow : OpenClaim := { program := "ytokbaaeimejjlaagreatdoor", sum := "9c4398a4c7f6a82371b1ff63dd3cf05f8bd76f41b0f9d23ac3df330783a6ddd4", func := "spadille/spadillelaw03.BackCells", spec := "backCells", unfollowed := true, recurses := true, named := ["math/bits.deBruijn32tab"], apart := false, laid := [("math/bits.deBruijn32tab", laid_math_bits_deBruijn32tab)] }
def BackCellsSaid : Prop := backCellsRow.holds Tryz.pinned (OpenSpec.ofChange backCellsSpec)

/-- ITS FALSE NEIGHBOUR: 'it returns false'. Refute it at one input. -/
def backCellsWrong : ChangeSpec := { name := "backCells", fn := fun _ => fun
  | [d1, d2, d3] => { results := [.lit (.bool false)], args := [d1, d2, d3] }
  | _ => none }
def BackCellsWrongFalsely : Prop := backCellsRow.holds Tryz.pinned (OpenSpec.ofChange backCellsWrong)

/-- 'spadillelaw03.BackPresses': WHATEVER THE INPUT: true; the input reads as it did. -/
def backPressesSpec : ChangeSpec := { name := "backPresses", fn := fun _ => fun
  | [d1, d2, d3] => { results := [.lit (.bool true)], args := [d1, d2, d3] }
  | _ => none }
def backPressesRow : OpenClaim := { program := "ytokbaaeimejjlaagreatdoor", sum := "9c4398a4c7f6a82371b1ff63dd3cf05f8bd76f41b0f9d23ac3df330783a6ddd4", func := "spadille/spadillelaw03.BackPresses", spec := "backPresses", unfollowed := true, recurses := true, named := ["math/bits.deBruijn32tab"], apart := false, laid := [("math/bits.deBruijn32tab", laid_math_bits_deBruijn32tab)] }
def BackPressesSaid : Prop := backPressesRow.holds Tryz.pinned (OpenSpec.ofChange backPressesSpec)

/-- ITS FALSE NEIGHBOUR: 'it returns false'. Refute it at one input. -/
def backPressesWrong : ChangeSpec := { name := "backPresses", fn := fun _ => fun
  | [d1, d2, d3] => { results := [.lit (.bool false)], args := [d1, d2, d3] }
  | _ => none }
def BackPressesWrongFalsely : Prop := backPressesRow.holds Tryz.pinned (OpenSpec.ofChange backPressesWrong)

/-- 'spadillelaw03.BackAll': WHATEVER THE INPUT: true; the input reads as it did. -/
def backAllSpec : ChangeSpec := { name := "backAll", fn := fun _ => fun
  | [d] => { results := [.lit (.bool true)], args := [d] }
  | _ => none }
def backAllRow : OpenClaim := { program := "ytokbaaeimejjlaagreatdoor", sum := "9c4398a4c7f6a82371b1ff63dd3cf05f8bd76f41b0f9d23ac3df330783a6ddd4", func := "spadille/spadillelaw03.BackAll", spec := "backAll", unfollowed := true, recurses := true, named := ["math/bits.deBruijn32tab"], apart := false, laid := [("math/bits.deBruijn32tab", laid_math_bits_deBruijn32tab)] }
def BackAllSaid : Prop := backAllRow.holds Tryz.pinned (OpenSpec.ofChange backAllSpec)

/-- ITS FALSE NEIGHBOUR: 'it returns false'. Refute it at one input. -/
def backAllWrong : ChangeSpec := { name := "backAll", fn := fun _ => fun
  | [d] => { results := [.lit (.bool false)], args := [d] }
  | _ => none }
def BackAllWrongFalsely : Prop := backAllRow.holds Tryz.pinned (OpenSpec.ofChange backAllWrong)

/- THE SECOND FORM. 'bulk': how many values and letters a reading holds, each counted each time it is reached (what is shared counts as often as it is met; a slice's spare places count too). A statement '..UptoSaid' is the law's where the arguments, and the package variables that the reading takes, are together of bulk at most 1048576: NARROWER than '..Said'. Prove '..Said' where nothing that the law and all that it calls make is longer than what came in: it says more and counts as full. Else prove '..UptoSaid'. A law counts once. -/
mutual
def uptoBulk {H : Type} : DataW H → Nat
  | .lit (.string bytes) => bytes.length + 1
  | .lit _ => 1
  | .nil => 1
  | .ptr d => uptoBulk d + 1
  | .slice elems spare => uptoBulkAll elems + uptoBulkAll spare + 1
  | .agg parts => uptoBulkAll parts + 1
  | .iface _ d => uptoBulk d + 1
  | .map entries => uptoBulkEntries entries + 1
  | .held _ => 1
def uptoBulkAll {H : Type} : List (DataW H) → Nat
  | [] => 0
  | d :: r => uptoBulk d + uptoBulkAll r
def uptoBulkEntries {H : Type} : List (Lit × DataW H) → Nat
  | [] => 0
  | x :: r => uptoBulkEntry x + uptoBulkEntries r
def uptoBulkEntry {H : Type} : Lit × DataW H → Nat
  | (.string bytes, d) => bytes.length + uptoBulk d + 1
  | (_, d) => uptoBulk d + 1
 end
def uptoSmall : (H : Type) → List (DataW H) → Bool := fun _ ds => decide (uptoBulkAll ds ≤ 1048576)
def OpenSpec.upto (s : _root_.Go.ChangeSpec) : _root_.Go.OpenSpec := { _root_.Go.OpenSpec.ofChange s with cond := some uptoSmall }

/-- 'spadillelaw03.BackTurned', WHERE WHAT IT READS IS OF BULK AT MOST 1048576: true; the input reads as it did. -/
def backTurnedUptoRow : OpenClaim := { program := "ytokbaaeimejjlaagreatdoor", sum := "9c4398a4c7f6a82371b1ff63dd3cf05f8bd76f41b0f9d23ac3df330783a6ddd4", func := "spadille/spadillelaw03.BackTurned", spec := "backTurned", unfollowed := true, recurses := true, named := ["math/bits.deBruijn32tab"], apart := false, laid := [("math/bits.deBruijn32tab", laid_math_bits_deBruijn32tab)], narrowed := true }
def BackTurnedUptoSaid : Prop := backTurnedUptoRow.holds Tryz.pinned (OpenSpec.upto backTurnedSpec)

/-- 'spadillelaw03.BackKin', WHERE WHAT IT READS IS OF BULK AT MOST 1048576: true; the input reads as it did. -/
def backKinUptoRow : OpenClaim := { program := "ytokbaaeimejjlaagreatdoor", sum := "9c4398a4c7f6a82371b1ff63dd3cf05f8bd76f41b0f9d23ac3df330783a6ddd4", func := "spadille/spadillelaw03.BackKin", spec := "backKin", unfollowed := true, recurses := true, named := ["math/bits.deBruijn32tab"], apart := false, laid := [("math/bits.deBruijn32tab", laid_math_bits_deBruijn32tab)], narrowed := true }
def BackKinUptoSaid : Prop := backKinUptoRow.holds Tryz.pinned (OpenSpec.upto backKinSpec)

/-- 'spadillelaw03.BackCounts', WHERE WHAT IT READS IS OF BULK AT MOST 1048576: true; the input reads as it did. -/
def backCountsUptoRow : OpenClaim := { program := "ytokbaaeimejjlaagreatdoor", sum := "9c4398a4c7f6a82371b1ff63dd3cf05f8bd76f41b0f9d23ac3df330783a6ddd4", func := "spadille/spadillelaw03.BackCounts", spec := "backCounts", unfollowed := true, recurses := true, named := ["math/bits.deBruijn32tab"], apart := false, laid := [("math/bits.deBruijn32tab", laid_math_bits_deBruijn32tab)], narrowed := true }
def BackCountsUptoSaid : Prop := backCountsUptoRow.holds Tryz.pinned (OpenSpec.upto backCountsSpec)

/-- 'spadillelaw03.BackCells', WHERE WHAT IT READS IS OF BULK AT MOST 1048576: true; the input reads as it did. -/
def backCellsUptoRow : OpenClaim := { program := "ytokbaaeimejjlaagreatdoor", sum := "9c4398a4c7f6a82371b1ff63dd3cf05f8bd76f41b0f9d23ac3df330783a6ddd4", func := "spadille/spadillelaw03.BackCells", spec := "backCells", unfollowed := true, recurses := true, named := ["math/bits.deBruijn32tab"], apart := false, laid := [("math/bits.deBruijn32tab", laid_math_bits_deBruijn32tab)], narrowed := true }
def BackCellsUptoSaid : Prop := backCellsUptoRow.holds Tryz.pinned (OpenSpec.upto backCellsSpec)

/-- 'spadillelaw03.BackPresses', WHERE WHAT IT READS IS OF BULK AT MOST 1048576: true; the input reads as it did. -/
def backPressesUptoRow : OpenClaim := { program := "ytokbaaeimejjlaagreatdoor", sum := "9c4398a4c7f6a82371b1ff63dd3cf05f8bd76f41b0f9d23ac3df330783a6ddd4", func := "spadille/spadillelaw03.BackPresses", spec := "backPresses", unfollowed := true, recurses := true, named := ["math/bits.deBruijn32tab"], apart := false, laid := [("math/bits.deBruijn32tab", laid_math_bits_deBruijn32tab)], narrowed := true }
def BackPressesUptoSaid : Prop := backPressesUptoRow.holds Tryz.pinned (OpenSpec.upto backPressesSpec)

/-- 'spadillelaw03.BackAll', WHERE WHAT IT READS IS OF BULK AT MOST 1048576: true; the input reads as it did. -/
def backAllUptoRow : OpenClaim := { program := "ytokbaaeimejjlaagreatdoor", sum := "9c4398a4c7f6a82371b1ff63dd3cf05f8bd76f41b0f9d23ac3df330783a6ddd4", func := "spadille/spadillelaw03.BackAll", spec := "backAll", unfollowed := true, recurses := true, named := ["math/bits.deBruijn32tab"], apart := false, laid := [("math/bits.deBruijn32tab", laid_math_bits_deBruijn32tab)], narrowed := true }
def BackAllUptoSaid : Prop := backAllUptoRow.holds Tryz.pinned (OpenSpec.upto backAllSpec)

end Rows
end Go.Proofs.YtokbaaeimejjlaaGreatDoor
