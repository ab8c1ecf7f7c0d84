/-
  NARROWER THAN 'FOR EVERY INPUT', by the rows' own cells (each row's printed sentence says how): BackOrbit: laid · BackShown: laid · BackMore: laid · BackProducts: laid · BackBurnside: laid · BackKnown: laid.
  DERIVED. THE GIVEN ROWS OF THIS SEAT. 6 by the template 'for every input the law returns true; each argument reads behind the call as it read before'; 0 by the template 'total and deterministic' (their statements: YtokbaaeimejjlaaDoorTotals.lean).
  GIVEN WITH THE SEED: the statements are not yours to turn. If you find one false, say at which input.
  Laid BY PROGRAM, IN A SANDBOX (cutbox-rows.mjs): the forced cells as the released guide's own fill.sh prints them over the translation 4318006e6f5aa80d… (all of the seat's roots in one cut). By AI agents, Wed Nov 11 2026. No macro, syntax, notation, axiom, sorry.
-/
import Derived.Test.YtokbaaeimejjlaaDoorChecked
import GoSem.Claim
import GoSem.ClaimJoined
import GoSem.ClaimMapViews
import Derived.JoinedTies
import Derived.KernelRfl
namespace Go.Proofs.YtokbaaeimejjlaaDoor
/- THE CELL 'sum', in the pinned program and in every row, IS THE sha256 OF THE DUMP (.gsa) THAT YtokbaaeimejjlaaDoorProg.lean LOADS. Nothing in Lean hashes anything: it is a label: what it is worth is what the hold of that sum in a sandbox is worth. -/
noncomputable def Tryd.pinned : Pinned := { name := "ytokbaaeimejjlaadoor", sum := "4318006e6f5aa80de0adcba3d6efb3c93f651b6252ecc1a1ea3304d1f46eeb8e", checked := Tryd.checked }
namespace Rows
def none {H : Type} : Left H := { results := [], args := [] }

/- WHAT THE LISTED PACKAGE-LEVEL VARIABLES READ AS WHEN THE CALL BEGINS. Each datum BY PROGRAM (the guide's laid-datum.mjs) off the statement by which the dump's own 'gosem.cut.vars' lays the variable. In a bare row this is a premise. The card (YtokbaaeimejjlaaDoorCards.lean) ties it to the program's text. -/
def laid_math_bits_deBruijn32tab {H : Type} : DataW H := .agg [.lit (.int .u8 0), .lit (.int .u8 1), .lit (.int .u8 28), .lit (.int .u8 2), .lit (.int .u8 29), .lit (.int .u8 14), .lit (.int .u8 24), .lit (.int .u8 3), .lit (.int .u8 30), .lit (.int .u8 22), .lit (.int .u8 20), .lit (.int .u8 15), .lit (.int .u8 25), .lit (.int .u8 17), .lit (.int .u8 4), .lit (.int .u8 8), .lit (.int .u8 31), .lit (.int .u8 27), .lit (.int .u8 13), .lit (.int .u8 23), .lit (.int .u8 21), .lit (.int .u8 19), .lit (.int .u8 16), .lit (.int .u8 7), .lit (.int .u8 26), .lit (.int .u8 12), .lit (.int .u8 18), .lit (.int .u8 6), .lit (.int .u8 11), .lit (.int .u8 5), .lit (.int .u8 10), .lit (.int .u8 9)]

/-- 'spadillelaw03.BackOrbit': WHATEVER THE INPUT: true; the input reads as it did. -/
def backOrbitSpec : ChangeSpec := { name := "backOrbit", fn := fun _ => fun
  | [d] => { results := [.lit (.bool true)], args := [d] }
  | _ => none }
def backOrbitRow : OpenClaim := { program := "ytokbaaeimejjlaadoor", sum := "4318006e6f5aa80de0adcba3d6efb3c93f651b6252ecc1a1ea3304d1f46eeb8e", func := "spadille/spadillelaw03.BackOrbit", spec := "backOrbit", unfollowed := true, recurses := true, named := ["math/bits.deBruijn32tab"], apart := false, laid := [("math/bits.deBruijn32tab", laid_math_bits_deBruijn32tab)] }
def BackOrbitSaid : Prop := backOrbitRow.holds Tryd.pinned (OpenSpec.ofChange backOrbitSpec)

/-- ITS FALSE NEIGHBOUR: 'it returns false'. Refute it at one input. -/
def backOrbitWrong : ChangeSpec := { name := "backOrbit", fn := fun _ => fun
  | [d] => { results := [.lit (.bool false)], args := [d] }
  | _ => none }
def BackOrbitWrongFalsely : Prop := backOrbitRow.holds Tryd.pinned (OpenSpec.ofChange backOrbitWrong)

/-- 'spadillelaw03.BackShown': WHATEVER THE INPUT: true; the input reads as it did. -/
def backShownSpec : ChangeSpec := { name := "backShown", fn := fun _ => fun
  | [d] => { results := [.lit (.bool true)], args := [d] }
  | _ => none }
def backShownRow : OpenClaim := { program := "ytokbaaeimejjlaadoor", sum := "4318006e6f5aa80de0adcba3d6efb3c93f651b6252ecc1a1ea3304d1f46eeb8e", func := "spadille/spadillelaw03.BackShown", spec := "backShown", unfollowed := true, recurses := true, named := ["math/bits.deBruijn32tab"], apart := false, laid := [("math/bits.deBruijn32tab", laid_math_bits_deBruijn32tab)] }
def BackShownSaid : Prop := backShownRow.holds Tryd.pinned (OpenSpec.ofChange backShownSpec)

/-- ITS FALSE NEIGHBOUR: 'it returns false'. Refute it at one input. -/
def backShownWrong : ChangeSpec := { name := "backShown", fn := fun _ => fun
  | [d] => { results := [.lit (.bool false)], args := [d] }
  | _ => none }
def BackShownWrongFalsely : Prop := backShownRow.holds Tryd.pinned (OpenSpec.ofChange backShownWrong)

/-- 'spadillelaw03.BackMore': WHATEVER THE INPUT: true; the input reads as it did. -/
def backMoreSpec : ChangeSpec := { name := "backMore", fn := fun _ => fun
  | [d1, d2, d3] => { results := [.lit (.bool true)], args := [d1, d2, d3] }
  | _ => none }
def backMoreRow : OpenClaim := { program := "ytokbaaeimejjlaadoor", sum := "4318006e6f5aa80de0adcba3d6efb3c93f651b6252ecc1a1ea3304d1f46eeb8e", func := "spadille/spadillelaw03.BackMore", spec := "backMore", unfollowed := true, recurses := true, named := ["math/bits.deBruijn32tab"], apart := false, laid := [("math/bits.deBruijn32tab", laid_math_bits_deBruijn32tab)] }
def BackMoreSaid : Prop := backMoreRow.holds Tryd.pinned (OpenSpec.ofChange backMoreSpec)

/-- ITS FALSE NEIGHBOUR: 'it returns false'. Refute it at one input. -/
def backMoreWrong : ChangeSpec := { name := "backMore", fn := fun _ => fun
  | [d1, d2, d3] => { results := [.lit (.bool false)], args := [d1, d2, d3] }
  | _ => none }
def BackMoreWrongFalsely : Prop := backMoreRow.holds Tryd.pinned (OpenSpec.ofChange backMoreWrong)

/-- 'spadillelaw03.BackProducts': WHATEVER THE INPUT: true; the input reads as it did. -/
def backProductsSpec : ChangeSpec := { name := "backProducts", fn := fun _ => fun
  | [d1, d2] => { results := [.lit (.bool true)], args := [d1, d2] }
  | _ => none }
def backProductsRow : OpenClaim := { program := "ytokbaaeimejjlaadoor", sum := "4318006e6f5aa80de0adcba3d6efb3c93f651b6252ecc1a1ea3304d1f46eeb8e", func := "spadille/spadillelaw03.BackProducts", spec := "backProducts", unfollowed := true, recurses := true, named := ["math/bits.deBruijn32tab"], apart := false, laid := [("math/bits.deBruijn32tab", laid_math_bits_deBruijn32tab)] }
def BackProductsSaid : Prop := backProductsRow.holds Tryd.pinned (OpenSpec.ofChange backProductsSpec)

/-- ITS FALSE NEIGHBOUR: 'it returns false'. Refute it at one input. -/
def backProductsWrong : ChangeSpec := { name := "backProducts", fn := fun _ => fun
  | [d1, d2] => { results := [.lit (.bool false)], args := [d1, d2] }
  | _ => none }
def BackProductsWrongFalsely : Prop := backProductsRow.holds Tryd.pinned (OpenSpec.ofChange backProductsWrong)

/-- 'spadillelaw03.BackBurnside': WHATEVER THE INPUT: true; the input reads as it did. -/
def backBurnsideSpec : ChangeSpec := { name := "backBurnside", fn := fun _ => fun
  | [d1, d2] => { results := [.lit (.bool true)], args := [d1, d2] }
  | _ => none }
def backBurnsideRow : OpenClaim := { program := "ytokbaaeimejjlaadoor", sum := "4318006e6f5aa80de0adcba3d6efb3c93f651b6252ecc1a1ea3304d1f46eeb8e", func := "spadille/spadillelaw03.BackBurnside", spec := "backBurnside", unfollowed := true, recurses := true, named := ["math/bits.deBruijn32tab"], apart := false, laid := [("math/bits.deBruijn32tab", laid_math_bits_deBruijn32tab)] }
def BackBurnsideSaid : Prop := backBurnsideRow.holds Tryd.pinned (OpenSpec.ofChange backBurnsideSpec)

/-- ITS FALSE NEIGHBOUR: 'it returns false'. Refute it at one input. -/
def backBurnsideWrong : ChangeSpec := { name := "backBurnside", fn := fun _ => fun
  | [d1, d2] => { results := [.lit (.bool false)], args := [d1, d2] }
  | _ => none }
def BackBurnsideWrongFalsely : Prop := backBurnsideRow.holds Tryd.pinned (OpenSpec.ofChange backBurnsideWrong)

/-- 'spadillelaw03.BackKnown': WHATEVER THE INPUT: true; the input reads as it did. -/
def backKnownSpec : ChangeSpec := { name := "backKnown", fn := fun _ => fun
  | [] => { results := [.lit (.bool true)], args := [] }
  | _ => none }
def backKnownRow : OpenClaim := { program := "ytokbaaeimejjlaadoor", sum := "4318006e6f5aa80de0adcba3d6efb3c93f651b6252ecc1a1ea3304d1f46eeb8e", func := "spadille/spadillelaw03.BackKnown", spec := "backKnown", unfollowed := true, recurses := true, named := ["math/bits.deBruijn32tab"], apart := false, laid := [("math/bits.deBruijn32tab", laid_math_bits_deBruijn32tab)] }
def BackKnownSaid : Prop := backKnownRow.holds Tryd.pinned (OpenSpec.ofChange backKnownSpec)

/-- ITS FALSE NEIGHBOUR: 'it returns false'. Refute it at one input. -/
def backKnownWrong : ChangeSpec := { name := "backKnown", fn := fun _ => fun
  | [] => { results := [.lit (.bool false)], args := [] }
  | _ => none }
def BackKnownWrongFalsely : Prop := backKnownRow.holds Tryd.pinned (OpenSpec.ofChange backKnownWrong)

/- THE SECOND FORM. 'bulk': how many values and letters a reading holds, each counted each time it is reached (what is shared counts as often as it is met; a slice's spare places count too). A statement '..UptoSaid' is the law's where the arguments, and the package variables that the reading takes, are together of bulk at most 1048576: NARROWER than '..Said'. Prove '..Said' where nothing that the law and all that it calls make is longer than what came in: it says more and counts as full. Else prove '..UptoSaid'. A law counts once. -/
mutual
def uptoBulk {H : Type} : DataW H → Nat
  | .lit (.string bytes) => bytes.length + 1
  | .lit _ => 1
  | .nil => 1
  | .ptr d => uptoBulk d + 1
  | .slice elems spare => uptoBulkAll elems + uptoBulkAll spare + 1
  | .agg parts => uptoBulkAll parts + 1
  | .iface _ d => uptoBulk d + 1
  | .map entries => uptoBulkEntries entries + 1
  | .held _ => 1
def uptoBulkAll {H : Type} : List (DataW H) → Nat
  | [] => 0
  | d :: r => uptoBulk d + uptoBulkAll r
def uptoBulkEntries {H : Type} : List (Lit × DataW H) → Nat
  | [] => 0
  | x :: r => uptoBulkEntry x + uptoBulkEntries r
def uptoBulkEntry {H : Type} : Lit × DataW H → Nat
  | (.string bytes, d) => bytes.length + uptoBulk d + 1
  | (_, d) => uptoBulk d + 1
 end
def uptoSmall : (H : Type) → List (DataW H) → Bool := fun _ ds => decide (uptoBulkAll ds ≤ 1048576)
def OpenSpec.upto (s : _root_.Go.ChangeSpec) : _root_.Go.OpenSpec := { _root_.Go.OpenSpec.ofChange s with cond := some uptoSmall }

/-- 'spadillelaw03.BackOrbit', WHERE WHAT IT READS IS OF BULK AT MOST 1048576: true; the input reads as it did. -/
def backOrbitUptoRow : OpenClaim := { program := "ytokbaaeimejjlaadoor", sum := "4318006e6f5aa80de0adcba3d6efb3c93f651b6252ecc1a1ea3304d1f46eeb8e", func := "spadille/spadillelaw03.BackOrbit", spec := "backOrbit", unfollowed := true, recurses := true, named := ["math/bits.deBruijn32tab"], apart := false, laid := [("math/bits.deBruijn32tab", laid_math_bits_deBruijn32tab)], narrowed := true }
def BackOrbitUptoSaid : Prop := backOrbitUptoRow.holds Tryd.pinned (OpenSpec.upto backOrbitSpec)

/-- 'spadillelaw03.BackShown', WHERE WHAT IT READS IS OF BULK AT MOST 1048576: true; the input reads as it did. -/
def backShownUptoRow : OpenClaim := { program := "ytokbaaeimejjlaadoor", sum := "4318006e6f5aa80de0adcba3d6efb3c93f651b6252ecc1a1ea3304d1f46eeb8e", func := "spadille/spadillelaw03.BackShown", spec := "backShown", unfollowed := true, recurses := true, named := ["math/bits.deBruijn32tab"], apart := false, laid := [("math/bits.deBruijn32tab", laid_math_bits_deBruijn32tab)], narrowed := true }
def BackShownUptoSaid : Prop := backShownUptoRow.holds Tryd.pinned (OpenSpec.upto backShownSpec)

/-- 'spadillelaw03.BackMore', WHERE WHAT IT READS IS OF BULK AT MOST 1048576: true; the input reads as it did. -/
def backMoreUptoRow : OpenClaim := { program := "ytokbaaeimejjlaadoor", sum := "4318006e6f5aa80de0adcba3d6efb3c93f651b6252ecc1a1ea3304d1f46eeb8e", func := "spadille/spadillelaw03.BackMore", spec := "backMore", unfollowed := true, recurses := true, named := ["math/bits.deBruijn32tab"], apart := false, laid := [("math/bits.deBruijn32tab", laid_math_bits_deBruijn32tab)], narrowed := true }
def BackMoreUptoSaid : Prop := backMoreUptoRow.holds Tryd.pinned (OpenSpec.upto backMoreSpec)

/-- 'spadillelaw03.BackProducts', WHERE WHAT IT READS IS OF BULK AT MOST 1048576: true; the input reads as it did. -/
def backProductsUptoRow : OpenClaim := { program := "ytokbaaeimejjlaadoor", sum := "4318006e6f5aa80de0adcba3d6efb3c93f651b6252ecc1a1ea3304d1f46eeb8e", func := "spadille/spadillelaw03.BackProducts", spec := "backProducts", unfollowed := true, recurses := true, named := ["math/bits.deBruijn32tab"], apart := false, laid := [("math/bits.deBruijn32tab", laid_math_bits_deBruijn32tab)], narrowed := true }
def BackProductsUptoSaid : Prop := backProductsUptoRow.holds Tryd.pinned (OpenSpec.upto backProductsSpec)

/-- 'spadillelaw03.BackBurnside', WHERE WHAT IT READS IS OF BULK AT MOST 1048576: true; the input reads as it did. -/
def backBurnsideUptoRow : OpenClaim := { program := "ytokbaaeimejjlaadoor", sum := "4318006e6f5aa80de0adcba3d6efb3c93f651b6252ecc1a1ea3304d1f46eeb8e", func := "spadille/spadillelaw03.BackBurnside", spec := "backBurnside", unfollowed := true, recurses := true, named := ["math/bits.deBruijn32tab"], apart := false, laid := [("math/bits.deBruijn32tab", laid_math_bits_deBruijn32tab)], narrowed := true }
def BackBurnsideUptoSaid : Prop := backBurnsideUptoRow.holds Tryd.pinned (OpenSpec.upto backBurnsideSpec)

/-- 'spadillelaw03.BackKnown', WHERE WHAT IT READS IS OF BULK AT MOST 1048576: true; the input reads as it did. -/
def backKnownUptoRow : OpenClaim := { program := "ytokbaaeimejjlaadoor", sum := "4318006e6f5aa80de0adcba3d6efb3c93f651b6252ecc1a1ea3304d1f46eeb8e", func := "spadille/spadillelaw03.BackKnown", spec := "backKnown", unfollowed := true, recurses := true, named := ["math/bits.deBruijn32tab"], apart := false, laid := [("math/bits.deBruijn32tab", laid_math_bits_deBruijn32tab)], narrowed := true }
def BackKnownUptoSaid : Prop := backKnownUptoRow.holds Tryd.pinned (OpenSpec.upto backKnownSpec)

end Rows
end Go.Proofs.YtokbaaeimejjlaaDoor
