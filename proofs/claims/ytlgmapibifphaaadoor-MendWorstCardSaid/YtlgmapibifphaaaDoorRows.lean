/-
  NARROWER THAN 'FOR EVERY INPUT', by the rows' own cells (each row's printed sentence says how): MendHelps: laid · MendRings: laid · MendOne: laid · MendWorst: laid · MendNeighbours: laid · MendTurned: laid · MendFewest: laid · MendSaved: laid.
  DERIVED. THE GIVEN ROWS OF THIS SEAT. 8 by the template 'for every input the law returns true; each argument reads behind the call as it read before'; 0 by the template 'total and deterministic' (their statements: YtlgmapibifphaaaDoorTotals.lean).
  GIVEN WITH THE SEED: the statements are not yours to turn. If you find one false, say at which input.
  Laid BY PROGRAM, IN A SANDBOX (cutbox-rows.mjs): the forced cells as the released guide's own fill.sh prints them over the translation b8c690bfb58b7e25… (all of the seat's roots in one cut). By AI agents, Wed Nov 11 2026. No macro, syntax, notation, axiom, sorry.
-/
import Derived.Test.YtlgmapibifphaaaDoorChecked
import GoSem.Claim
import GoSem.ClaimJoined
import GoSem.ClaimMapViews
import Derived.JoinedTies
import Derived.KernelRfl
namespace Go.Proofs.YtlgmapibifphaaaDoor
/- THE CELL 'sum', in the pinned program and in every row, IS THE sha256 OF THE DUMP (.gsa) THAT YtlgmapibifphaaaDoorProg.lean LOADS. Nothing in Lean hashes anything: it is a label: what it is worth is what the hold of that sum in a sandbox is worth. -/
noncomputable def Tryd.pinned : Pinned := { name := "ytlgmapibifphaaadoor", sum := "b8c690bfb58b7e254f01a82f9067bc867b2f952f7dc90eaf2511ca4616489fe8", checked := Tryd.checked }
namespace Rows
def none {H : Type} : Left H := { results := [], args := [] }

/- WHAT THE LISTED PACKAGE-LEVEL VARIABLES READ AS WHEN THE CALL BEGINS. Each datum BY PROGRAM (the guide's laid-datum.mjs) off the statement by which the dump's own 'gosem.cut.vars' lays the variable. In a bare row this is a premise. The card (YtlgmapibifphaaaDoorCards.lean) ties it to the program's text. -/
def laid_math_bits_deBruijn32tab {H : Type} : DataW H := .agg [.lit (.int .u8 0), .lit (.int .u8 1), .lit (.int .u8 28), .lit (.int .u8 2), .lit (.int .u8 29), .lit (.int .u8 14), .lit (.int .u8 24), .lit (.int .u8 3), .lit (.int .u8 30), .lit (.int .u8 22), .lit (.int .u8 20), .lit (.int .u8 15), .lit (.int .u8 25), .lit (.int .u8 17), .lit (.int .u8 4), .lit (.int .u8 8), .lit (.int .u8 31), .lit (.int .u8 27), .lit (.int .u8 13), .lit (.int .u8 23), .lit (.int .u8 21), .lit (.int .u8 19), .lit (.int .u8 16), .lit (.int .u8 7), .lit (.int .u8 26), .lit (.int .u8 12), .lit (.int .u8 18), .lit (.int .u8 6), .lit (.int .u8 11), .lit (.int .u8 5), .lit (.int .u8 10), .lit (.int .u8 9)]

/-- 'spadillelaw09.MendHelps': WHATEVER THE INPUT: true; the input reads as it did. -/
def mendHelpsSpec : ChangeSpec := { name := "mendHelps", fn := fun _ => fun
  | [d] => { results := [.lit (.bool true)], args := [d] }
  | _ => none }
def mendHelpsRow : OpenClaim := { program := "ytlgmapibifphaaadoor", sum := "b8c690bfb58b7e254f01a82f9067bc867b2f952f7dc90eaf2511ca4616489fe8", func := "spadille/spadillelaw09.MendHelps", spec := "mendHelps", unfollowed := true, recurses := true, named := ["math/bits.deBruijn32tab"], apart := false, laid := [("math/bits.deBruijn32tab", laid_math_bits_deBruijn32tab)] }
def MendHelpsSaid : Prop := mendHelpsRow.holds Tryd.pinned (OpenSpec.ofChange mendHelpsSpec)

/-- ITS FALSE NEIGHBOUR: 'it returns false'. Refute it at one input. -/
def mendHelpsWrong : ChangeSpec := { name := "mendHelps", fn := fun _ => fun
  | [d] => { results := [.lit (.bool false)], args := [d] }
  | _ => none }
def MendHelpsWrongFalsely : Prop := mendHelpsRow.holds Tryd.pinned (OpenSpec.ofChange mendHelpsWrong)

/-- 'spadillelaw09.MendRings': WHATEVER THE INPUT: true; the input reads as it did. -/
def mendRingsSpec : ChangeSpec := { name := "mendRings", fn := fun _ => fun
  | [d1, d2] => { results := [.lit (.bool true)], args := [d1, d2] }
  | _ => none }
def mendRingsRow : OpenClaim := { program := "ytlgmapibifphaaadoor", sum := "b8c690bfb58b7e254f01a82f9067bc867b2f952f7dc90eaf2511ca4616489fe8", func := "spadille/spadillelaw09.MendRings", spec := "mendRings", unfollowed := true, recurses := true, named := ["math/bits.deBruijn32tab"], apart := false, laid := [("math/bits.deBruijn32tab", laid_math_bits_deBruijn32tab)] }
def MendRingsSaid : Prop := mendRingsRow.holds Tryd.pinned (OpenSpec.ofChange mendRingsSpec)

/-- ITS FALSE NEIGHBOUR: 'it returns false'. Refute it at one input. -/
def mendRingsWrong : ChangeSpec := { name := "mendRings", fn := fun _ => fun
  | [d1, d2] => { results := [.lit (.bool false)], args := [d1, d2] }
  | _ => none }
def MendRingsWrongFalsely : Prop := mendRingsRow.holds Tryd.pinned (OpenSpec.ofChange mendRingsWrong)

/-- 'spadillelaw09.MendOne': WHATEVER THE INPUT: true; the input reads as it did. -/
def mendOneSpec : ChangeSpec := { name := "mendOne", fn := fun _ => fun
  | [d] => { results := [.lit (.bool true)], args := [d] }
  | _ => none }
def mendOneRow : OpenClaim := { program := "ytlgmapibifphaaadoor", sum := "b8c690bfb58b7e254f01a82f9067bc867b2f952f7dc90eaf2511ca4616489fe8", func := "spadille/spadillelaw09.MendOne", spec := "mendOne", unfollowed := true, recurses := true, named := ["math/bits.deBruijn32tab"], apart := false, laid := [("math/bits.deBruijn32tab", laid_math_bits_deBruijn32tab)] }
def MendOneSaid : Prop := mendOneRow.holds Tryd.pinned (OpenSpec.ofChange mendOneSpec)

/-- ITS FALSE NEIGHBOUR: 'it returns false'. Refute it at one input. -/
def mendOneWrong : ChangeSpec := { name := "mendOne", fn := fun _ => fun
  | [d] => { results := [.lit (.bool false)], args := [d] }
  | _ => none }
def MendOneWrongFalsely : Prop := mendOneRow.holds Tryd.pinned (OpenSpec.ofChange mendOneWrong)

/-- 'spadillelaw09.MendWorst': WHATEVER THE INPUT: true; the input reads as it did. -/
def mendWorstSpec : ChangeSpec := { name := "mendWorst", fn := fun _ => fun
  | [d1, d2] => { results := [.lit (.bool true)], args := [d1, d2] }
  | _ => none }
def mendWorstRow : OpenClaim := { program := "ytlgmapibifphaaadoor", sum := "b8c690bfb58b7e254f01a82f9067bc867b2f952f7dc90eaf2511ca4616489fe8", func := "spadille/spadillelaw09.MendWorst", spec := "mendWorst", unfollowed := true, recurses := true, named := ["math/bits.deBruijn32tab"], apart := false, laid := [("math/bits.deBruijn32tab", laid_math_bits_deBruijn32tab)] }
def MendWorstSaid : Prop := mendWorstRow.holds Tryd.pinned (OpenSpec.ofChange mendWorstSpec)

/-- ITS FALSE NEIGHBOUR: 'it returns false'. Refute it at one input. -/
def mendWorstWrong : ChangeSpec := { name := "mendWorst", fn := fun _ => fun
  | [d1, d2] => { results := [.lit (.bool false)], args := [d1, d2] }
  | _ => none }
def MendWorstWrongFalsely : Prop := mendWorstRow.holds Tryd.pinned (OpenSpec.ofChange mendWorstWrong)

/-- 'spadillelaw09.MendNeighbours': WHATEVER THE INPUT: true; the input reads as it did. -/
def mendNeighboursSpec : ChangeSpec := { name := "mendNeighbours", fn := fun _ => fun
  | [d] => { results := [.lit (.bool true)], args := [d] }
  | _ => none }
def mendNeighboursRow : OpenClaim := { program := "ytlgmapibifphaaadoor", sum := "b8c690bfb58b7e254f01a82f9067bc867b2f952f7dc90eaf2511ca4616489fe8", func := "spadille/spadillelaw09.MendNeighbours", spec := "mendNeighbours", unfollowed := true, recurses := true, named := ["math/bits.deBruijn32tab"], apart := false, laid := [("math/bits.deBruijn32tab", laid_math_bits_deBruijn32tab)] }
def MendNeighboursSaid : Prop := mendNeighboursRow.holds Tryd.pinned (OpenSpec.ofChange mendNeighboursSpec)

/-- ITS FALSE NEIGHBOUR: 'it returns false'. Refute it at one input. -/
def mendNeighboursWrong : ChangeSpec := { name := "mendNeighbours", fn := fun _ => fun
  | [d] => { results := [.lit (.bool false)], args := [d] }
  | _ => none }
def MendNeighboursWrongFalsely : Prop := mendNeighboursRow.holds Tryd.pinned (OpenSpec.ofChange mendNeighboursWrong)

/-- 'spadillelaw09.MendTurned': WHATEVER THE INPUT: true; the input reads as it did. -/
def mendTurnedSpec : ChangeSpec := { name := "mendTurned", fn := fun _ => fun
  | [d1, d2, d3, d4] => { results := [.lit (.bool true)], args := [d1, d2, d3, d4] }
  | _ => none }
def mendTurnedRow : OpenClaim := { program := "ytlgmapibifphaaadoor", sum := "b8c690bfb58b7e254f01a82f9067bc867b2f952f7dc90eaf2511ca4616489fe8", func := "spadille/spadillelaw09.MendTurned", spec := "mendTurned", unfollowed := true, recurses := true, named := ["math/bits.deBruijn32tab"], apart := false, laid := [("math/bits.deBruijn32tab", laid_math_bits_deBruijn32tab)] }
def MendTurnedSaid : Prop := mendTurnedRow.holds Tryd.pinned (OpenSpec.ofChange mendTurnedSpec)

/-- ITS FALSE NEIGHBOUR: 'it returns false'. Refute it at one input. -/
def mendTurnedWrong : ChangeSpec := { name := "mendTurned", fn := fun _ => fun
  | [d1, d2, d3, d4] => { results := [.lit (.bool false)], args := [d1, d2, d3, d4] }
  | _ => none }
def MendTurnedWrongFalsely : Prop := mendTurnedRow.holds Tryd.pinned (OpenSpec.ofChange mendTurnedWrong)

/-- 'spadillelaw09.MendFewest': WHATEVER THE INPUT: true; the input reads as it did. -/
def mendFewestSpec : ChangeSpec := { name := "mendFewest", fn := fun _ => fun
  | [d1, d2] => { results := [.lit (.bool true)], args := [d1, d2] }
  | _ => none }
def mendFewestRow : OpenClaim := { program := "ytlgmapibifphaaadoor", sum := "b8c690bfb58b7e254f01a82f9067bc867b2f952f7dc90eaf2511ca4616489fe8", func := "spadille/spadillelaw09.MendFewest", spec := "mendFewest", unfollowed := true, recurses := true, named := ["math/bits.deBruijn32tab"], apart := false, laid := [("math/bits.deBruijn32tab", laid_math_bits_deBruijn32tab)] }
def MendFewestSaid : Prop := mendFewestRow.holds Tryd.pinned (OpenSpec.ofChange mendFewestSpec)

/-- ITS FALSE NEIGHBOUR: 'it returns false'. Refute it at one input. -/
def mendFewestWrong : ChangeSpec := { name := "mendFewest", fn := fun _ => fun
  | [d1, d2] => { results := [.lit (.bool false)], args := [d1, d2] }
  | _ => none }
def MendFewestWrongFalsely : Prop := mendFewestRow.holds Tryd.pinned (OpenSpec.ofChange mendFewestWrong)

/-- 'spadillelaw09.MendSaved': WHATEVER THE INPUT: true; the input reads as it did. -/
def mendSavedSpec : ChangeSpec := { name := "mendSaved", fn := fun _ => fun
  | [d] => { results := [.lit (.bool true)], args := [d] }
  | _ => none }
def mendSavedRow : OpenClaim := { program := "ytlgmapibifphaaadoor", sum := "b8c690bfb58b7e254f01a82f9067bc867b2f952f7dc90eaf2511ca4616489fe8", func := "spadille/spadillelaw09.MendSaved", spec := "mendSaved", unfollowed := true, recurses := true, named := ["math/bits.deBruijn32tab"], apart := false, laid := [("math/bits.deBruijn32tab", laid_math_bits_deBruijn32tab)] }
def MendSavedSaid : Prop := mendSavedRow.holds Tryd.pinned (OpenSpec.ofChange mendSavedSpec)

/-- ITS FALSE NEIGHBOUR: 'it returns false'. Refute it at one input. -/
def mendSavedWrong : ChangeSpec := { name := "mendSaved", fn := fun _ => fun
  | [d] => { results := [.lit (.bool false)], args := [d] }
  | _ => none }
def MendSavedWrongFalsely : Prop := mendSavedRow.holds Tryd.pinned (OpenSpec.ofChange mendSavedWrong)

/- THE SECOND FORM. 'bulk': how many values and letters a reading holds, each counted each time it is reached (what is shared counts as often as it is met; a slice's spare places count too). A statement '..UptoSaid' is the law's where the arguments, and the package variables that the reading takes, are together of bulk at most 1048576: NARROWER than '..Said'. Prove '..Said' where nothing that the law and all that it calls make is longer than what came in: it says more and counts as full. Else prove '..UptoSaid'. A law counts once. -/
mutual
def uptoBulk {H : Type} : DataW H → Nat
  | .lit (.string bytes) => bytes.length + 1
  | .lit _ => 1
  | .nil => 1
  | .ptr d => uptoBulk d + 1
  | .slice elems spare => uptoBulkAll elems + uptoBulkAll spare + 1
  | .agg parts => uptoBulkAll parts + 1
  | .iface _ d => uptoBulk d + 1
  | .map entries => uptoBulkEntries entries + 1
  | .held _ => 1
def uptoBulkAll {H : Type} : List (DataW H) → Nat
  | [] => 0
  | d :: r => uptoBulk d + uptoBulkAll r
def uptoBulkEntries {H : Type} : List (Lit × DataW H) → Nat
  | [] => 0
  | x :: r => uptoBulkEntry x + uptoBulkEntries r
def uptoBulkEntry {H : Type} : Lit × DataW H → Nat
  | (.string bytes, d) => bytes.length + uptoBulk d + 1
  | (_, d) => uptoBulk d + 1
 end
def uptoSmall : (H : Type) → List (DataW H) → Bool := fun _ ds => decide (uptoBulkAll ds ≤ 1048576)
def OpenSpec.upto (s : _root_.Go.ChangeSpec) : _root_.Go.OpenSpec := { _root_.Go.OpenSpec.ofChange s with cond := some uptoSmall }

/-- 'spadillelaw09.MendHelps', WHERE WHAT IT READS IS OF BULK AT MOST 1048576: true; the input reads as it did. -/
def mendHelpsUptoRow : OpenClaim := { program := "ytlgmapibifphaaadoor", sum := "b8c690bfb58b7e254f01a82f9067bc867b2f952f7dc90eaf2511ca4616489fe8", func := "spadille/spadillelaw09.MendHelps", spec := "mendHelps", unfollowed := true, recurses := true, named := ["math/bits.deBruijn32tab"], apart := false, laid := [("math/bits.deBruijn32tab", laid_math_bits_deBruijn32tab)], narrowed := true }
def MendHelpsUptoSaid : Prop := mendHelpsUptoRow.holds Tryd.pinned (OpenSpec.upto mendHelpsSpec)

/-- 'spadillelaw09.MendRings', WHERE WHAT IT READS IS OF BULK AT MOST 1048576: true; the input reads as it did. -/
def mendRingsUptoRow : OpenClaim := { program := "ytlgmapibifphaaadoor", sum := "b8c690bfb58b7e254f01a82f9067bc867b2f952f7dc90eaf2511ca4616489fe8", func := "spadille/spadillelaw09.MendRings", spec := "mendRings", unfollowed := true, recurses := true, named := ["math/bits.deBruijn32tab"], apart := false, laid := [("math/bits.deBruijn32tab", laid_math_bits_deBruijn32tab)], narrowed := true }
def MendRingsUptoSaid : Prop := mendRingsUptoRow.holds Tryd.pinned (OpenSpec.upto mendRingsSpec)

/-- 'spadillelaw09.MendOne', WHERE WHAT IT READS IS OF BULK AT MOST 1048576: true; the input reads as it did. -/
def mendOneUptoRow : OpenClaim := { program := "ytlgmapibifphaaadoor", sum := "b8c690bfb58b7e254f01a82f9067bc867b2f952f7dc90eaf2511ca4616489fe8", func := "spadille/spadillelaw09.MendOne", spec := "mendOne", unfollowed := true, recurses := true, named := ["math/bits.deBruijn32tab"], apart := false, laid := [("math/bits.deBruijn32tab", laid_math_bits_deBruijn32tab)], narrowed := true }
def MendOneUptoSaid : Prop := mendOneUptoRow.holds Tryd.pinned (OpenSpec.upto mendOneSpec)

/-- 'spadillelaw09.MendWorst', WHERE WHAT IT READS IS OF BULK AT MOST 1048576: true; the input reads as it did. -/
def mendWorstUptoRow : OpenClaim := { program := "ytlgmapibifphaaadoor", sum := "b8c690bfb58b7e254f01a82f9067bc867b2f952f7dc90eaf2511ca4616489fe8", func := "spadille/spadillelaw09.MendWorst", spec := "mendWorst", unfollowed := true, recurses := true, named := ["math/bits.deBruijn32tab"], apart := false, laid := [("math/bits.deBruijn32tab", laid_math_bits_deBruijn32tab)], narrowed := true }
def MendWorstUptoSaid : Prop := mendWorstUptoRow.holds Tryd.pinned (OpenSpec.upto mendWorstSpec)

/-- 'spadillelaw09.MendNeighbours', WHERE WHAT IT READS IS OF BULK AT MOST 1048576: true; the input reads as it did. -/
def mendNeighboursUptoRow : OpenClaim := { program := "ytlgmapibifphaaadoor", sum := "b8c690bfb58b7e254f01a82f9067bc867b2f952f7dc90eaf2511ca4616489fe8", func := "spadille/spadillelaw09.MendNeighbours", spec := "mendNeighbours", unfollowed := true, recurses := true, named := ["math/bits.deBruijn32tab"], apart := false, laid := [("math/bits.deBruijn32tab", laid_math_bits_deBruijn32tab)], narrowed := true }
def MendNeighboursUptoSaid : Prop := mendNeighboursUptoRow.holds Tryd.pinned (OpenSpec.upto mendNeighboursSpec)

/-- 'spadillelaw09.MendTurned', WHERE WHAT IT READS IS OF BULK AT MOST 1048576: true; the input reads as it did. -/
def mendTurnedUptoRow : OpenClaim := { program := "ytlgmapibifphaaadoor", sum := "b8c690bfb58b7e254f01a82f9067bc867b2f952f7dc90eaf2511ca4616489fe8", func := "spadille/spadillelaw09.MendTurned", spec := "mendTurned", unfollowed := true, recurses := true, named := ["math/bits.deBruijn32tab"], apart := false, laid := [("math/bits.deBruijn32tab", laid_math_bits_deBruijn32tab)], narrowed := true }
def MendTurnedUptoSaid : Prop := mendTurnedUptoRow.holds Tryd.pinned (OpenSpec.upto mendTurnedSpec)

/-- 'spadillelaw09.MendFewest', WHERE WHAT IT READS IS OF BULK AT MOST 1048576: true; the input reads as it did. -/
def mendFewestUptoRow : OpenClaim := { program := "ytlgmapibifphaaadoor", sum := "b8c690bfb58b7e254f01a82f9067bc867b2f952f7dc90eaf2511ca4616489fe8", func := "spadille/spadillelaw09.MendFewest", spec := "mendFewest", unfollowed := true, recurses := true, named := ["math/bits.deBruijn32tab"], apart := false, laid := [("math/bits.deBruijn32tab", laid_math_bits_deBruijn32tab)], narrowed := true }
def MendFewestUptoSaid : Prop := mendFewestUptoRow.holds Tryd.pinned (OpenSpec.upto mendFewestSpec)

/-- 'spadillelaw09.MendSaved', WHERE WHAT IT READS IS OF BULK AT MOST 1048576: true; the input reads as it did. -/
def mendSavedUptoRow : OpenClaim := { program := "ytlgmapibifphaaadoor", sum := "b8c690bfb58b7e254f01a82f9067bc867b2f952f7dc90eaf2511ca4616489fe8", func := "spadille/spadillelaw09.MendSaved", spec := "mendSaved", unfollowed := true, recurses := true, named := ["math/bits.deBruijn32tab"], apart := false, laid := [("math/bits.deBruijn32tab", laid_math_bits_deBruijn32tab)], narrowed := true }
def MendSavedUptoSaid : Prop := mendSavedUptoRow.holds Tryd.pinned (OpenSpec.upto mendSavedSpec)

end Rows
end Go.Proofs.YtlgmapibifphaaaDoor
