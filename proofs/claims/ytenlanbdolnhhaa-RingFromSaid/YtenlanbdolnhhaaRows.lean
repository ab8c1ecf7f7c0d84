/-
  No cell of these rows narrows 'for every input' (looked for: loops, veiled, ifaces, maps, wideKeys, modest, calm, conditions, laid).
  DERIVED. THE GIVEN ROWS OF THIS SEAT. 11 by the template 'for every input the law returns true; each argument reads behind the call as it read before'; 0 by the template 'total and deterministic' (their statements: YtenlanbdolnhhaaTotals.lean).
  GIVEN WITH THE SEED: the statements are not yours to turn. If you find one false, say at which input.
  Laid BY PROGRAM, IN A SANDBOX (cutbox-rows.mjs): the forced cells as the released guide's own fill.sh prints them over the translation 0c0686fc9a826dfa… (all of the seat's roots in one cut). By AI agents, Wed Nov 11 2026. No macro, syntax, notation, axiom, sorry.
-/
import Derived.Test.YtenlanbdolnhhaaChecked
import GoSem.Claim
import GoSem.ClaimJoined
import GoSem.ClaimMapViews
import Derived.JoinedTies
import Derived.KernelRfl
namespace Go.Proofs.Ytenlanbdolnhhaa
/- THE CELL 'sum', in the pinned program and in every row, IS THE sha256 OF THE DUMP (.gsa) THAT YtenlanbdolnhhaaProg.lean LOADS. Nothing in Lean hashes anything: it is a label: what it is worth is what the hold of that sum in a sandbox is worth. -/
noncomputable def Try.pinned : Pinned := { name := "ytenlanbdolnhhaa", sum := "0c0686fc9a826dfa045a9c0c02da01d52c54e5dd7ecfd9cc02522d9f238e6419", checked := Try.checked }
namespace Rows
def none {H : Type} : Left H := { results := [], args := [] }

/-- 'spadillelaw12.RingSeals': WHATEVER THE INPUT: true; the input reads as it did. -/
def ringSealsSpec : ChangeSpec := { name := "ringSeals", fn := fun _ => fun
  | [d1, d2, d3] => { results := [.lit (.bool true)], args := [d1, d2, d3] }
  | _ => none }
def ringSealsRow : OpenClaim := { program := "ytenlanbdolnhhaa", sum := "0c0686fc9a826dfa045a9c0c02da01d52c54e5dd7ecfd9cc02522d9f238e6419", func := "spadille/spadillelaw12.RingSeals", spec := "ringSeals", unfollowed := true, recurses := true, apart := false }
def RingSealsSaid : Prop := ringSealsRow.holds Try.pinned (OpenSpec.ofChange ringSealsSpec)

/-- ITS FALSE NEIGHBOUR: 'it returns false'. Refute it at one input. -/
def ringSealsWrong : ChangeSpec := { name := "ringSeals", fn := fun _ => fun
  | [d1, d2, d3] => { results := [.lit (.bool false)], args := [d1, d2, d3] }
  | _ => none }
def RingSealsWrongFalsely : Prop := ringSealsRow.holds Try.pinned (OpenSpec.ofChange ringSealsWrong)

/-- 'spadillelaw12.RingDistances': WHATEVER THE INPUT: true; the input reads as it did. -/
def ringDistancesSpec : ChangeSpec := { name := "ringDistances", fn := fun _ => fun
  | [d1, d2] => { results := [.lit (.bool true)], args := [d1, d2] }
  | _ => none }
def ringDistancesRow : OpenClaim := { program := "ytenlanbdolnhhaa", sum := "0c0686fc9a826dfa045a9c0c02da01d52c54e5dd7ecfd9cc02522d9f238e6419", func := "spadille/spadillelaw12.RingDistances", spec := "ringDistances", unfollowed := true, recurses := true, apart := false }
def RingDistancesSaid : Prop := ringDistancesRow.holds Try.pinned (OpenSpec.ofChange ringDistancesSpec)

/-- ITS FALSE NEIGHBOUR: 'it returns false'. Refute it at one input. -/
def ringDistancesWrong : ChangeSpec := { name := "ringDistances", fn := fun _ => fun
  | [d1, d2] => { results := [.lit (.bool false)], args := [d1, d2] }
  | _ => none }
def RingDistancesWrongFalsely : Prop := ringDistancesRow.holds Try.pinned (OpenSpec.ofChange ringDistancesWrong)

/-- 'spadillelaw12.RingFinds': WHATEVER THE INPUT: true; the input reads as it did. -/
def ringFindsSpec : ChangeSpec := { name := "ringFinds", fn := fun _ => fun
  | [d1, d2, d3] => { results := [.lit (.bool true)], args := [d1, d2, d3] }
  | _ => none }
def ringFindsRow : OpenClaim := { program := "ytenlanbdolnhhaa", sum := "0c0686fc9a826dfa045a9c0c02da01d52c54e5dd7ecfd9cc02522d9f238e6419", func := "spadille/spadillelaw12.RingFinds", spec := "ringFinds", unfollowed := true, recurses := true, apart := false }
def RingFindsSaid : Prop := ringFindsRow.holds Try.pinned (OpenSpec.ofChange ringFindsSpec)

/-- ITS FALSE NEIGHBOUR: 'it returns false'. Refute it at one input. -/
def ringFindsWrong : ChangeSpec := { name := "ringFinds", fn := fun _ => fun
  | [d1, d2, d3] => { results := [.lit (.bool false)], args := [d1, d2, d3] }
  | _ => none }
def RingFindsWrongFalsely : Prop := ringFindsRow.holds Try.pinned (OpenSpec.ofChange ringFindsWrong)

/-- 'spadillelaw12.RingMultiplies': WHATEVER THE INPUT: true; the input reads as it did. -/
def ringMultipliesSpec : ChangeSpec := { name := "ringMultiplies", fn := fun _ => fun
  | [d1, d2] => { results := [.lit (.bool true)], args := [d1, d2] }
  | _ => none }
def ringMultipliesRow : OpenClaim := { program := "ytenlanbdolnhhaa", sum := "0c0686fc9a826dfa045a9c0c02da01d52c54e5dd7ecfd9cc02522d9f238e6419", func := "spadille/spadillelaw12.RingMultiplies", spec := "ringMultiplies", unfollowed := true, recurses := true, apart := false }
def RingMultipliesSaid : Prop := ringMultipliesRow.holds Try.pinned (OpenSpec.ofChange ringMultipliesSpec)

/-- ITS FALSE NEIGHBOUR: 'it returns false'. Refute it at one input. -/
def ringMultipliesWrong : ChangeSpec := { name := "ringMultiplies", fn := fun _ => fun
  | [d1, d2] => { results := [.lit (.bool false)], args := [d1, d2] }
  | _ => none }
def RingMultipliesWrongFalsely : Prop := ringMultipliesRow.holds Try.pinned (OpenSpec.ofChange ringMultipliesWrong)

/-- 'spadillelaw12.RingOnce': WHATEVER THE INPUT: true; the input reads as it did. -/
def ringOnceSpec : ChangeSpec := { name := "ringOnce", fn := fun _ => fun
  | [d1, d2] => { results := [.lit (.bool true)], args := [d1, d2] }
  | _ => none }
def ringOnceRow : OpenClaim := { program := "ytenlanbdolnhhaa", sum := "0c0686fc9a826dfa045a9c0c02da01d52c54e5dd7ecfd9cc02522d9f238e6419", func := "spadille/spadillelaw12.RingOnce", spec := "ringOnce", unfollowed := true, recurses := true, apart := false }
def RingOnceSaid : Prop := ringOnceRow.holds Try.pinned (OpenSpec.ofChange ringOnceSpec)

/-- ITS FALSE NEIGHBOUR: 'it returns false'. Refute it at one input. -/
def ringOnceWrong : ChangeSpec := { name := "ringOnce", fn := fun _ => fun
  | [d1, d2] => { results := [.lit (.bool false)], args := [d1, d2] }
  | _ => none }
def RingOnceWrongFalsely : Prop := ringOnceRow.holds Try.pinned (OpenSpec.ofChange ringOnceWrong)

/-- 'spadillelaw12.RingApart': WHATEVER THE INPUT: true; the input reads as it did. -/
def ringApartSpec : ChangeSpec := { name := "ringApart", fn := fun _ => fun
  | [d1, d2, d3] => { results := [.lit (.bool true)], args := [d1, d2, d3] }
  | _ => none }
def ringApartRow : OpenClaim := { program := "ytenlanbdolnhhaa", sum := "0c0686fc9a826dfa045a9c0c02da01d52c54e5dd7ecfd9cc02522d9f238e6419", func := "spadille/spadillelaw12.RingApart", spec := "ringApart", unfollowed := true, recurses := true, apart := false }
def RingApartSaid : Prop := ringApartRow.holds Try.pinned (OpenSpec.ofChange ringApartSpec)

/-- ITS FALSE NEIGHBOUR: 'it returns false'. Refute it at one input. -/
def ringApartWrong : ChangeSpec := { name := "ringApart", fn := fun _ => fun
  | [d1, d2, d3] => { results := [.lit (.bool false)], args := [d1, d2, d3] }
  | _ => none }
def RingApartWrongFalsely : Prop := ringApartRow.holds Try.pinned (OpenSpec.ofChange ringApartWrong)

/-- 'spadillelaw12.RingRoom': WHATEVER THE INPUT: true; the input reads as it did. -/
def ringRoomSpec : ChangeSpec := { name := "ringRoom", fn := fun _ => fun
  | [d1, d2] => { results := [.lit (.bool true)], args := [d1, d2] }
  | _ => none }
def ringRoomRow : OpenClaim := { program := "ytenlanbdolnhhaa", sum := "0c0686fc9a826dfa045a9c0c02da01d52c54e5dd7ecfd9cc02522d9f238e6419", func := "spadille/spadillelaw12.RingRoom", spec := "ringRoom", unfollowed := true, recurses := true, apart := false }
def RingRoomSaid : Prop := ringRoomRow.holds Try.pinned (OpenSpec.ofChange ringRoomSpec)

/-- ITS FALSE NEIGHBOUR: 'it returns false'. Refute it at one input. -/
def ringRoomWrong : ChangeSpec := { name := "ringRoom", fn := fun _ => fun
  | [d1, d2] => { results := [.lit (.bool false)], args := [d1, d2] }
  | _ => none }
def RingRoomWrongFalsely : Prop := ringRoomRow.holds Try.pinned (OpenSpec.ofChange ringRoomWrong)

/-- 'spadillelaw12.RingKnown': WHATEVER THE INPUT: true; the input reads as it did. -/
def ringKnownSpec : ChangeSpec := { name := "ringKnown", fn := fun _ => fun
  | [] => { results := [.lit (.bool true)], args := [] }
  | _ => none }
def ringKnownRow : OpenClaim := { program := "ytenlanbdolnhhaa", sum := "0c0686fc9a826dfa045a9c0c02da01d52c54e5dd7ecfd9cc02522d9f238e6419", func := "spadille/spadillelaw12.RingKnown", spec := "ringKnown", unfollowed := true, recurses := true, apart := false }
def RingKnownSaid : Prop := ringKnownRow.holds Try.pinned (OpenSpec.ofChange ringKnownSpec)

/-- ITS FALSE NEIGHBOUR: 'it returns false'. Refute it at one input. -/
def ringKnownWrong : ChangeSpec := { name := "ringKnown", fn := fun _ => fun
  | [] => { results := [.lit (.bool false)], args := [] }
  | _ => none }
def RingKnownWrongFalsely : Prop := ringKnownRow.holds Try.pinned (OpenSpec.ofChange ringKnownWrong)

/-- 'spadillelaw12.RingAlike': WHATEVER THE INPUT: true; the input reads as it did. -/
def ringAlikeSpec : ChangeSpec := { name := "ringAlike", fn := fun _ => fun
  | [d1, d2, d3, d4] => { results := [.lit (.bool true)], args := [d1, d2, d3, d4] }
  | _ => none }
def ringAlikeRow : OpenClaim := { program := "ytenlanbdolnhhaa", sum := "0c0686fc9a826dfa045a9c0c02da01d52c54e5dd7ecfd9cc02522d9f238e6419", func := "spadille/spadillelaw12.RingAlike", spec := "ringAlike", unfollowed := true, recurses := true, apart := false }
def RingAlikeSaid : Prop := ringAlikeRow.holds Try.pinned (OpenSpec.ofChange ringAlikeSpec)

/-- ITS FALSE NEIGHBOUR: 'it returns false'. Refute it at one input. -/
def ringAlikeWrong : ChangeSpec := { name := "ringAlike", fn := fun _ => fun
  | [d1, d2, d3, d4] => { results := [.lit (.bool false)], args := [d1, d2, d3, d4] }
  | _ => none }
def RingAlikeWrongFalsely : Prop := ringAlikeRow.holds Try.pinned (OpenSpec.ofChange ringAlikeWrong)

/-- 'spadillelaw12.RingMultiplied': WHATEVER THE INPUT: true; the input reads as it did. -/
def ringMultipliedSpec : ChangeSpec := { name := "ringMultiplied", fn := fun _ => fun
  | [d1, d2, d3] => { results := [.lit (.bool true)], args := [d1, d2, d3] }
  | _ => none }
def ringMultipliedRow : OpenClaim := { program := "ytenlanbdolnhhaa", sum := "0c0686fc9a826dfa045a9c0c02da01d52c54e5dd7ecfd9cc02522d9f238e6419", func := "spadille/spadillelaw12.RingMultiplied", spec := "ringMultiplied", unfollowed := true, recurses := true, apart := false }
def RingMultipliedSaid : Prop := ringMultipliedRow.holds Try.pinned (OpenSpec.ofChange ringMultipliedSpec)

/-- ITS FALSE NEIGHBOUR: 'it returns false'. Refute it at one input. -/
def ringMultipliedWrong : ChangeSpec := { name := "ringMultiplied", fn := fun _ => fun
  | [d1, d2, d3] => { results := [.lit (.bool false)], args := [d1, d2, d3] }
  | _ => none }
def RingMultipliedWrongFalsely : Prop := ringMultipliedRow.holds Try.pinned (OpenSpec.ofChange ringMultipliedWrong)

/-- 'spadillelaw12.RingFrom': WHATEVER THE INPUT: true; the input reads as it did. -/
def ringFromSpec : ChangeSpec := { name := "ringFrom", fn := fun _ => fun
  | [d] => { results := [.lit (.bool true)], args := [d] }
  | _ => none }
def ringFromRow : OpenClaim := { program := "ytenlanbdolnhhaa", sum := "0c0686fc9a826dfa045a9c0c02da01d52c54e5dd7ecfd9cc02522d9f238e6419", func := "spadille/spadillelaw12.RingFrom", spec := "ringFrom", unfollowed := true, recurses := true, apart := false }
def RingFromSaid : Prop := ringFromRow.holds Try.pinned (OpenSpec.ofChange ringFromSpec)

/-- ITS FALSE NEIGHBOUR: 'it returns false'. Refute it at one input. -/
def ringFromWrong : ChangeSpec := { name := "ringFrom", fn := fun _ => fun
  | [d] => { results := [.lit (.bool false)], args := [d] }
  | _ => none }
def RingFromWrongFalsely : Prop := ringFromRow.holds Try.pinned (OpenSpec.ofChange ringFromWrong)

/- THE SECOND FORM. 'bulk': how many values and letters a reading holds, each counted each time it is reached (what is shared counts as often as it is met; a slice's spare places count too). A statement '..UptoSaid' is the law's where the arguments, and the package variables that the reading takes, are together of bulk at most 1048576: NARROWER than '..Said'. Prove '..Said' where nothing that the law and all that it calls make is longer than what came in: it says more and counts as full. Else prove '..UptoSaid'. A law counts once. -/
mutual
def uptoBulk {H : Type} : DataW H → Nat
  | .lit (.string bytes) => bytes.length + 1
  | .lit _ => 1
  | .nil => 1
  | .ptr d => uptoBulk d + 1
  | .slice elems spare => uptoBulkAll elems + uptoBulkAll spare + 1
  | .agg parts => uptoBulkAll parts + 1
  | .iface _ d => uptoBulk d + 1
  | .map entries => uptoBulkEntries entries + 1
  | .held _ => 1
def uptoBulkAll {H : Type} : List (DataW H) → Nat
  | [] => 0
  | d :: r => uptoBulk d + uptoBulkAll r
def uptoBulkEntries {H : Type} : List (Lit × DataW H) → Nat
  | [] => 0
  | x :: r => uptoBulkEntry x + uptoBulkEntries r
def uptoBulkEntry {H : Type} : Lit × DataW H → Nat
  | (.string bytes, d) => bytes.length + uptoBulk d + 1
  | (_, d) => uptoBulk d + 1
 end
def uptoSmall : (H : Type) → List (DataW H) → Bool := fun _ ds => decide (uptoBulkAll ds ≤ 1048576)
def OpenSpec.upto (s : _root_.Go.ChangeSpec) : _root_.Go.OpenSpec := { _root_.Go.OpenSpec.ofChange s with cond := some uptoSmall }

/-- 'spadillelaw12.RingSeals', WHERE WHAT IT READS IS OF BULK AT MOST 1048576: true; the input reads as it did. -/
def ringSealsUptoRow : OpenClaim := { program := "ytenlanbdolnhhaa", sum := "0c0686fc9a826dfa045a9c0c02da01d52c54e5dd7ecfd9cc02522d9f238e6419", func := "spadille/spadillelaw12.RingSeals", spec := "ringSeals", unfollowed := true, recurses := true, apart := false, narrowed := true }
def RingSealsUptoSaid : Prop := ringSealsUptoRow.holds Try.pinned (OpenSpec.upto ringSealsSpec)

/-- 'spadillelaw12.RingDistances', WHERE WHAT IT READS IS OF BULK AT MOST 1048576: true; the input reads as it did. -/
def ringDistancesUptoRow : OpenClaim := { program := "ytenlanbdolnhhaa", sum := "0c0686fc9a826dfa045a9c0c02da01d52c54e5dd7ecfd9cc02522d9f238e6419", func := "spadille/spadillelaw12.RingDistances", spec := "ringDistances", unfollowed := true, recurses := true, apart := false, narrowed := true }
def RingDistancesUptoSaid : Prop := ringDistancesUptoRow.holds Try.pinned (OpenSpec.upto ringDistancesSpec)

/-- 'spadillelaw12.RingFinds', WHERE WHAT IT READS IS OF BULK AT MOST 1048576: true; the input reads as it did. -/
def ringFindsUptoRow : OpenClaim := { program := "ytenlanbdolnhhaa", sum := "0c0686fc9a826dfa045a9c0c02da01d52c54e5dd7ecfd9cc02522d9f238e6419", func := "spadille/spadillelaw12.RingFinds", spec := "ringFinds", unfollowed := true, recurses := true, apart := false, narrowed := true }
def RingFindsUptoSaid : Prop := ringFindsUptoRow.holds Try.pinned (OpenSpec.upto ringFindsSpec)

/-- 'spadillelaw12.RingMultiplies', WHERE WHAT IT READS IS OF BULK AT MOST 1048576: true; the input reads as it did. -/
def ringMultipliesUptoRow : OpenClaim := { program := "ytenlanbdolnhhaa", sum := "0c0686fc9a826dfa045a9c0c02da01d52c54e5dd7ecfd9cc02522d9f238e6419", func := "spadille/spadillelaw12.RingMultiplies", spec := "ringMultiplies", unfollowed := true, recurses := true, apart := false, narrowed := true }
def RingMultipliesUptoSaid : Prop := ringMultipliesUptoRow.holds Try.pinned (OpenSpec.upto ringMultipliesSpec)

/-- 'spadillelaw12.RingOnce', WHERE WHAT IT READS IS OF BULK AT MOST 1048576: true; the input reads as it did. -/
def ringOnceUptoRow : OpenClaim := { program := "ytenlanbdolnhhaa", sum := "0c0686fc9a826dfa045a9c0c02da01d52c54e5dd7ecfd9cc02522d9f238e6419", func := "spadille/spadillelaw12.RingOnce", spec := "ringOnce", unfollowed := true, recurses := true, apart := false, narrowed := true }
def RingOnceUptoSaid : Prop := ringOnceUptoRow.holds Try.pinned (OpenSpec.upto ringOnceSpec)

/-- 'spadillelaw12.RingApart', WHERE WHAT IT READS IS OF BULK AT MOST 1048576: true; the input reads as it did. -/
def ringApartUptoRow : OpenClaim := { program := "ytenlanbdolnhhaa", sum := "0c0686fc9a826dfa045a9c0c02da01d52c54e5dd7ecfd9cc02522d9f238e6419", func := "spadille/spadillelaw12.RingApart", spec := "ringApart", unfollowed := true, recurses := true, apart := false, narrowed := true }
def RingApartUptoSaid : Prop := ringApartUptoRow.holds Try.pinned (OpenSpec.upto ringApartSpec)

/-- 'spadillelaw12.RingRoom', WHERE WHAT IT READS IS OF BULK AT MOST 1048576: true; the input reads as it did. -/
def ringRoomUptoRow : OpenClaim := { program := "ytenlanbdolnhhaa", sum := "0c0686fc9a826dfa045a9c0c02da01d52c54e5dd7ecfd9cc02522d9f238e6419", func := "spadille/spadillelaw12.RingRoom", spec := "ringRoom", unfollowed := true, recurses := true, apart := false, narrowed := true }
def RingRoomUptoSaid : Prop := ringRoomUptoRow.holds Try.pinned (OpenSpec.upto ringRoomSpec)

/-- 'spadillelaw12.RingKnown', WHERE WHAT IT READS IS OF BULK AT MOST 1048576: true; the input reads as it did. -/
def ringKnownUptoRow : OpenClaim := { program := "ytenlanbdolnhhaa", sum := "0c0686fc9a826dfa045a9c0c02da01d52c54e5dd7ecfd9cc02522d9f238e6419", func := "spadille/spadillelaw12.RingKnown", spec := "ringKnown", unfollowed := true, recurses := true, apart := false, narrowed := true }
def RingKnownUptoSaid : Prop := ringKnownUptoRow.holds Try.pinned (OpenSpec.upto ringKnownSpec)

/-- 'spadillelaw12.RingAlike', WHERE WHAT IT READS IS OF BULK AT MOST 1048576: true; the input reads as it did. -/
def ringAlikeUptoRow : OpenClaim := { program := "ytenlanbdolnhhaa", sum := "0c0686fc9a826dfa045a9c0c02da01d52c54e5dd7ecfd9cc02522d9f238e6419", func := "spadille/spadillelaw12.RingAlike", spec := "ringAlike", unfollowed := true, recurses := true, apart := false, narrowed := true }
def RingAlikeUptoSaid : Prop := ringAlikeUptoRow.holds Try.pinned (OpenSpec.upto ringAlikeSpec)

/-- 'spadillelaw12.RingMultiplied', WHERE WHAT IT READS IS OF BULK AT MOST 1048576: true; the input reads as it did. -/
def ringMultipliedUptoRow : OpenClaim := { program := "ytenlanbdolnhhaa", sum := "0c0686fc9a826dfa045a9c0c02da01d52c54e5dd7ecfd9cc02522d9f238e6419", func := "spadille/spadillelaw12.RingMultiplied", spec := "ringMultiplied", unfollowed := true, recurses := true, apart := false, narrowed := true }
def RingMultipliedUptoSaid : Prop := ringMultipliedUptoRow.holds Try.pinned (OpenSpec.upto ringMultipliedSpec)

/-- 'spadillelaw12.RingFrom', WHERE WHAT IT READS IS OF BULK AT MOST 1048576: true; the input reads as it did. -/
def ringFromUptoRow : OpenClaim := { program := "ytenlanbdolnhhaa", sum := "0c0686fc9a826dfa045a9c0c02da01d52c54e5dd7ecfd9cc02522d9f238e6419", func := "spadille/spadillelaw12.RingFrom", spec := "ringFrom", unfollowed := true, recurses := true, apart := false, narrowed := true }
def RingFromUptoSaid : Prop := ringFromUptoRow.holds Try.pinned (OpenSpec.upto ringFromSpec)

end Rows
end Go.Proofs.Ytenlanbdolnhhaa
