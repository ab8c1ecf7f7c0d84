/-
  No cell of these rows narrows 'for every input' (looked for: loops, veiled, ifaces, maps, wideKeys, modest, calm, conditions, laid).
  DERIVED. THE GIVEN ROWS OF THIS SEAT. 4 by the template 'for every input the law returns true; each argument reads behind the call as it read before'; 0 by the template 'total and deterministic' (their statements: YtkhedoaiejjcfaaGreatTotals.lean).
  GIVEN WITH THE SEED: the statements are not yours to turn. If you find one false, say at which input.
  Laid BY PROGRAM, IN A SANDBOX (cutbox-rows.mjs): the forced cells as the released guide's own fill.sh prints them over the translation c2743509241710a8… (all of the seat's roots in one cut). By AI agents, Wed Nov 11 2026. No macro, syntax, notation, axiom, sorry.
-/
import Derived.Test.YtkhedoaiejjcfaaGreatChecked
import GoSem.Claim
import GoSem.ClaimJoined
import GoSem.ClaimMapViews
import Derived.JoinedTies
import Derived.KernelRfl
namespace Go.Proofs.YtkhedoaiejjcfaaGreat
/- THE CELL 'sum', in the pinned program and in every row, IS THE sha256 OF THE DUMP (.gsa) THAT YtkhedoaiejjcfaaGreatProg.lean LOADS. Nothing in Lean hashes anything: it is a label: what it is worth is what the hold of that sum in a sandbox is worth. -/
noncomputable def Tryz.pinned : Pinned := { name := "ytkhedoaiejjcfaagreat", sum := "c2743509241710a8c695a770807105fe2c840d77c9f1ccde5d1615d20cc42a1a", checked := Tryz.checked }
namespace Rows
def none {H : Type} : Left H := { results := [], args := [] }

/-- 'spadillelaw11.HeapBrandt': WHATEVER THE INPUT: true; the input reads as it did. -/
def heapBrandtSpec : ChangeSpec := { name := "heapBrandt", fn := fun _ => fun
  | [d] => { results := [.lit (.bool true)], args := [d] }
  | _ => none }
def heapBrandtRow : OpenClaim := { program := "ytkhedoaiejjcfaagreat", sum := "c2743509241710a8c695a770807105fe2c840d77c9f1ccde5d1615d20cc42a1a", func := "spadille/spadillelaw11.HeapBrandt", spec := "heapBrandt", unfollowed := true, recurses := true, plainKeys := false, apart := false }
def HeapBrandtSaid : Prop := heapBrandtRow.holds Tryz.pinned (OpenSpec.ofChange heapBrandtSpec)

/-- ITS FALSE NEIGHBOUR: 'it returns false'. Refute it at one input. -/
def heapBrandtWrong : ChangeSpec := { name := "heapBrandt", fn := fun _ => fun
  | [d] => { results := [.lit (.bool false)], args := [d] }
  | _ => none }
def HeapBrandtWrongFalsely : Prop := heapBrandtRow.holds Tryz.pinned (OpenSpec.ofChange heapBrandtWrong)

/-- 'spadillelaw11.HeapLeads': WHATEVER THE INPUT: true; the input reads as it did. -/
def heapLeadsSpec : ChangeSpec := { name := "heapLeads", fn := fun _ => fun
  | [d] => { results := [.lit (.bool true)], args := [d] }
  | _ => none }
def heapLeadsRow : OpenClaim := { program := "ytkhedoaiejjcfaagreat", sum := "c2743509241710a8c695a770807105fe2c840d77c9f1ccde5d1615d20cc42a1a", func := "spadille/spadillelaw11.HeapLeads", spec := "heapLeads", unfollowed := true, recurses := true, plainKeys := false, apart := false }
def HeapLeadsSaid : Prop := heapLeadsRow.holds Tryz.pinned (OpenSpec.ofChange heapLeadsSpec)

/-- ITS FALSE NEIGHBOUR: 'it returns false'. Refute it at one input. -/
def heapLeadsWrong : ChangeSpec := { name := "heapLeads", fn := fun _ => fun
  | [d] => { results := [.lit (.bool false)], args := [d] }
  | _ => none }
def HeapLeadsWrongFalsely : Prop := heapLeadsRow.holds Tryz.pinned (OpenSpec.ofChange heapLeadsWrong)

/-- 'spadillelaw11.HeapBasins': WHATEVER THE INPUT: true; the input reads as it did. -/
def heapBasinsSpec : ChangeSpec := { name := "heapBasins", fn := fun _ => fun
  | [d] => { results := [.lit (.bool true)], args := [d] }
  | _ => none }
def heapBasinsRow : OpenClaim := { program := "ytkhedoaiejjcfaagreat", sum := "c2743509241710a8c695a770807105fe2c840d77c9f1ccde5d1615d20cc42a1a", func := "spadille/spadillelaw11.HeapBasins", spec := "heapBasins", unfollowed := true, recurses := true, plainKeys := false, apart := false }
def HeapBasinsSaid : Prop := heapBasinsRow.holds Tryz.pinned (OpenSpec.ofChange heapBasinsSpec)

/-- ITS FALSE NEIGHBOUR: 'it returns false'. Refute it at one input. -/
def heapBasinsWrong : ChangeSpec := { name := "heapBasins", fn := fun _ => fun
  | [d] => { results := [.lit (.bool false)], args := [d] }
  | _ => none }
def HeapBasinsWrongFalsely : Prop := heapBasinsRow.holds Tryz.pinned (OpenSpec.ofChange heapBasinsWrong)

/-- 'spadillelaw11.HeapLongestGame': WHATEVER THE INPUT: true; the input reads as it did. -/
def heapLongestGameSpec : ChangeSpec := { name := "heapLongestGame", fn := fun _ => fun
  | [d] => { results := [.lit (.bool true)], args := [d] }
  | _ => none }
def heapLongestGameRow : OpenClaim := { program := "ytkhedoaiejjcfaagreat", sum := "c2743509241710a8c695a770807105fe2c840d77c9f1ccde5d1615d20cc42a1a", func := "spadille/spadillelaw11.HeapLongestGame", spec := "heapLongestGame", unfollowed := true, recurses := true, plainKeys := false, apart := false }
def HeapLongestGameSaid : Prop := heapLongestGameRow.holds Tryz.pinned (OpenSpec.ofChange heapLongestGameSpec)

/-- ITS FALSE NEIGHBOUR: 'it returns false'. Refute it at one input. -/
def heapLongestGameWrong : ChangeSpec := { name := "heapLongestGame", fn := fun _ => fun
  | [d] => { results := [.lit (.bool false)], args := [d] }
  | _ => none }
def HeapLongestGameWrongFalsely : Prop := heapLongestGameRow.holds Tryz.pinned (OpenSpec.ofChange heapLongestGameWrong)

/- THE SECOND FORM. 'bulk': how many values and letters a reading holds, each counted each time it is reached (what is shared counts as often as it is met; a slice's spare places count too). A statement '..UptoSaid' is the law's where the arguments, and the package variables that the reading takes, are together of bulk at most 1048576: NARROWER than '..Said'. Prove '..Said' where nothing that the law and all that it calls make is longer than what came in: it says more and counts as full. Else prove '..UptoSaid'. A law counts once. -/
mutual
def uptoBulk {H : Type} : DataW H → Nat
  | .lit (.string bytes) => bytes.length + 1
  | .lit _ => 1
  | .nil => 1
  | .ptr d => uptoBulk d + 1
  | .slice elems spare => uptoBulkAll elems + uptoBulkAll spare + 1
  | .agg parts => uptoBulkAll parts + 1
  | .iface _ d => uptoBulk d + 1
  | .map entries => uptoBulkEntries entries + 1
  | .held _ => 1
def uptoBulkAll {H : Type} : List (DataW H) → Nat
  | [] => 0
  | d :: r => uptoBulk d + uptoBulkAll r
def uptoBulkEntries {H : Type} : List (Lit × DataW H) → Nat
  | [] => 0
  | x :: r => uptoBulkEntry x + uptoBulkEntries r
def uptoBulkEntry {H : Type} : Lit × DataW H → Nat
  | (.string bytes, d) => bytes.length + uptoBulk d + 1
  | (_, d) => uptoBulk d + 1
 end
def uptoSmall : (H : Type) → List (DataW H) → Bool := fun _ ds => decide (uptoBulkAll ds ≤ 1048576)
def OpenSpec.upto (s : _root_.Go.ChangeSpec) : _root_.Go.OpenSpec := { _root_.Go.OpenSpec.ofChange s with cond := some uptoSmall }

/-- 'spadillelaw11.HeapBrandt', WHERE WHAT IT READS IS OF BULK AT MOST 1048576: true; the input reads as it did. -/
def heapBrandtUptoRow : OpenClaim := { program := "ytkhedoaiejjcfaagreat", sum := "c2743509241710a8c695a770807105fe2c840d77c9f1ccde5d1615d20cc42a1a", func := "spadille/spadillelaw11.HeapBrandt", spec := "heapBrandt", unfollowed := true, recurses := true, plainKeys := false, apart := false, narrowed := true }
def HeapBrandtUptoSaid : Prop := heapBrandtUptoRow.holds Tryz.pinned (OpenSpec.upto heapBrandtSpec)

/-- 'spadillelaw11.HeapLeads', WHERE WHAT IT READS IS OF BULK AT MOST 1048576: true; the input reads as it did. -/
def heapLeadsUptoRow : OpenClaim := { program := "ytkhedoaiejjcfaagreat", sum := "c2743509241710a8c695a770807105fe2c840d77c9f1ccde5d1615d20cc42a1a", func := "spadille/spadillelaw11.HeapLeads", spec := "heapLeads", unfollowed := true, recurses := true, plainKeys := false, apart := false, narrowed := true }
def HeapLeadsUptoSaid : Prop := heapLeadsUptoRow.holds Tryz.pinned (OpenSpec.upto heapLeadsSpec)

/-- 'spadillelaw11.HeapBasins', WHERE WHAT IT READS IS OF BULK AT MOST 1048576: true; the input reads as it did. -/
def heapBasinsUptoRow : OpenClaim := { program := "ytkhedoaiejjcfaagreat", sum := "c2743509241710a8c695a770807105fe2c840d77c9f1ccde5d1615d20cc42a1a", func := "spadille/spadillelaw11.HeapBasins", spec := "heapBasins", unfollowed := true, recurses := true, plainKeys := false, apart := false, narrowed := true }
def HeapBasinsUptoSaid : Prop := heapBasinsUptoRow.holds Tryz.pinned (OpenSpec.upto heapBasinsSpec)

/-- 'spadillelaw11.HeapLongestGame', WHERE WHAT IT READS IS OF BULK AT MOST 1048576: true; the input reads as it did. -/
def heapLongestGameUptoRow : OpenClaim := { program := "ytkhedoaiejjcfaagreat", sum := "c2743509241710a8c695a770807105fe2c840d77c9f1ccde5d1615d20cc42a1a", func := "spadille/spadillelaw11.HeapLongestGame", spec := "heapLongestGame", unfollowed := true, recurses := true, plainKeys := false, apart := false, narrowed := true }
def HeapLongestGameUptoSaid : Prop := heapLongestGameUptoRow.holds Tryz.pinned (OpenSpec.upto heapLongestGameSpec)

end Rows
end Go.Proofs.YtkhedoaiejjcfaaGreat
