/- Made from wip. -/
import Derived.Test.YtokbaaeimejjlaaDoorSpSortKx

namespace Go.Sp
section
variable {tt:TT} {call:CallF} {n0:Nat}
end
end Go.Sp
namespace Go.Sp
noncomputable section
structure MapV where
 es:List Ent
 clock:Nat
end

theorem GhS.trans {n0:Nat} {F F1 F2:Fr} {H H1 H2:AHeap} (h:GhS n0 F H F1 H1) (r:GhS n0 F1 H1 F2 H2):GhS n0 F H F2 H2:=by
 induction h with
 | id=>exact r
 | step hg _ ih=>exact .step hg (ih r)
end Go.Sp
namespace Go.Sp

section
variable {H:AHeap} {R:Ren} {w:World} {args args':List Value}
end

section
variable {P:Program} {tabs:List (List Value)}

end
end Go.Sp
namespace Go.Sp

section
variable {P:Program} {tabs:List (List Value)}

end
end Go.Sp
namespace Go.Sp

noncomputable section
structure NC where
 n:Nat
 c:Nat
def toFn (g:FuncId) (nf:Nat) (v:Value):Option (List Value):=oo (vFunc v) none fun x=>FnV.rec (motive:=fun _=>Option (List Value)) (fun f a b=>bb (an (Nat.beq f g) (Nat.beq (len a) nf)) (some (appL a b)) none) x
def isNil0 (v:Value):Bool:=isNilSl v
end
theorem toFn_some {g:FuncId} {nf:Nat} {v:Value} {l:List Value} (h:toFn g nf v = some l):v = .func (.func g) ⟨takeL nf l⟩ ⟨dropL nf l⟩:=by
 unfold toFn at h
 obtain ⟨y,hy,h⟩:=oo_inv h
 obtain ⟨f,a,b⟩:=y
 obtain ⟨hc,h⟩:=bb_inv (show bb (an (Nat.beq f g) (Nat.beq (len a) nf)) (some (appL a b)) none = some l from h)
 injection h with h;subst h
 obtain ⟨h1,h2⟩:=an_inv hc
 have h2:=Nat.eq_of_beq_eq_true h2
 rw [vFunc_some hy,Nat.eq_of_beq_eq_true h1,takeL_eq,dropL_eq,appL_eq,←h2,len_eq,List.take_left,List.drop_left]
theorem isNil0_ok {v:Value} (h:isNil0 v = true):v = .slice none 0 0:=isNilSl_true h

noncomputable section
end
end Go.Sp
