/- Made from wip. -/
import Derived.Test.YtenlanbdolnhhaaRgJJoinx
import Derived.Test.YtenlanbdolnhhaaRgJT3x
import Derived.Test.YtenlanbdolnhhaaRgJLUB

set_option maxRecDepth 100000
set_option maxHeartbeats 0
namespace Go.Proofs.Ytenlanbdolnhhaa.RgJ
open Go Go.Sp Go.RgP Go.RgJM Go.RgJ
noncomputable section
def trueF (args:List Value):Option Value:=ll args (some (.bool true)) fun _ _=>none
def puW2:PureF:=fun g=>bb (memN g [10810,10811,10830,10870]) (fun _=>none) (puW g)
def isR2:FuncId→Bool:=fun g=>an (isR g) (nt (memN g [82]))
def evW2 (n:Nat) (g:FuncId) (args:List Value):Option (Value×AHeap):=evFnP tabs isR2 puV (inl puW2) tt fns n g args (tabsHeap tabs)
def puX:PureF:=fun g=>bb (Nat.beq g 14) trueF (puN 20 g)
end
theorem pure_le {P:Program} {tabs:List (List Value)} {g:FuncId} {f f':List Value→Option Value} (h:PureOk P tabs g f) (hf:∀ a v,f' a=some v→f a=some v):PureOk P tabs g f':=⟨h.1,fun args v hv=>h.2 args v (hf args v hv)⟩
theorem hw:PureOk Try.prog tabs 14 orc14:=⟨enter_ok fok14,fun _ _ h=>by cases h⟩
theorem q0 (hm:Try.prog.follows .mixedOrders=true):∀ g,isR2 g=true→PureOk Try.prog tabs g (puV g):=fun g hg=>by
 have h:PureOk Try.prog tabs g (pu0 g):=(all_ok hm hw 30).1 g (an_inv (an_inv hg).1).1
 by_cases e1:g=76
 ·subst e1;exact pure_le h or76
 ·by_cases e2:g=74
  ·subst e2;exact pure_le h or74
  ·by_cases e3:g=78
   ·subst e3;exact pure_le h or78
   ·have:puV g=pu0 g:=by unfold puV;rw[beq_ne e1,beq_ne e2,beq_ne e3];rfl
    rw[this];exact h
theorem obj_le {P:Program} {tabs:List (List Value)} {na k:Nat} {g:FuncId} {f f':List Value→Option Value} (h:ObjOk P tabs na k g f) (hf:∀ a v,f' a=some v→f a=some v):ObjOk P tabs na k g f':=⟨h.1,fun args os z h1 h2 h3 h4=>h.2 args os z h1 h2 h3 (hf _ _ h4)⟩
theorem eW (g:FuncId) (h:Nat.beq g 10850=false):puW g=pu0 g:=by unfold puW;rw[h,bb_false]
theorem eA:puW 10850=orcA:=by unfold puW;rw[show Nat.beq 10850 10850=true from rfl,bb_true]
theorem eX (g:FuncId) (h:Nat.beq g 14=false):puX g=puN 20 g:=by unfold puX;rw[h,bb_false]
theorem eX14:puX 14=trueF:=by unfold puX;rw[show Nat.beq 14 14=true from rfl,bb_true]
theorem i0 (hm:Try.prog.follows .mixedOrders=true):CallOk Try.prog (List.range tabs.length) (inl puW2):=by
 have all:(∀ g,isP g=true→PureOk Try.prog tabs g (pu0 g))∧PureOk Try.prog tabs 55 (pu0 55)∧ObjOk Try.prog tabs 1 0 86 (pu0 10860)∧ObjOk Try.prog tabs 2 1 60 (pu0 10600)∧ObjOk Try.prog tabs 5 1 94 (pu0 10940)∧ObjOk Try.prog tabs 4 1 99 (pu0 10990)∧ObjOk Try.prog tabs 5 3 81 (pu0 10810)∧ObjOk Try.prog tabs 3 3 87 (pu0 10870)∧ObjOk Try.prog tabs 2 1 85 (pu0 10850):=all_ok hm hw 30
 exact inl_ok hm (pu:=puW2) (by rw[show puW2 55=puW 55 from rfl,eW 55 rfl];exact all.2.1) (by rw[show puW2 10860=puW 10860 from rfl,eW 10860 rfl];exact all.2.2.1) (by rw[show puW2 10600=puW 10600 from rfl,eW 10600 rfl];exact all.2.2.2.1) (by rw[show puW2 10940=puW 10940 from rfl,eW 10940 rfl];exact all.2.2.2.2.1) (by rw[show puW2 10990=puW 10990 from rfl,eW 10990 rfl];exact all.2.2.2.2.2.1) (obj_le all.2.2.2.2.2.2.1 fun a v h=>by cases h) (obj_le all.2.2.2.2.2.2.2.1 fun a v h=>by cases h) (by rw[show puW2 10850=puW 10850 from rfl,eA];exact obj_le all.2.2.2.2.2.2.2.2 orA)
theorem run14:valR (evW2 400 14 [])=some (.bool true):=by kernel_rfl
theorem ok14 (hm:Try.prog.follows .mixedOrders=true):PureOk Try.prog tabs 14 trueF:=by
 refine pureOk_closedP (tabs:=tabs) (n:=400) (g:=14) (H:=tabsHeap tabs) (isP:=isR2) (pu:=puV) (inl:=inl puW2) ttOk tabs_ne tabs_pl fnsOk hm (q0 hm) (i0 hm) (fun i=>tabsHeap_get i) rfl (enter_ok fok14) fun args v h=>?_
 replace h:=ll_end h;obtain⟨rfl,h⟩:=h
 injection h with h;subst h
 exact⟨rfl,.inl run14⟩
theorem allX (hm:Try.prog.follows .mixedOrders=true):∀ g,isP g=true→PureOk Try.prog tabs g (puX g):=fun g hg=>by
 cases e:Nat.beq g 14 with
 | true=>obtain rfl:=Nat.eq_of_beq_eq_true e;rw[eX14];exact ok14 hm
 | false=>rw[eX g e];exact(all_ok hm hw 20).1 g hg
theorem lawOk (hm:Try.prog.follows .mixedOrders=true):PureOk Try.prog tabs 13 (m13 puX L):=by
 have all:=all_ok hm hw 20
 have hc:=callP_ok (P:=Try.prog) (tabs:=tabs) (pu:=puX) tabs_ne tabs_pl (inl_ok hm (pu:=puX) (by rw[eX 55 rfl];exact all.2.1) (by rw[eX 10860 rfl];exact all.2.2.1) (by rw[eX 10600 rfl];exact all.2.2.2.1) (by rw[eX 10940 rfl];exact all.2.2.2.2.1) (by rw[eX 10990 rfl];exact all.2.2.2.2.2.1) (by rw[eX 10810 rfl];exact all.2.2.2.2.2.2.1) (by rw[eX 10870 rfl];exact all.2.2.2.2.2.2.2.1) (by rw[eX 10850 rfl];exact all.2.2.2.2.2.2.2.2)) (allX hm)
 exact pureOk_of_run (tabs:=tabs) (f:=m13 puX L) ttOk hm hc fk13 fun args v h hx=>r13 puX L rfl h hx
end Go.Proofs.Ytenlanbdolnhhaa.RgJ
