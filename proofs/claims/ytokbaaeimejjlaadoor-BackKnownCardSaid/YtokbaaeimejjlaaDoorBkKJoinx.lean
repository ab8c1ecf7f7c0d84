/- Made from wip. -/
import Derived.Test.YtokbaaeimejjlaaDoorBkShelfx
import Derived.Test.YtokbaaeimejjlaaDoorBkSorted
import Derived.Test.YtokbaaeimejjlaaDoorSpClo3x

set_option maxRecDepth 100000
set_option maxHeartbeats 0
namespace Go.Proofs.YtokbaaeimejjlaaDoor.BkK
open Go Go.Sp Go.BkK
noncomputable section
def trueF (args:List Value):Option Value:=ll args (some (.bool true)) fun _ _=>none
def isA:FuncId→Bool:=fun _=>false
def puA:PureF:=fun _ _=>none
def inlA:CallF:=fun g args H=>bb (Nat.beq g 43) (bkSortedF args H) (bb (Nat.beq g 77) (giveF bkTab 1 bkFlipM args H) none)
def evA (n:Nat) (g:FuncId) (args:List Value):Option (Value×AHeap):=evFnP bkTab isA puA inlA tt fns n g args (tabsHeap bkTab)
end
theorem bkTab_ne:∀ t ∈ bkTab,t ≠ []:=by intro t ht;simp [bkTab] at ht;subst ht;intro h;cases h
theorem bkTab_pl:∀ t ∈ bkTab,∀ x ∈ t,plain1 x = true:=by intro t ht x hx;simp [bkTab] at ht;subst ht;simp [bkTab0] at hx;rcases hx with rfl | rfl | rfl | rfl | rfl | rfl | rfl | rfl | rfl | rfl | rfl | rfl | rfl | rfl | rfl | rfl | rfl | rfl | rfl | rfl | rfl | rfl | rfl | rfl | rfl | rfl | rfl | rfl | rfl | rfl | rfl | rfl <;> rfl
theorem qA:∀ g,isA g = true→PureOk Tryd.prog bkTab g (puA g):=fun g h=>by cases h
theorem iA (hm:Tryd.prog.follows .mixedOrders = true):CallOk Tryd.prog (List.range bkTab.length) inlA:=fun g args H v H' h=>by
 replace h:bb (Nat.beq g 43) (bkSortedF args H) (bb (Nat.beq g 77) (giveF bkTab 1 bkFlipM args H) none) = some (v,H'):=h
 rcases bb_cases h with ⟨e,h⟩ | ⟨_,h⟩
 ·obtain rfl := Nat.eq_of_beq_eq_true e
  exact bkSortedF_ok hm h
 ·obtain ⟨e, h⟩ := bb_inv h
  obtain rfl:=Nat.eq_of_beq_eq_true e
  exact giveF_ok bkTab_ne bkTab_pl (bkFlip_ok hm) h
theorem run19:valR (evA 400 19 []) = some (.bool true):=by kernel_rfl
theorem ok19 (hm:Tryd.prog.follows .mixedOrders = true):PureOk Tryd.prog bkTab 19 trueF:=by
 refine pureOk_closedP (tabs:=bkTab) (n:=400) (g:=19) (H:=tabsHeap bkTab) (isP:=isA) (pu:=puA) (inl:=inlA) ttOk bkTab_ne bkTab_pl fnsOk hm qA (iA hm) (fun i=>tabsHeap_get i) rfl (enter_ok fok19) fun args v h=>?_
 replace h:=ll_end h;obtain ⟨rfl,h⟩:=h
 injection h with h;subst h
 exact ⟨rfl,.inl run19⟩
noncomputable section
def isB:FuncId→Bool:=fun g=>Nat.beq g 19
def puB:PureF:=fun g=>bb (Nat.beq g 19) trueF fun _=>none
def evB (n:Nat) (g:FuncId) (args:List Value):Option (Value×AHeap):=evFnP bkTab isB puB inlA tt fns n g args (tabsHeap bkTab)
end
theorem qB (hm:Tryd.prog.follows .mixedOrders = true):∀ g,isB g = true→PureOk Tryd.prog bkTab g (puB g):=fun g h=>by
 obtain rfl:=Nat.eq_of_beq_eq_true (show Nat.beq g 19 = true from h);exact ok19 hm
theorem run8:valR (evB 400 8 []) = some (.bool true):=by kernel_rfl
theorem ok8 (hm:Tryd.prog.follows .mixedOrders = true):PureOk Tryd.prog bkTab 8 trueF:=by
 refine pureOk_closedP (tabs:=bkTab) (n:=400) (g:=8) (H:=tabsHeap bkTab) (isP:=isB) (pu:=puB) (inl:=inlA) ttOk bkTab_ne bkTab_pl fnsOk hm (qB hm) (iA hm) (fun i=>tabsHeap_get i) rfl (enter_ok fok8) fun args v h=>?_
 replace h:=ll_end h;obtain ⟨rfl,h⟩:=h
 injection h with h;subst h
 exact ⟨rfl,.inl run8⟩
end Go.Proofs.YtokbaaeimejjlaaDoor.BkK
namespace Go.BkKM
open Go Go.Sp
noncomputable def tab0:List Value:=Go.Proofs.bkTab0
end Go.BkKM
