/- Made from wip. -/
import Derived.Test.YtenlanbdolnhhaaRgGJoinx
import Derived.Test.YtenlanbdolnhhaaRgGT2x
import Derived.Test.YtenlanbdolnhhaaRgGLG3

set_option maxRecDepth 100000
set_option maxHeartbeats 0
namespace Go.Proofs.Ytenlanbdolnhhaa.RgG
open Go Go.Sp Go.RgP Go.RgGM Go.RgG
noncomputable section
def trueF (args:List Value):Option Value:=ll args (some (.bool true)) fun _ _=>none
def find35 (F:Nat→Nat→Value) (args:List Value):Option Value:=ll args none fun a r=>ll r none fun b r=>ll r (oo (toI .i64 a) none fun x=>oo (toI .i64 b) none fun y=>oo (toN x) none fun m=>oo (toN y) none fun c=>bb (an (Nat.ble 1 m) (an (Nat.ble m 13) (Nat.ble c 6))) (some (F m c)) none) fun _ _=>none
def puX:PureF:=fun g=>bb (Nat.beq g 14) trueF (bb (Nat.beq g 35) (find35 findL) (puN 10 g))
def pairsN:List (Nat×Nat):=(List.range 13).flatMap fun m=>(List.range 7).map fun c=>(m + 1,c)
end
theorem pure_le {P:Program} {tabs:List (List Value)} {g:FuncId} {f f':List Value→Option Value} (h:PureOk P tabs g f) (hf:∀ a v,f' a = some v→f a = some v):PureOk P tabs g f':=⟨h.1,fun args v hv=>h.2 args v (hf args v hv)⟩
theorem hw:PureOk Try.prog tabs 14 orc14∧PureOk Try.prog tabs 35 orc35∧PureOk Try.prog tabs 37 orc37:=⟨⟨enter_ok fok14,fun _ _ h=>by cases h⟩,⟨enter_ok fok35,fun _ _ h=>by cases h⟩,⟨enter_ok fok37,fun _ _ h=>by cases h⟩⟩
theorem q0 (hm:Try.prog.follows .mixedOrders = true):∀ g,isR g = true→PureOk Try.prog tabs g (puV g):=fun g hg=>by
 have h:PureOk Try.prog tabs g (pu0 g):=(all_ok hm hw 30).1 g (an_inv hg).1
 by_cases e1:g = 76
 ·subst e1;exact pure_le h or76
 ·by_cases e2 : g = 74
  ·subst e2;exact pure_le h or74
  ·by_cases e3 : g = 78
   ·subst e3;exact pure_le h or78
   ·have : puV g = pu0 g := by unfold puV; rw [beq_ne e1, beq_ne e2, beq_ne e3]; rfl
    rw [this];exact h
theorem obj_le {P:Program} {tabs:List (List Value)} {na k:Nat} {g:FuncId} {f f':List Value→Option Value} (h:ObjOk P tabs na k g f) (hf:∀ a v,f' a = some v→f a = some v):ObjOk P tabs na k g f':=⟨h.1,fun args os z h1 h2 h3 h4=>h.2 args os z h1 h2 h3 (hf _ _ h4)⟩
theorem eW (g:FuncId) (h:Nat.beq g 10850 = false):puW g = pu0 g:=by unfold puW;rw [h,bb_false]
theorem eA:puW 10850 = orcA:=by unfold puW;rw [show Nat.beq 10850 10850 = true from rfl,bb_true]
theorem eX (g:FuncId) (h:Nat.beq g 14 = false) (h2:Nat.beq g 35 = false):puX g = puN 10 g:=by unfold puX;rw [h,bb_false,h2,bb_false]
theorem eX14:puX 14 = trueF:=by unfold puX;rw [show Nat.beq 14 14 = true from rfl,bb_true]
theorem eX35:puX 35 = find35 findL:=by unfold puX;rw [show Nat.beq 35 14 = false from rfl,bb_false,show Nat.beq 35 35 = true from rfl,bb_true]
theorem mapL_all {α β : Type} {f g : α → β} : ∀ {l : List α}, mapL f l = mapL g l → ∀ x ∈ l, f x = g x
 | [],_,_,h=>by cases h
 | a :: l, h, x, hx => by
  injection (show f a :: mapL f l = g a :: mapL g l from h) with h1 h2
  cases hx with
  | head=>exact h1
  | tail _ hx=>exact mapL_all h2 x hx
theorem pairs_mem {m c:Nat} (h1:1≤m) (h2:m≤13) (h3:c≤6):(m,c) ∈ pairsN:=by
 unfold pairsN
 rw [List.mem_flatMap]
 refine ⟨m - 1,List.mem_range.2 (by omega),?_⟩
 rw [List.mem_map]
 refine ⟨c,List.mem_range.2 (by omega),?_⟩
 rw [show m - 1 + 1 = m by omega]
theorem find35_inv {F:Nat→Nat→Value} {args:List Value} {v:Value} (h:find35 F args = some v):∃ m c:Nat,args = [IV (Int.ofNat m),IV (Int.ofNat c)]∧(m,c) ∈ pairsN∧v = F m c:=by
 replace h:=ll_uncons h;obtain ⟨a,r,rfl,h⟩:=h
 replace h:=ll_uncons h;obtain ⟨b,r,rfl,h⟩:=h
 replace h:=ll_end h;obtain ⟨rfl,h⟩:=h
 replace h:=oo_inv h;obtain ⟨x,hx,h⟩:=h
 replace h:=oo_inv h;obtain ⟨y,hy,h⟩:=h
 obtain rfl:=toI_some hx
 obtain rfl:=toI_some hy
 cases x with
 | negSucc m=>cases h
 | ofNat m =>
  cases y with
  | negSucc c=>cases h
  | ofNat c =>
   replace h:bb (an (Nat.ble 1 m) (an (Nat.ble m 13) (Nat.ble c 6))) (some (F m c)) none = some v:=h
   cases hb:an (Nat.ble 1 m) (an (Nat.ble m 13) (Nat.ble c 6)) with
   | false=>rw [hb] at h;cases h
   | true =>
    rw [hb] at h
    injection h with h
    obtain ⟨h1,h2⟩:=an_inv hb
    obtain ⟨h2,h3⟩:=an_inv h2
    exact ⟨m,c,rfl,pairs_mem (Nat.le_of_ble_eq_true h1) (Nat.le_of_ble_eq_true h2) (Nat.le_of_ble_eq_true h3),h.symm⟩
theorem find35_at {F:Nat→Nat→Value} {m c:Nat} (h1:0 < m) (h2:m≤13) (h3:c≤6):find35 F [IV (Int.ofNat m),IV (Int.ofNat c)] = some (F m c):=by
 show bb (an (Nat.ble 1 m) (an (Nat.ble m 13) (Nat.ble c 6))) (some (F m c)) none = _
 rw [show Nat.ble 1 m = true from Nat.ble_eq_true_of_le h1,Nat.ble_eq_true_of_le h2,Nat.ble_eq_true_of_le h3];rfl
theorem i0 (hm:Try.prog.follows .mixedOrders = true):CallOk Try.prog (List.range tabs.length) (inl puW):=by
 have all:(∀ g,isP g = true→PureOk Try.prog tabs g (pu0 g))∧PureOk Try.prog tabs 55 (pu0 55)∧ObjOk Try.prog tabs 1 0 86 (pu0 10860)∧ObjOk Try.prog tabs 2 0 33 (pu0 10330)∧ObjOk Try.prog tabs 2 1 85 (pu0 10850):=all_ok hm hw 30
 exact inl_ok hm (pu:=puW) (by rw [eW 55 rfl];exact all.2.1) (by rw [eW 10860 rfl];exact all.2.2.1) (by rw [eW 10330 rfl];exact all.2.2.2.1) (by rw [eA];exact obj_le all.2.2.2.2 orA)
theorem run14:valR (evW 400 14 []) = some (.bool true):=by kernel_rfl
theorem ok14 (hm:Try.prog.follows .mixedOrders = true):PureOk Try.prog tabs 14 trueF:=by
 refine pureOk_closedP (tabs:=tabs) (n:=400) (g:=14) (H:=tabsHeap tabs) (isP:=isR) (pu:=puV) (inl:=inl puW) ttOk tabs_ne tabs_pl fnsOk hm (q0 hm) (i0 hm) (fun i=>tabsHeap_get i) rfl (enter_ok fok14) fun args v h=>?_
 replace h:=ll_end h;obtain ⟨rfl,h⟩:=h
 injection h with h;subst h
 exact ⟨rfl,.inl run14⟩
theorem runs35:mapL (fun p:Nat×Nat=>valR (evW 400 35 [IV (Int.ofNat p.1),IV (Int.ofNat p.2)])) pairsN = mapL (fun p:Nat×Nat=>some (findF p.1 p.2)) pairsN:=by kernel_rfl
theorem clos35:mapL (fun p:Nat×Nat=>an (closedV (findF p.1 p.2)) (closedV (findL p.1 p.2))) pairsN = mapL (fun _:Nat×Nat=>true) pairsN:=by kernel_rfl
theorem clos35' {m c:Nat} (hp:(m,c) ∈ pairsN):an (closedV (findF m c)) (closedV (findL m c)) = true:=mapL_all (f:=fun p:Nat×Nat=>an (closedV (findF p.1 p.2)) (closedV (findL p.1 p.2))) (g:=fun _:Nat×Nat=>true) clos35 (m,c) hp
theorem run35 {m c:Nat} (hp:(m,c) ∈ pairsN):valR (evW 400 35 [IV (Int.ofNat m),IV (Int.ofNat c)]) = some (findF m c):=mapL_all (f:=fun p:Nat×Nat=>valR (evW 400 35 [IV (Int.ofNat p.1),IV (Int.ofNat p.2)])) (g:=fun p:Nat×Nat=>some (findF p.1 p.2)) runs35 (m,c) hp
theorem ok35R (hm:Try.prog.follows .mixedOrders = true):PureOk Try.prog tabs 35 (find35 findF):=by
 refine pureOk_closedP (tabs:=tabs) (n:=400) (g:=35) (H:=tabsHeap tabs) (isP:=isR) (pu:=puV) (inl:=inl puW) ttOk tabs_ne tabs_pl fnsOk hm (q0 hm) (i0 hm) (fun i=>tabsHeap_get i) rfl (enter_ok fok35) fun args v h=>?_
 obtain ⟨m,c,rfl,hp,rfl⟩:=find35_inv h
 exact ⟨(an_inv (clos35' hp)).1,.inl (run35 hp)⟩
theorem weak35 (m c:Nat):Weak (findF m c) (findL m c):=by
 unfold findF findL
 cases tabF m c with
 | none=>exact Weak.tup (l:=[.agg ⟨[IV 0,Value.slice none 0 0]⟩,IV 12]) (l':=[.agg ⟨[IV 0,Sl.v 1 ⟨0,2,[]⟩]⟩,IV 12]) ⟨Weak.agg (l:=[IV 0,Value.slice none 0 0]) (l':=[IV 0,Sl.v 1 ⟨0,2,[]⟩]) ⟨Weak.refl _,Weak.nil 1 2,trivial⟩,Weak.refl _,trivial⟩
 | some l=>exact Weak.refl _
theorem pure_weak {P:Program} {tabs:List (List Value)} {g:FuncId} {f f':List Value→Option Value} (h:PureOk P tabs g f) (hf:∀ a v,f' a = some v→∃ v0,f a = some v0∧Weak v0 v∧closedV v = true):PureOk P tabs g f':=⟨h.1,fun args v hv hcl R w args' hR hs ha=>by
 obtain ⟨v0,h1,h2,h3⟩:=hf args v hv
 exact (h.2 args v0 h1 hcl R w args' hR hs ha).mono fun e w' ⟨u,H',R',he,_,hu,hp⟩=>⟨u,H',R',he,h3,h2 _ _ hu,hp⟩⟩
theorem ok35 (hm:Try.prog.follows .mixedOrders = true):PureOk Try.prog tabs 35 (find35 findL):=pure_weak (ok35R hm) fun args v h=>by
 obtain ⟨m,c,rfl,hp,rfl⟩:=find35_inv h
 have:find35 findF [IV (Int.ofNat m),IV (Int.ofNat c)] = some (findF m c):=by
  unfold pairsN at hp
  rw [List.mem_flatMap] at hp
  obtain ⟨m',h1,h2⟩:=hp
  rw [List.mem_map] at h2
  obtain ⟨c',h2,h3⟩:=h2
  injection h3 with h3 h4
  subst h3;subst h4
  have h1:=List.mem_range.1 h1
  have h2:=List.mem_range.1 h2
  exact find35_at (by omega) (by omega) (by omega)
 exact ⟨_,this,weak35 m c,(an_inv (clos35' hp)).2⟩
theorem allX (hm:Try.prog.follows .mixedOrders = true):∀ g,isP g = true→PureOk Try.prog tabs g (puX g):=fun g hg=>by
 cases e:Nat.beq g 14 with
 | true=>obtain rfl:=Nat.eq_of_beq_eq_true e;rw [eX14];exact ok14 hm
 | false =>
  cases e2:Nat.beq g 35 with
  | true=>obtain rfl:=Nat.eq_of_beq_eq_true e2;rw [eX35];exact ok35 hm
  | false=>rw [eX g e e2];exact (all_ok hm hw 10).1 g hg
theorem lawOk (hm:Try.prog.follows .mixedOrders = true):PureOk Try.prog tabs 7 (m7 puX L):=by
 have all:=all_ok hm hw 10
 have hc:=callP_ok (P:=Try.prog) (tabs:=tabs) (pu:=puX) tabs_ne tabs_pl (inl_ok hm (pu:=puX) (by rw [eX 55 rfl rfl];exact all.2.1) (by rw [eX 10860 rfl rfl];exact all.2.2.1) (by rw [eX 10330 rfl rfl];exact all.2.2.2.1) (by rw [eX 10850 rfl rfl];exact all.2.2.2.2)) (allX hm)
 exact pureOk_of_run (tabs:=tabs) (f:=m7 puX L) ttOk hm hc fk7 fun args v h hx=>r7 puX L rfl h hx
end Go.Proofs.Ytenlanbdolnhhaa.RgG
