/- Made from wip. -/
import Derived.Test.YtkhedoaiejjcfaaSpFramex
import Derived.Test.YtkhedoaiejjcfaaSpSortKx
import Derived.Test.YtkhedoaiejjcfaaHvRPux
import Derived.KernelRfl

namespace Go.HpT
open Go Go.Sp
noncomputable section
def heads (ih:Nat→Nat→List (List Nat)) (left m:Nat):List (List Nat):=
 Nat.rec (motive:=fun _=>List (List Nat)) [] (fun k r=>appL r (mapL (fun p=>(k + 1) :: p) (ih (left - (k + 1)) (k + 1)))) m
def pts (f:Nat):Nat→Nat→List (List Nat):=
 Nat.rec (motive:=fun _=>Nat→Nat→List (List Nat)) (fun left _=>bb (Nat.beq left 0) [[]] []) (fun _ ih left most=>bb (Nat.beq left 0) [[]] (heads ih left (Nat.min left most))) f
def isPt (p:List Nat):Nat→Nat→Bool:=
 List.rec (motive:=fun _=>Nat→Nat→Bool) (fun left _=>Nat.beq left 0) (fun h _ ih left most=>an (Nat.ble 1 h) (an (Nat.ble h most) (an (Nat.ble h left) (ih (left - h) h)))) p
theorem mem_heads {ih : Nat → Nat → List (List Nat)} {left h : Nat} {r : List Nat} (hr : r ∈ ih (left - h) h) : ∀ m, 1 ≤ h → h ≤ m → h :: r ∈ heads ih left m
 | 0,h1,h2=>by omega
 | m + 1, h1, h2 => by
  show h :: r ∈ appL (heads ih left m) (mapL (fun p=>(m + 1) :: p) (ih (left - (m + 1)) (m + 1)))
  rw [appL_eq,List.mem_append,mapL_eq,List.mem_map]
  by_cases e:h = m + 1
  ·subst e;exact .inr ⟨r,hr,rfl⟩
  ·exact .inl (mem_heads hr m h1 (by omega))
theorem mem_pts : ∀ (p : List Nat) (f left most : Nat), left ≤ f → isPt p left most = true → p ∈ pts f left most
 | [], f, left, most, hf, h => by
  have h:Nat.beq left 0 = true:=h
  cases f with
  | zero=>show [] ∈ bb (Nat.beq left 0) [[]] [];rw [h];simp [bb_true]
  | succ f=>show [] ∈ bb (Nat.beq left 0) [[]] _;rw [h];simp [bb_true]
 | a :: p, f, left, most, hf, h => by
  have h:an (Nat.ble 1 a) (an (Nat.ble a most) (an (Nat.ble a left) (isPt p (left - a) a))) = true:=h
  obtain ⟨h1,h⟩:=an_inv h
  obtain ⟨h2,h⟩:=an_inv h
  obtain ⟨h3,h⟩:=an_inv h
  have h1:=Nat.le_of_ble_eq_true h1
  have h2:=Nat.le_of_ble_eq_true h2
  have h3:=Nat.le_of_ble_eq_true h3
  cases f with
  | zero=>omega
  | succ f =>
   have hz:Nat.beq left 0 = false:=by cases left with
    | zero=>omega
    | succ l=>rfl
   show a :: p ∈ bb (Nat.beq left 0) [[]] (heads (pts f) left (Nat.min left most))
   rw [hz,bb_false]
   exact mem_heads (mem_pts p f (left - a) a (by omega) h) _ h1 (Nat.le_min.2 ⟨h3,h2⟩)
def sumL (p:List Nat):Nat:=List.rec (motive:=fun _=>Nat) 0 (fun h _ r=>h + r) p
def okP (n:Nat) (p:List Nat):Bool:=an (Nat.ble 1 (sumL p)) (an (Nat.ble (sumL p) n) (isPt p (sumL p) (sumL p)))
def ins (m:Nat) (p:List Nat):List Nat:=List.rec (motive:=fun _=>List Nat) [m] (fun h r ih=>bb (Nat.ble h m) (m :: h :: r) (h :: ih)) p
def decs (p:List Nat):List Nat:=List.rec (motive:=fun _=>List Nat) [] (fun h _ ih=>bb (Nat.ble h 1) ih ((h - 1) :: ih)) p
def rnd (p:List Nat):List Nat:=ins (len p) (decs p)
def stair (n:Nat):Nat:=Nat.rec (motive:=fun _=>Nat→Nat→Nat) (fun k _=>k) (fun _ ih k left=>bb (Nat.blt k left) (ih (k + 1) (left - (k + 1))) k) n 0 n
def okS (k:Nat) (p:List Nat):Bool:=
 Nat.rec (motive:=fun _=>List Nat→Bool) (fun p=>ll p true fun h r=>an (Nat.beq h 1) (ll r true fun _ _=>false)) (fun k ih p=>ll p false fun h r=>an (orr (Nat.beq h (k + 1)) (Nat.beq h (k + 2))) (ih r)) k p
def ret (p:List Nat):Bool:=okS (stair (sumL p)) p
def unt (f:Nat):Nat→List Nat→Nat×List Nat:=
 Nat.rec (motive:=fun _=>Nat→List Nat→Nat×List Nat) (fun n p=>(n,p)) (fun _ ih n p=>bb (ret p) (n,p) (ih (Nat.succ n) (rnd p))) f
def iL (p:List Nat):List Value:=mapL (fun h=>.int .i64 (.ofNat h)) p
def decL (l:List Value):Option (List Nat):=List.rec (motive:=fun _=>Option (List Nat)) (some []) (fun v _ ih=>oo (vInt v) none fun q=>pp q fun _ z=>ii z (fun h=>oo ih none fun r=>some (h :: r)) fun _=>none) l
end
end Go.HpT
namespace Go.Sp
noncomputable section
end
section
variable {P:Program} {tt:TT} {tabs:List (List Value)}
end
end Go.Sp
namespace Go.Sp
noncomputable section
def cellsF (f:Value→AHeap→Option (Value×AHeap)) (l:List Value):AHeap→Option (List Value×AHeap):=
 List.rec (motive := fun _ => AHeap → Option (List Value × AHeap)) (fun H => some ([], H))
  (fun v _ ih H=>oo (vSl v) (oo (ih H) none fun p=>pp p fun r H'=>some (v :: r,H')) fun _=>oo (f v H) none fun q=>pp q fun v' H1=>oo (ih H1) none fun p=>pp p fun r H'=>some (v' :: r,H')) l
def deepN (k id:Nat) (av:List Nat):Bool:=an (Nat.ble k id) (nt (memN id av))
def deepV (k d:Nat):List Nat→Value→AHeap→Option (Value×AHeap):=
 Nat.rec (motive := fun _ => List Nat → Value → AHeap → Option (Value × AHeap)) (fun _ _ _ => none)
  (fun _ ih av v H => oo (vSl v) none fun s => oo (oCells (H.get s.id)) none fun o => bb (deepN k s.id av)
    (oo (cellsF (ih (s.id :: av)) o.xs H) none fun p=>pp p fun xs' H1=>freezeV k false v (H1.set s.id (.cells xs' o.imm o.spent o.anc))) none) d
def deepR (k d:Nat) (r:Option (Value×AHeap)):Option Value:=oo r none fun p=>pp p fun q H1=>oo (deepV k d [] q H1) none fun p2=>pp p2 fun v' _=>some v'
def deepT (k d:Nat) (r:Option (Value×AHeap)):Option Value:=oo r none fun p=>pp p fun q H1=>oo (vTup q) none fun l=>oo (cellsF (deepV k d []) l H1) none fun p2=>pp p2 fun l' _=>some (.tuple ⟨l'⟩)
end
theorem Quiet.refl (n0:Nat) (H:AHeap):Quiet n0 H H:=fun _ _ _ R _ _ _ hp=>⟨R,R.le_refl,rfl,hp⟩
theorem Quiet.trans {n0:Nat} {H H1 H2:AHeap} (h:Quiet n0 H H1) (h':Quiet n0 H1 H2):Quiet n0 H H2:=fun H0 R0 w0 R w hs hn hp=>by
 obtain ⟨R1,a1,a2,a3⟩:=h H0 R0 w0 R w hs hn hp
 obtain ⟨R2,b1,b2,b3⟩:=h' H0 R0 w0 R1 w hs hn a3
 exact ⟨R2,Ren.le_trans a1 b1,b2.trans a2,b3⟩
theorem Quiet.tell {n0:Nat} {H H1:AHeap} (h:Quiet n0 H H1) (v:Value):Tell n0 H v H1 v:=fun H0 R0 w0 R w _ hs hn hp hv=>by
 obtain ⟨R1,a1,a2,a3⟩:=h H0 R0 w0 R w hs hn hp
 exact ⟨R1,a1,a2,a3,hv.mono a1⟩
theorem Tell.trans {n0:Nat} {H H1 H2:AHeap} {v v1 v2:Value} (h:Tell n0 H v H1 v1) (h':Tell n0 H1 v1 H2 v2):Tell n0 H v H2 v2:=fun H0 R0 w0 R w u hs hn hp hv=>by
 obtain ⟨R1,a1,a2,a3,a4⟩:=h H0 R0 w0 R w u hs hn hp hv
 obtain ⟨R2,b1,b2,b3,b4⟩:=h' H0 R0 w0 R1 w u hs hn a3 a4
 exact ⟨R2,Ren.le_trans a1 b1,b2.trans a2,b3,b4⟩
theorem Post.setCells {H0 H1 : AHeap} {R0 R' : Ren} {w0 w : World} (hp : Post H0 R0 w0 H1 R' w) {id : Nat} {xs xs' : List Value} {imm spent : Bool} {anc : List Nat} (hn : H0.next ≤ id) (h1 : H1.get id = .cells xs imm spent anc) (hl : xs'.length = xs.length)
 (hv:∀ c β,R'.f id = some (c,β)→∀ C t fz,w.heap[c]? = some (.cells C t fz)→∀ (i:Nat) x,xs'[i]? = some x→∃ u,C[β + i]? = some u∧VR R' x u):Post H0 R0 w0 (H1.set id (.cells xs' imm spent anc)) R' w:=by
 have hs:=hp.sim
 have hget:∀ i,(H1.set id (.cells xs' imm spent anc)).get i = if id = i then .cells xs' imm spent anc else H1.get i:=fun i=>AHeap.get_set _ _ _ _
 have hwr:∀ i,((H1.set id (.cells xs' imm spent anc)).get i).writable = (H1.get i).writable:=fun i=>by
  rw [hget];split
  ·rename_i he;rw [←he,h1];rfl
  ·rfl
 have himm:∀ i,((H1.set id (.cells xs' imm spent anc)).get i).immB = (H1.get i).immB:=fun i=>by
  rw [hget];split
  ·rename_i he;rw [←he,h1];rfl
  ·rfl
 have hanc:∀ i,((H1.set id (.cells xs' imm spent anc)).get i).ancOf = (H1.get i).ancOf:=fun i=>by
  rw [hget];split
  ·rename_i he;rw [←he,h1];rfl
  ·rfl
 have hsize:∀ i,((H1.set id (.cells xs' imm spent anc)).get i).size = (H1.get i).size:=fun i=>by
  rw [hget];split
  ·rename_i he;rw [←he,h1];simp [AObj.size,hl]
  ·rfl
 have hkeep:∀ i,i < H0.next→(H1.set id (.cells xs' imm spent anc)).get i = H1.get i:=fun i hi=>by rw [hget,if_neg (by omega)]
 refine ⟨hp.le, hp.new, ⟨fun i c β h => by rw [AHeap.next_set]; exact hs.dom i c β h, fun i c β h => ?_, fun i c β i' β' h h' hne hw => ?_, fun i a ha => ?_, fun i hi => ?_, fun c C h => ⟨(hs.ro c C h).1, fun i β h' => by rw [hwr]; exact (hs.ro c C h).2 i β h'⟩⟩,
  by rw [AHeap.next_set];exact hp.next,hp.grow,hp.frame,fun i hi hr Q c β ob h=>by rw [hkeep i hi];exact hp.calm i hi hr Q c β ob h,fun i hi h=>by rw [hkeep i hi];exact hp.imm i hi h,hp.fresh,hp.side,hp.rofresh⟩
 ·rw [hget]
  split
  ·rename_i he; subst he
   have ho:=hs.obj id c β h
   rw [h1] at ho
   obtain ⟨C,t,fz,k1,k2,k3,k4,k5⟩:=ho
   exact ⟨C,t,fz,k1,k2,by rw [hl];exact k3,fun i x hx=>hv c β h C t fz k1 i x hx,k5⟩
  ·exact hs.obj i c β h
 ·rw [hwr] at hw
  rcases hs.sep i c β i' β' h h' hne hw with h9 | ⟨h9, h8⟩
  ·left
   rw [hget,if_neg (fun e=>by subst e;rw [h1] at h9;cases h9)];exact h9
  ·right
   rw [hanc,hsize,hsize];exact ⟨h9,h8⟩
 ·rw [hanc] at ha
  rw [AHeap.next_set,himm,hwr]
  exact hs.anc i a ha
 ·rw [AHeap.next_set] at hi
  rw [hget]
  split
  ·rename_i he; subst he
   have:=hs.wf id hi
   rw [h1] at this;cases this
  ·exact hs.wf i hi
theorem VRL.nth {R : Ren} : ∀ {l us : List Value}, VRL R l us → ∀ (i : Nat) x, l[i]? = some x → ∃ u, us[i]? = some u ∧ VR R x u
 | [],_,_,i,x,h=>by simp at h
 | v :: l, us, hv, i, x, h => by
  obtain ⟨u,us',rfl,h1,h2⟩:=hv.uncons
  cases i with
  | zero=>simp at h;subst h;exact ⟨u,by simp,h1⟩
  | succ i=>simp at h;obtain ⟨u',a,b⟩:=VRL.nth h2 i x h;exact ⟨u',by simpa using a,b⟩
theorem VRL.of_nth {R : Ren} : ∀ {l us : List Value}, l.length = us.length → (∀ (i : Nat) x, l[i]? = some x → ∃ u, us[i]? = some u ∧ VR R x u) → VRL R l us
 | [],[],_,_=>.nil
 | v :: l, u :: us, hl, h => by
  obtain ⟨u',a,b⟩:=h 0 v (by simp)
  simp at a;subst a
  exact .cons b (VRL.of_nth (by simpa using hl) fun i x hx=>by
   obtain ⟨u',a,b⟩:=h (i + 1) x (by simpa using hx)
   exact ⟨u',by simpa using a,b⟩)
theorem TellL.len {n0:Nat} {H H1:AHeap} {l l':List Value} (h:TellL n0 H l H1 l'):l'.length = l.length:=by
 induction h with
 | nil=>rfl
 | cons _ _ ih=>simp [ih]
structure DeepOk (n0:Nat) (av:List Nat) (H:AHeap) (v:Value) (H':AHeap) (v':Value):Prop where
 tell:Tell n0 H v H' v'
 quiet:Quiet n0 H H'
 keep:∀ i,memN i av = true→H'.get i = H.get i
theorem cellsF_ok {n0 : Nat} {av : List Nat} {f : Value → AHeap → Option (Value × AHeap)} (hf : ∀ v H v' H', f v H = some (v', H') → DeepOk n0 av H v H' v') :
 ∀ {l:List Value} {H:AHeap} {l':List Value} {H':AHeap},cellsF f l H = some (l',H')→TellL n0 H l H' l'∧Quiet n0 H H'∧∀ i,memN i av = true→H'.get i = H.get i
 | [], H, l', H', h => by
  injection h with h;injection h with e1 e2;subst e1;subst e2;exact ⟨.nil H,.refl n0 H,fun _ _=>rfl⟩
 | v :: l, H, l', H', h => by
  have h:oo (vSl v) (oo (cellsF f l H) none fun p=>pp p fun r H'=>some (v :: r,H')) (fun _=>oo (f v H) none fun q=>pp q fun v' H1=>oo (cellsF f l H1) none fun p=>pp p fun r H'=>some (v' :: r,H')) = some (l',H'):=h
  cases hv:vSl v with
  | none =>
   rw [hv,oo_none] at h
   obtain ⟨p,hp,h1⟩:=oo_inv h
   rw [pp_eta] at h1
   injection h1 with h1;injection h1 with e1 e2;subst e1;subst e2
   obtain ⟨a,b,c⟩:=cellsF_ok hf hp
   exact ⟨.cons (Tell.refl n0 H v) a,b,c⟩
  | some s =>
   rw [hv,oo_some] at h
   obtain ⟨q,hq,h1⟩:=oo_inv h
   rw [pp_eta] at h1
   obtain ⟨p,hp,h2⟩:=oo_inv h1
   rw [pp_eta] at h2
   injection h2 with h2;injection h2 with e1 e2;subst e1;subst e2
   obtain ⟨a,b,c⟩:=cellsF_ok hf hp
   have hd:=hf v H q.1 q.2 hq
   exact ⟨.cons hd.tell a,hd.quiet.trans b,fun i hi=>(c i hi).trans (hd.keep i hi)⟩
theorem memN_ne {i id:Nat} {av:List Nat} (h:memN i av = true) (hn:memN id av = false):id ≠ i:=fun e=>by subst e;rw [h] at hn;cases hn
theorem memN_cons (i id:Nat) (av:List Nat):memN i (id :: av) = orr (Nat.beq id i) (memN i av):=by rfl
theorem deepV_ok {n0 k : Nat} (hn : Nat.ble n0 k = true) : ∀ {d : Nat} {av : List Nat} {v : Value} {H : AHeap} {v' : Value} {H' : AHeap}, deepV k d av v H = some (v', H') → DeepOk n0 av H v H' v'
 | 0,_,_,_,_,_,h=>by cases h
 | d + 1, av, v, H, v', H', h => by
  obtain ⟨s, hsl, h⟩ := oo_inv (show oo (vSl v) none (fun s => oo (oCells (H.get s.id)) none fun o => bb (deepN k s.id av)
   (oo (cellsF (deepV k d (s.id :: av)) o.xs H) none fun p=>pp p fun xs' H1=>freezeV k false v (H1.set s.id (.cells xs' o.imm o.spent o.anc))) none) = some (v',H') from h)
  obtain ⟨o,ho,h⟩:=oo_inv h
  obtain ⟨hc,h⟩:=bb_inv h
  obtain ⟨p,hp,h⟩:=oo_inv h
  rw [pp_eta] at h
  obtain ⟨hk,hna⟩:=an_inv hc
  have hna:=nt_false hna
  obtain ⟨tl,ql,kp⟩:=cellsF_ok (fun v H v' H' h=>deepV_ok hn (d:=d) (av:=s.id :: av) h) hp
  have ho:=oCells_some ho
  have hself:p.2.get s.id = .cells o.xs o.imm o.spent o.anc:=by
   rw [kp s.id (by rw [memN_cons,Nat.beq_refl];rfl),ho]
  have hid:n0≤s.id:=Nat.le_trans (Nat.le_of_ble_eq_true hn) (Nat.le_of_ble_eq_true hk)
  have hq2:Quiet n0 H (p.2.set s.id (.cells p.1 o.imm o.spent o.anc)):=fun H0 R0 w0 R w hs hn0 hpo=>by
   by_cases hex:∃ q,R.f s.id = some q
   ·obtain ⟨⟨c, β⟩, hex⟩ := hex
    have hob:=hpo.sim.obj s.id c β hex
    rw [ho] at hob
    obtain ⟨C,t,fz,k1,k2,k3,k4,k5⟩:=hob
    have hvr:VRL R o.xs ((C.toList.drop β).take o.xs.length):=by
     refine VRL.of_nth ?_ fun i x hx=>?_
     ·rw [List.length_take, List.length_drop, Array.length_toList]
      omega
     ·obtain ⟨u, g1, g2⟩ := k4 i x hx
      refine ⟨u,?_,g2⟩
      have hi:i < o.xs.length:=by
       rcases Nat.lt_or_ge i o.xs.length with h | h
       ·exact h
       ·rw [List.getElem?_eq_none h] at hx;cases hx
      rw [List.getElem?_take_of_lt hi,List.getElem?_drop,Array.getElem?_toList];exact g1
    obtain ⟨R',q1,q0,q2,q3⟩:=tl.vrl hs hn0 hpo hvr
    refine ⟨R', q1, q0, q2.setCells (Nat.le_trans hn0 hid) hself tl.len fun c' β' hc' C' t' fz' hC' i x hx => ?_⟩
    rw [q0,hex] at hc'
    injection hc' with hc';injection hc' with e1 e2;subst e1;subst e2
    rw [k1] at hC';injection hC' with hC';injection hC' with e1 e2 e3;subst e1
    obtain ⟨u,g1,g2⟩:=VRL.nth q3 i x hx
    refine ⟨u,?_,g2⟩
    have hi:i < o.xs.length:=by
     rcases Nat.lt_or_ge i o.xs.length with h | h
     ·exact h
     ·rw [List.getElem?_eq_none (by rw [tl.len];exact h)] at hx;cases hx
    rw [List.getElem?_take_of_lt hi,List.getElem?_drop,Array.getElem?_toList] at g1;exact g1
   ·obtain ⟨R', q1, q0, q2⟩ := ql H0 R0 w0 R w hs hn0 hpo
    refine ⟨R', q1, q0, q2.setCells (Nat.le_trans hn0 hid) hself tl.len fun c' β' hc' => ?_⟩
    rw [q0] at hc'
    exact absurd ⟨_,hc'⟩ hex
  refine ⟨(hq2.tell v).trans (.frz k false true hn (by rw [h];rfl) rfl),hq2.trans (.frz k false hn h),fun i hi=>?_⟩
  have hne:=memN_ne hi hna
  have e1:(p.2.set s.id (.cells p.1 o.imm o.spent o.anc)).get i = p.2.get i:=by rw [AHeap.get_set,if_neg hne]
  have e2:H'.get i = (p.2.set s.id (.cells p.1 o.imm o.spent o.anc)).get i:=by
   unfold freezeV at h
   rw [hsl,oo_some] at h
   obtain ⟨o',_,h⟩:=oo_inv h
   obtain ⟨_,h⟩:=bb_inv h
   injection h with h;injection h with _ e2;subst e2
   rw [bb_eq]
   split
   ·rfl
   ·rw [AHeap.get_set,if_neg hne]
  rw [e2,e1,kp i (by rw [memN_cons,hi];cases Nat.beq s.id i <;> rfl)]
section
variable {P:Program} {tt:TT} {tabs:List (List Value)}
theorem pureOk_deep (hT : TOk P tt) (hne : ∀ t ∈ tabs, t ≠ []) (hpl : ∀ t ∈ tabs, ∀ x ∈ t, plain1 x = true) {fns : FuncId → Option RFn} (hf : ∀ f r, fns f = some r → FnOk P (List.range tabs.length) f r) (hm : P.follows .mixedOrders = true)
 {isP:FuncId→Bool} {pu:PureF} {inl:CallF} (hpu:∀ g,isP g = true→PureOk P tabs g (pu g)) (hinl:CallOk P (List.range tabs.length) inl) {g n:Nat} {H:AHeap} (hH:∀ i,H.get i = (pureHeap tabs).get i) (hHn:H.next = (pureHeap tabs).next) {f:List Value→Option Value}
 (hen:∀ (as:Array Value) (w:World),(callFunc g as).run P w = .ok (.enter g as) w)
 (hrun:∀ args v,f args = some v→closedV v = true∧∃ d,deepR tabs.length d (evFnP tabs isP pu inl tt fns n g args H) = some v∨deepT tabs.length d (evFnP tabs isP pu inl tt fns n g args H) = some v):PureOk P tabs g f:=by
 refine ⟨hen,fun args v hv _ R w args' hR hs ha=>?_⟩
 obtain ⟨hcv,d,hr⟩:=hrun args v hv
 have hs':Sim H R w:=hs.congr hH hHn
 have hgl:GlR (List.range tabs.length) R:=fun g hg=>by rw [hR];simp at hg;simp [hg]
 have hn:H.next≤tabs.length:=by rw [hHn];show len tabs≤_;rw [len_eq];exact Nat.le_refl _
 have hkk:Nat.ble tabs.length tabs.length = true:=Nat.ble_eq_true_of_le (Nat.le_refl _)
 rcases hr with hr | hr
 ·obtain ⟨q, hq, h1⟩ := oo_inv (show oo (evFnP tabs isP pu inl tt fns n g args H) none (fun p => pp p fun q H1 => oo (deepV tabs.length d [] q H1) none fun p2 => pp p2 fun v' _ => some v') = some v from hr)
  rw [pp_eta] at h1
  obtain ⟨p2,hp2,h3⟩:=oo_inv h1
  rw [pp_eta] at h3
  injection h3 with h3
  have hok:=(evFnP_ok hT hne hpl hf hm hpu hinl n) g args H q.1 q.2 hq
  refine (hok.2 R w args' hs' hgl ha).mono fun e w' ⟨u,R',he,hu,hp⟩=>?_
  obtain ⟨R2,_,_,k2,k3⟩:=(deepV_ok (n0:=tabs.length) hkk (show deepV tabs.length d [] q.1 q.2 = some (p2.1,p2.2) from hp2)).tell H R w R' w' u hs' hn hp hu
  rw [h3] at k3
  exact ⟨u,p2.2,R2,he,hcv,k3,Post.congrL (fun i=>(hH i).symm) hHn.symm k2⟩
 ·obtain ⟨q, hq, h1⟩ := oo_inv (show oo (evFnP tabs isP pu inl tt fns n g args H) none (fun p => pp p fun q H1 => oo (vTup q) none fun l => oo (cellsF (deepV tabs.length d []) l H1) none fun p2 => pp p2 fun l' _ => some (.tuple ⟨l'⟩)) = some v from hr)
  rw [pp_eta] at h1
  obtain ⟨l,hl,h2⟩:=oo_inv h1
  obtain ⟨p2,hp2,h3⟩:=oo_inv h2
  rw [pp_eta] at h3
  injection h3 with h3
  have hok:=(evFnP_ok hT hne hpl hf hm hpu hinl n) g args H q.1 q.2 hq
  refine (hok.2 R w args' hs' hgl ha).mono fun e w' ⟨u,R',he,hu,hp⟩=>?_
  rw [vTup_some hl] at hu
  obtain ⟨tl,_,_⟩:=cellsF_ok (n0:=tabs.length) (av:=[]) (fun v H v' H' h=>deepV_ok hkk (d:=d) (av:=[]) h) (show cellsF (deepV tabs.length d []) l q.2 = some (p2.1,p2.2) from hp2)
  obtain ⟨R2,_,_,k2,k3⟩:=(Tell.tup tl) H R w R' w' u hs' hn hp hu
  rw [h3] at k3
  exact ⟨u,p2.2,R2,he,hcv,k3,Post.congrL (fun i=>(hH i).symm) hHn.symm k2⟩
end
end Go.Sp
set_option maxRecDepth 100000
set_option maxHeartbeats 0
namespace Go.HvRM
open Go Go.Sp Go.HvR Go.HpT
noncomputable section
def sv (p:List Nat):Value:=Sl.v 1 ⟨len p,0,iL p⟩
def slOf (p:List Nat):Sl:=⟨len p,0,iL p⟩
def cnt (h:Nat) (p:List Nat):Nat:=List.rec (motive:=fun _=>Nat) 0 (fun a _ ih=>bb (Nat.beq a h) (Nat.succ ih) ih) p
def cvl (p:List Nat):List Value:=mapL (fun h=>.int .i64 (.ofNat (cnt h p))) [0,1,2,3,4,5,6,7,8,9,10,11,12,13,14,15,16,17,18,19,20,21]
def cv (p:List Nat):Value:=.agg ⟨cvl p⟩
def onP {β:Type} (args:List Value) (k:List Nat→Option β):Option β:=
 ll args none fun a r=>ll r (oo (toSl 1 a) none fun s=>oo (decL s.cs) none fun p=>bb (an (okP 14 p) (an (Nat.beq s.n (len p)) (an (Nat.beq s.fl 0) (valsEq s.cs (iL p))))) (k p) none) fun _ _=>none
def repN (h n:Nat) (p:List Nat):List Nat:=Nat.rec (motive:=fun _=>List Nat) p (fun _ r=>h :: r) n
def decC (l:List Value):Option (List Nat):=
 List.rec (motive:=fun _=>Nat→List Nat→Option (List Nat)) (fun _ p=>some p) (fun v _ ih h p=>oo (toI .i64 v) none fun z=>oo (toN z) none fun c=>bb (Nat.ble c 30) (ih (Nat.succ h) (repN h c p)) none) l 0 []
def onC {β:Type} (args:List Value) (k:List Nat→Option β):Option β:=
 ll args none fun a r=>ll r (oo (vAgg a) none fun cs=>oo (decC cs) none fun p=>bb (an (okP 14 p) (valsEq cs (cvl p))) (k p) none) fun _ _=>none
def eqP (a:List Nat):List Nat→Bool:=List.rec (motive:=fun _=>List Nat→Bool) (fun b=>nilL b) (fun x _ ih b=>ll b false fun y r=>an (Nat.beq x y) (ih r)) a
def eT1:List (List Nat):=[[1]]
def eV1:Value:=Sl.v 1 ⟨1,0,mapL sv eT1⟩
def eR1:List (List (List Nat)):=[[[1]]]
def rsV1:Sl:=⟨1,0,mapL (fun r=>Sl.v 1 ⟨len r,0,mapL sv r⟩) eR1⟩
def eG1:Value:=.tuple ⟨[Sl.v 1 rsV1,.int .i64 0]⟩
def eT2:List (List Nat):=[[1,1],[2]]
def eV2:Value:=Sl.v 1 ⟨2,0,mapL sv eT2⟩
def eR2:List (List (List Nat)):=[[[1,1],[2]]]
def rsV2:Sl:=⟨1,0,mapL (fun r=>Sl.v 1 ⟨len r,0,mapL sv r⟩) eR2⟩
def eG2:Value:=.tuple ⟨[Sl.v 1 rsV2,.int .i64 0]⟩
def eT3:List (List Nat):=[[1,1,1],[2,1],[3]]
def eV3:Value:=Sl.v 1 ⟨3,0,mapL sv eT3⟩
def eR3:List (List (List Nat)):=[[[2,1]]]
def rsV3:Sl:=⟨1,0,mapL (fun r=>Sl.v 1 ⟨len r,0,mapL sv r⟩) eR3⟩
def eG3:Value:=.tuple ⟨[Sl.v 1 rsV3,.int .i64 0]⟩
def eT4:List (List Nat):=[[1,1,1,1],[2,1,1],[2,2],[3,1],[4]]
def eV4:Value:=Sl.v 1 ⟨5,0,mapL sv eT4⟩
def eR4:List (List (List Nat)):=[[[2,1,1],[3,1],[2,2]]]
def rsV4:Sl:=⟨1,0,mapL (fun r=>Sl.v 1 ⟨len r,0,mapL sv r⟩) eR4⟩
def eG4:Value:=.tuple ⟨[Sl.v 1 rsV4,.int .i64 0]⟩
def eT5:List (List Nat):=[[1,1,1,1,1],[2,1,1,1],[2,2,1],[3,1,1],[3,2],[4,1],[5]]
def eV5:Value:=Sl.v 1 ⟨7,0,mapL sv eT5⟩
def eR5:List (List (List Nat)):=[[[2,2,1],[3,1,1],[3,2]]]
def rsV5:Sl:=⟨1,0,mapL (fun r=>Sl.v 1 ⟨len r,0,mapL sv r⟩) eR5⟩
def eG5:Value:=.tuple ⟨[Sl.v 1 rsV5,.int .i64 0]⟩
def eT6:List (List Nat):=[[1,1,1,1,1,1],[2,1,1,1,1],[2,2,1,1],[2,2,2],[3,1,1,1],[3,2,1],[3,3],[4,1,1],[4,2],[5,1],[6]]
def eV6:Value:=Sl.v 1 ⟨11,0,mapL sv eT6⟩
def eR6:List (List (List Nat)):=[[[3,2,1]]]
def rsV6:Sl:=⟨1,0,mapL (fun r=>Sl.v 1 ⟨len r,0,mapL sv r⟩) eR6⟩
def eG6:Value:=.tuple ⟨[Sl.v 1 rsV6,.int .i64 0]⟩
def eT7:List (List Nat):=[[1,1,1,1,1,1,1],[2,1,1,1,1,1],[2,2,1,1,1],[2,2,2,1],[3,1,1,1,1],[3,2,1,1],[3,2,2],[3,3,1],[4,1,1,1],[4,2,1],[4,3],[5,1,1],[5,2],[6,1],[7]]
def eV7:Value:=Sl.v 1 ⟨15,0,mapL sv eT7⟩
def eR7:List (List (List Nat)):=[[[3,2,1,1],[4,2,1],[3,3,1],[3,2,2]]]
def rsV7:Sl:=⟨1,0,mapL (fun r=>Sl.v 1 ⟨len r,0,mapL sv r⟩) eR7⟩
def eG7:Value:=.tuple ⟨[Sl.v 1 rsV7,.int .i64 0]⟩
def eT8:List (List Nat):=[[1,1,1,1,1,1,1,1],[2,1,1,1,1,1,1],[2,2,1,1,1,1],[2,2,2,1,1],[2,2,2,2],[3,1,1,1,1,1],[3,2,1,1,1],[3,2,2,1],[3,3,1,1],[3,3,2],[4,1,1,1,1],[4,2,1,1],[4,2,2],[4,3,1],[4,4],[5,1,1,1],[5,2,1],[5,3],[6,1,1],[6,2],[7,1],[8]]
def eV8:Value:=Sl.v 1 ⟨22,0,mapL sv eT8⟩
def eR8:List (List (List Nat)):=[[[3,2,2,1],[4,2,1,1],[4,3,1],[3,3,2]],[[3,3,1,1],[4,2,2]]]
def rsV8:Sl:=⟨2,0,mapL (fun r=>Sl.v 1 ⟨len r,0,mapL sv r⟩) eR8⟩
def eG8:Value:=.tuple ⟨[Sl.v 1 rsV8,.int .i64 0]⟩
def eT9:List (List Nat):=[[1,1,1,1,1,1,1,1,1],[2,1,1,1,1,1,1,1],[2,2,1,1,1,1,1],[2,2,2,1,1,1],[2,2,2,2,1],[3,1,1,1,1,1,1],[3,2,1,1,1,1],[3,2,2,1,1],[3,2,2,2],[3,3,1,1,1],[3,3,2,1],[3,3,3],[4,1,1,1,1,1],[4,2,1,1,1],[4,2,2,1],[4,3,1,1],[4,3,2],[4,4,1],[5,1,1,1,1],[5,2,1,1],[5,2,2],[5,3,1],[5,4],[6,1,1,1],[6,2,1],[6,3],[7,1,1],[7,2],[8,1],[9]]
def eV9:Value:=Sl.v 1 ⟨30,0,mapL sv eT9⟩
def eR9:List (List (List Nat)):=[[[3,3,2,1],[4,2,2,1],[4,3,1,1],[4,3,2]]]
def rsV9:Sl:=⟨1,0,mapL (fun r=>Sl.v 1 ⟨len r,0,mapL sv r⟩) eR9⟩
def eG9:Value:=.tuple ⟨[Sl.v 1 rsV9,.int .i64 0]⟩
def eT10:List (List Nat):=[[1,1,1,1,1,1,1,1,1,1],[2,1,1,1,1,1,1,1,1],[2,2,1,1,1,1,1,1],[2,2,2,1,1,1,1],[2,2,2,2,1,1],[2,2,2,2,2],[3,1,1,1,1,1,1,1],[3,2,1,1,1,1,1],[3,2,2,1,1,1],[3,2,2,2,1],[3,3,1,1,1,1],[3,3,2,1,1],[3,3,2,2],[3,3,3,1],[4,1,1,1,1,1,1],[4,2,1,1,1,1],[4,2,2,1,1],[4,2,2,2],[4,3,1,1,1],[4,3,2,1],[4,3,3],[4,4,1,1],[4,4,2],[5,1,1,1,1,1],[5,2,1,1,1],[5,2,2,1],[5,3,1,1],[5,3,2],[5,4,1],[5,5],[6,1,1,1,1],[6,2,1,1],[6,2,2],[6,3,1],[6,4],[7,1,1,1],[7,2,1],[7,3],[8,1,1],[8,2],[9,1],[10]]
def eV10:Value:=Sl.v 1 ⟨42,0,mapL sv eT10⟩
def eR10:List (List (List Nat)):=[[[4,3,2,1]]]
def rsV10:Sl:=⟨1,0,mapL (fun r=>Sl.v 1 ⟨len r,0,mapL sv r⟩) eR10⟩
def eG10:Value:=.tuple ⟨[Sl.v 1 rsV10,.int .i64 0]⟩
def eT11:List (List Nat):=[[1,1,1,1,1,1,1,1,1,1,1],[2,1,1,1,1,1,1,1,1,1],[2,2,1,1,1,1,1,1,1],[2,2,2,1,1,1,1,1],[2,2,2,2,1,1,1],[2,2,2,2,2,1],[3,1,1,1,1,1,1,1,1],[3,2,1,1,1,1,1,1],[3,2,2,1,1,1,1],[3,2,2,2,1,1],[3,2,2,2,2],[3,3,1,1,1,1,1],[3,3,2,1,1,1],[3,3,2,2,1],[3,3,3,1,1],[3,3,3,2],[4,1,1,1,1,1,1,1],[4,2,1,1,1,1,1],[4,2,2,1,1,1],[4,2,2,2,1],[4,3,1,1,1,1],[4,3,2,1,1],[4,3,2,2],[4,3,3,1],[4,4,1,1,1],[4,4,2,1],[4,4,3],[5,1,1,1,1,1,1],[5,2,1,1,1,1],[5,2,2,1,1],[5,2,2,2],[5,3,1,1,1],[5,3,2,1],[5,3,3],[5,4,1,1],[5,4,2],[5,5,1],[6,1,1,1,1,1],[6,2,1,1,1],[6,2,2,1],[6,3,1,1],[6,3,2],[6,4,1],[6,5],[7,1,1,1,1],[7,2,1,1],[7,2,2],[7,3,1],[7,4],[8,1,1,1],[8,2,1],[8,3],[9,1,1],[9,2],[10,1],[11]]
def eV11:Value:=Sl.v 1 ⟨56,0,mapL sv eT11⟩
def eR11:List (List (List Nat)):=[[[4,3,2,1,1],[5,3,2,1],[4,4,2,1],[4,3,3,1],[4,3,2,2]]]
def rsV11:Sl:=⟨1,0,mapL (fun r=>Sl.v 1 ⟨len r,0,mapL sv r⟩) eR11⟩
def eG11:Value:=.tuple ⟨[Sl.v 1 rsV11,.int .i64 0]⟩
def eT12:List (List Nat):=[[1,1,1,1,1,1,1,1,1,1,1,1],[2,1,1,1,1,1,1,1,1,1,1],[2,2,1,1,1,1,1,1,1,1],[2,2,2,1,1,1,1,1,1],[2,2,2,2,1,1,1,1],[2,2,2,2,2,1,1],[2,2,2,2,2,2],[3,1,1,1,1,1,1,1,1,1],[3,2,1,1,1,1,1,1,1],[3,2,2,1,1,1,1,1],[3,2,2,2,1,1,1],[3,2,2,2,2,1],[3,3,1,1,1,1,1,1],[3,3,2,1,1,1,1],[3,3,2,2,1,1],[3,3,2,2,2],[3,3,3,1,1,1],[3,3,3,2,1],[3,3,3,3],[4,1,1,1,1,1,1,1,1],[4,2,1,1,1,1,1,1],[4,2,2,1,1,1,1],[4,2,2,2,1,1],[4,2,2,2,2],[4,3,1,1,1,1,1],[4,3,2,1,1,1],[4,3,2,2,1],[4,3,3,1,1],[4,3,3,2],[4,4,1,1,1,1],[4,4,2,1,1],[4,4,2,2],[4,4,3,1],[4,4,4],[5,1,1,1,1,1,1,1],[5,2,1,1,1,1,1],[5,2,2,1,1,1],[5,2,2,2,1],[5,3,1,1,1,1],[5,3,2,1,1],[5,3,2,2],[5,3,3,1],[5,4,1,1,1],[5,4,2,1],[5,4,3],[5,5,1,1],[5,5,2],[6,1,1,1,1,1,1],[6,2,1,1,1,1],[6,2,2,1,1],[6,2,2,2],[6,3,1,1,1],[6,3,2,1],[6,3,3],[6,4,1,1],[6,4,2],[6,5,1],[6,6],[7,1,1,1,1,1],[7,2,1,1,1],[7,2,2,1],[7,3,1,1],[7,3,2],[7,4,1],[7,5],[8,1,1,1,1],[8,2,1,1],[8,2,2],[8,3,1],[8,4],[9,1,1,1],[9,2,1],[9,3],[10,1,1],[10,2],[11,1],[12]]
def eV12:Value:=Sl.v 1 ⟨77,0,mapL sv eT12⟩
def eR12:List (List (List Nat)):=[[[4,3,2,2,1],[5,3,2,1,1],[5,4,2,1],[4,4,3,1],[4,3,3,2]],[[4,3,3,1,1],[5,3,2,2],[4,4,2,1,1],[5,3,3,1],[4,4,2,2]]]
def rsV12:Sl:=⟨2,0,mapL (fun r=>Sl.v 1 ⟨len r,0,mapL sv r⟩) eR12⟩
def eG12:Value:=.tuple ⟨[Sl.v 1 rsV12,.int .i64 0]⟩
def eT13:List (List Nat):=[[1,1,1,1,1,1,1,1,1,1,1,1,1],[2,1,1,1,1,1,1,1,1,1,1,1],[2,2,1,1,1,1,1,1,1,1,1],[2,2,2,1,1,1,1,1,1,1],[2,2,2,2,1,1,1,1,1],[2,2,2,2,2,1,1,1],[2,2,2,2,2,2,1],[3,1,1,1,1,1,1,1,1,1,1],[3,2,1,1,1,1,1,1,1,1],[3,2,2,1,1,1,1,1,1],[3,2,2,2,1,1,1,1],[3,2,2,2,2,1,1],[3,2,2,2,2,2],[3,3,1,1,1,1,1,1,1],[3,3,2,1,1,1,1,1],[3,3,2,2,1,1,1],[3,3,2,2,2,1],[3,3,3,1,1,1,1],[3,3,3,2,1,1],[3,3,3,2,2],[3,3,3,3,1],[4,1,1,1,1,1,1,1,1,1],[4,2,1,1,1,1,1,1,1],[4,2,2,1,1,1,1,1],[4,2,2,2,1,1,1],[4,2,2,2,2,1],[4,3,1,1,1,1,1,1],[4,3,2,1,1,1,1],[4,3,2,2,1,1],[4,3,2,2,2],[4,3,3,1,1,1],[4,3,3,2,1],[4,3,3,3],[4,4,1,1,1,1,1],[4,4,2,1,1,1],[4,4,2,2,1],[4,4,3,1,1],[4,4,3,2],[4,4,4,1],[5,1,1,1,1,1,1,1,1],[5,2,1,1,1,1,1,1],[5,2,2,1,1,1,1],[5,2,2,2,1,1],[5,2,2,2,2],[5,3,1,1,1,1,1],[5,3,2,1,1,1],[5,3,2,2,1],[5,3,3,1,1],[5,3,3,2],[5,4,1,1,1,1],[5,4,2,1,1],[5,4,2,2],[5,4,3,1],[5,4,4],[5,5,1,1,1],[5,5,2,1],[5,5,3],[6,1,1,1,1,1,1,1],[6,2,1,1,1,1,1],[6,2,2,1,1,1],[6,2,2,2,1],[6,3,1,1,1,1],[6,3,2,1,1],[6,3,2,2],[6,3,3,1],[6,4,1,1,1],[6,4,2,1],[6,4,3],[6,5,1,1],[6,5,2],[6,6,1],[7,1,1,1,1,1,1],[7,2,1,1,1,1],[7,2,2,1,1],[7,2,2,2],[7,3,1,1,1],[7,3,2,1],[7,3,3],[7,4,1,1],[7,4,2],[7,5,1],[7,6],[8,1,1,1,1,1],[8,2,1,1,1],[8,2,2,1],[8,3,1,1],[8,3,2],[8,4,1],[8,5],[9,1,1,1,1],[9,2,1,1],[9,2,2],[9,3,1],[9,4],[10,1,1,1],[10,2,1],[10,3],[11,1,1],[11,2],[12,1],[13]]
def eV13:Value:=Sl.v 1 ⟨101,0,mapL sv eT13⟩
def eR13:List (List (List Nat)):=[[[4,3,3,2,1],[5,3,2,2,1],[5,4,2,1,1],[5,4,3,1],[4,4,3,2]],[[4,4,2,2,1],[5,3,3,1,1],[5,4,2,2],[4,4,3,1,1],[5,3,3,2]]]
def rsV13:Sl:=⟨2,0,mapL (fun r=>Sl.v 1 ⟨len r,0,mapL sv r⟩) eR13⟩
def eG13:Value:=.tuple ⟨[Sl.v 1 rsV13,.int .i64 0]⟩
def eT14:List (List Nat):=[[1,1,1,1,1,1,1,1,1,1,1,1,1,1],[2,1,1,1,1,1,1,1,1,1,1,1,1],[2,2,1,1,1,1,1,1,1,1,1,1],[2,2,2,1,1,1,1,1,1,1,1],[2,2,2,2,1,1,1,1,1,1],[2,2,2,2,2,1,1,1,1],[2,2,2,2,2,2,1,1],[2,2,2,2,2,2,2],[3,1,1,1,1,1,1,1,1,1,1,1],[3,2,1,1,1,1,1,1,1,1,1],[3,2,2,1,1,1,1,1,1,1],[3,2,2,2,1,1,1,1,1],[3,2,2,2,2,1,1,1],[3,2,2,2,2,2,1],[3,3,1,1,1,1,1,1,1,1],[3,3,2,1,1,1,1,1,1],[3,3,2,2,1,1,1,1],[3,3,2,2,2,1,1],[3,3,2,2,2,2],[3,3,3,1,1,1,1,1],[3,3,3,2,1,1,1],[3,3,3,2,2,1],[3,3,3,3,1,1],[3,3,3,3,2],[4,1,1,1,1,1,1,1,1,1,1],[4,2,1,1,1,1,1,1,1,1],[4,2,2,1,1,1,1,1,1],[4,2,2,2,1,1,1,1],[4,2,2,2,2,1,1],[4,2,2,2,2,2],[4,3,1,1,1,1,1,1,1],[4,3,2,1,1,1,1,1],[4,3,2,2,1,1,1],[4,3,2,2,2,1],[4,3,3,1,1,1,1],[4,3,3,2,1,1],[4,3,3,2,2],[4,3,3,3,1],[4,4,1,1,1,1,1,1],[4,4,2,1,1,1,1],[4,4,2,2,1,1],[4,4,2,2,2],[4,4,3,1,1,1],[4,4,3,2,1],[4,4,3,3],[4,4,4,1,1],[4,4,4,2],[5,1,1,1,1,1,1,1,1,1],[5,2,1,1,1,1,1,1,1],[5,2,2,1,1,1,1,1],[5,2,2,2,1,1,1],[5,2,2,2,2,1],[5,3,1,1,1,1,1,1],[5,3,2,1,1,1,1],[5,3,2,2,1,1],[5,3,2,2,2],[5,3,3,1,1,1],[5,3,3,2,1],[5,3,3,3],[5,4,1,1,1,1,1],[5,4,2,1,1,1],[5,4,2,2,1],[5,4,3,1,1],[5,4,3,2],[5,4,4,1],[5,5,1,1,1,1],[5,5,2,1,1],[5,5,2,2],[5,5,3,1],[5,5,4],[6,1,1,1,1,1,1,1,1],[6,2,1,1,1,1,1,1],[6,2,2,1,1,1,1],[6,2,2,2,1,1],[6,2,2,2,2],[6,3,1,1,1,1,1],[6,3,2,1,1,1],[6,3,2,2,1],[6,3,3,1,1],[6,3,3,2],[6,4,1,1,1,1],[6,4,2,1,1],[6,4,2,2],[6,4,3,1],[6,4,4],[6,5,1,1,1],[6,5,2,1],[6,5,3],[6,6,1,1],[6,6,2],[7,1,1,1,1,1,1,1],[7,2,1,1,1,1,1],[7,2,2,1,1,1],[7,2,2,2,1],[7,3,1,1,1,1],[7,3,2,1,1],[7,3,2,2],[7,3,3,1],[7,4,1,1,1],[7,4,2,1],[7,4,3],[7,5,1,1],[7,5,2],[7,6,1],[7,7],[8,1,1,1,1,1,1],[8,2,1,1,1,1],[8,2,2,1,1],[8,2,2,2],[8,3,1,1,1],[8,3,2,1],[8,3,3],[8,4,1,1],[8,4,2],[8,5,1],[8,6],[9,1,1,1,1,1],[9,2,1,1,1],[9,2,2,1],[9,3,1,1],[9,3,2],[9,4,1],[9,5],[10,1,1,1,1],[10,2,1,1],[10,2,2],[10,3,1],[10,4],[11,1,1,1],[11,2,1],[11,3],[12,1,1],[12,2],[13,1],[14]]
def eV14:Value:=Sl.v 1 ⟨135,0,mapL sv eT14⟩
def eR14:List (List (List Nat)):=[[[4,4,3,2,1],[5,3,3,2,1],[5,4,2,2,1],[5,4,3,1,1],[5,4,3,2]]]
def rsV14:Sl:=⟨1,0,mapL (fun r=>Sl.v 1 ⟨len r,0,mapL sv r⟩) eR14⟩
def eG14:Value:=.tuple ⟨[Sl.v 1 rsV14,.int .i64 0]⟩
def eTs:List (List (List Nat)):=[[],eT1,eT2,eT3,eT4,eT5,eT6,eT7,eT8,eT9,eT10,eT11,eT12,eT13,eT14]
def eRs:List (List (List (List Nat))):=[[],eR1,eR2,eR3,eR4,eR5,eR6,eR7,eR8,eR9,eR10,eR11,eR12,eR13,eR14]
def eIs:List (List Nat):=[[],[0],[0,0],[0,0,0],[0,0,0,0,0],[0,0,0,0,0,0,0],[0,0,0,0,0,0,0,0,0,0,0],[0,0,0,0,0,0,0,0,0,0,0,0,0,0,0],[0,0,1,0,1,0,0,0,1,0,1,0,1,0,0,0,0,1,1,0,0,0],[0,0,0,0,0,0,0,0,0,0,0,0,0,0,0,0,0,0,0,0,0,0,0,0,0,0,0,0,0,0],[0,0,0,0,0,0,0,0,0,0,0,0,0,0,0,0,0,0,0,0,0,0,0,0,0,0,0,0,0,0,0,0,0,0,0,0,0,0,0,0,0,0],[0,0,0,0,0,0,0,0,0,0,0,0,0,0,0,0,0,0,0,0,0,0,0,0,0,0,0,0,0,0,0,0,0,0,0,0,0,0,0,0,0,0,0,0,0,0,0,0,0,0,0,0,0,0,0,0],[0,0,1,0,1,0,1,0,0,1,0,0,1,0,1,0,0,0,1,1,0,1,0,1,0,0,0,1,0,1,1,1,0,1,0,1,0,0,1,0,1,1,0,0,0,1,0,1,0,1,0,0,0,1,0,1,0,0,0,0,0,1,0,1,1,1,1,1,0,0,0,0,1,1,0,0,0],[0,0,1,0,1,0,0,0,0,0,1,0,1,1,1,0,0,0,0,0,1,1,0,1,0,0,0,0,0,0,0,0,0,0,1,1,1,0,0,0,0,1,0,1,1,0,0,1,1,1,0,1,0,0,0,0,0,1,1,0,0,0,0,0,1,0,0,1,0,0,0,0,0,0,0,0,0,0,1,1,1,0,0,1,1,1,0,0,1,1,0,1,0,0,0,0,1,1,0,0,0],[0,0,0,0,0,0,0,0,0,0,0,0,0,0,0,0,0,0,0,0,0,0,0,0,0,0,0,0,0,0,0,0,0,0,0,0,0,0,0,0,0,0,0,0,0,0,0,0,0,0,0,0,0,0,0,0,0,0,0,0,0,0,0,0,0,0,0,0,0,0,0,0,0,0,0,0,0,0,0,0,0,0,0,0,0,0,0,0,0,0,0,0,0,0,0,0,0,0,0,0,0,0,0,0,0,0,0,0,0,0,0,0,0,0,0,0,0,0,0,0,0,0,0,0,0,0,0,0,0,0,0,0,0,0,0]]
def eCs:List (List Nat):=[[],[1],[2],[3],[5],[7],[11],[15],[15,7],[30],[42],[56],[45,32],[67,34],[135]]
def allLs:List (Option Value):=[none,some eV1,some eV2,some eV3,some eV4,some eV5,some eV6,some eV7,some eV8,some eV9,some eV10,some eV11,some eV12,some eV13,some eV14]
def orcAll (args:List Value):Option Value:=ll args none fun a r=>ll r none fun b r=>ll r (oo (toI .i64 a) none fun z=>oo (toN z) none fun n=>oo (toI .i64 b) none fun y=>bb (ieq y 21) (oo (nthL allLs n) none fun v=>v) none) fun _ _=>none
def atN (l:List (List (List Nat))) (k:Nat):List (List Nat):=oo (nthL l k) [] fun x=>x
def nthN (l:List Nat) (i:Nat):Nat:=oo (nthL l i) 0 fun x=>x
def idxOf (p:List Nat) (l:List (List Nat)):Nat:=List.rec (motive:=fun _=>Nat) 0 (fun q _ ih=>bb (eqP q p) 0 (Nat.succ ih)) l
def ringIx (p:List Nat):Nat:=nthN (oo (nthL eIs (sumL p)) [] fun x=>x) (idxOf p (atN eTs (sumL p)))
def ringAt (k i:Nat):List (List Nat):=oo (nthL (oo (nthL eRs k) [] fun x=>x) i) [] fun x=>x
def ringOf (p:List Nat):List (List Nat):=ringAt (sumL p) (ringIx p)
def cntAt (k i:Nat):Value:=.tuple ⟨[.int .i64 (.ofNat (nthN (oo (nthL eCs k) [] fun x=>x) i)),.int .i64 0]⟩
def rSl (r:List (List Nat)):Sl:=⟨len r,0,mapL sv r⟩
def untV (p:List Nat):Value:=pp (unt 60 0 p) fun n q=>.tuple ⟨[.int .i64 (.ofNat n),cv q]⟩
def untS (p:List Nat):Value:=pp (unt 60 0 p) fun n q=>.tuple ⟨[.int .i64 (.ofNat n),sv q]⟩
def flt (c:List Nat→Bool) (l:List (List Nat)):List (List Nat):=List.rec (motive:=fun _=>List (List Nat)) [] (fun q _ ih=>bb (c q) (q :: ih) ih) l
def aheadT (p:List Nat):List (List Nat):=flt (fun q=>eqP (rnd q) p) (atN eTs (sumL p))
def aR (p:List Nat):Value:=bb (nilL (aheadT p)) (.slice none 0 0) (Sl.v 1 ⟨len (aheadT p),0,mapL sv (aheadT p)⟩)
def aV (p:List Nat):Value:=bb (nilL (aheadT p)) (Sl.v 1 ⟨0,2,[]⟩) (Sl.v 1 ⟨len (aheadT p),0,mapL sv (aheadT p)⟩)
def tru (args:List Value):Option Value:=ll args (some (.bool true)) fun _ _=>none
def tR (args:List Value):Option Value:=onP args fun p=>some (sv (rnd p))
def tB (args:List Value):Option Value:=onP args fun p=>some (.bool (ret p))
def tU (args:List Value):Option Value:=onP args fun p=>some (untS p)
def tG (args:List Value):Option Value:=onP args fun p=>some (Sl.v 1 (rSl (ringOf p)))
def cB (args:List Value):Option Value:=onC args fun p=>some (.bool (ret p))
def cR (args:List Value):Option Value:=onC args fun p=>some (cv (rnd p))
def cU (args:List Value):Option Value:=onC args fun p=>some (untV p)
def cA (args:List Value):Option Value:=onC args fun p=>some (aV p)
def cG (args:List Value):Option Value:=onC args fun p=>some (Sl.v 1 (rSl (ringOf p)))
def puA:PureF:=fun g=>bb (Nat.beq g 57) tR (puN 60 g)
def puB:PureF:=fun g=>bb (Nat.beq g 57) tR (bb (Nat.beq g 44) tB (puN 60 g))
def puC:PureF:=fun g=>bb (Nat.beq g 57) tR (bb (Nat.beq g 56) tU (puN 60 g))
def puD:PureF:=fun g=>bb (Nat.beq g 28) tG (bb (Nat.beq g 29) orcAll (bb (Nat.beq g 44) tB (puN 60 g)))
def puV:PureF:=fun g=>bb (Nat.beq g 47) cB (bb (Nat.beq g 45) cR (puN 60 g))
def puU:PureF:=fun g=>bb (Nat.beq g 49) cU (puN 60 g)
def puY:PureF:=fun g=>bb (Nat.beq g 26) cA (bb (Nat.beq g 25) cG (puN 60 g))
def isQ:FuncId→Bool:=fun g=>an (isP g) (nt (memN g [25]))
def pu0:PureF:=puN 60
def evB (g:FuncId) (args:List Value):Option (Value×AHeap):=evFnP tabs isQ pu0 (inl pu0) tt fns 400 g args (tabsHeap tabs)
def evU (g:FuncId) (args:List Value):Option (Value×AHeap):=evFnP tabs isQ puU (inl pu0) tt fns 400 g args (tabsHeap tabs)
end
end Go.HvRM
set_option maxRecDepth 100000
namespace Go.HvRM
open Go.Sp Go.HvR Go.HpT

theorem lt_true {a b:Nat} (h:a < b):ilt (Int.ofNat a) (Int.ofNat b) = true:=by simp [ilt_eq,h]
theorem lt_false {a b:Nat} (h:¬ a < b):ilt (Int.ofNat a) (Int.ofNat b) = false:=by simp [ilt_eq];omega
theorem ieqr (x:Int):ieq x x = true:=by simp [ieq_eq]
theorem neqr (x:Int):nt (ieq x x) = false:=by rw [ieqr];rfl
theorem ne_t {x:Int} (h:x ≠ 0):nt (ieq x 0) = true:=by simp [ieq_eq,h]
def nI (l:List Nat):List Int:=l.map Int.ofNat
theorem nI_len (l:List Nat):(nI l).length = l.length:=by simp [nI]
theorem iL_eq (p:List Nat):iL p = (nI p).map I:=by
 unfold iL nI;rw [mapL_eq,List.map_map];rfl
theorem sv_eq (p:List Nat):sv p = Sl.v 1 (sl 0 (nI p)):=by
 unfold sv sl;rw [iL_eq,len_eq,nI_len]
theorem wrapN {z:Int} (h1:-2000000000≤z) (h2:z≤2000000000):wrapF .i64 z = z:=wrapI _ (by omega) (by omega)
noncomputable def ifp (p:Prop) (a b:Int):Int:=@ite _ p (Classical.propDecidable p) a b
theorem ifp_t {p:Prop} {a b:Int} (h:p):ifp p a b = a:=if_pos h
theorem ifp_f {p:Prop} {a b:Int} (h:¬ p):ifp p a b = b:=if_neg h
theorem p32 (n:Nat) (a b c:Int):puN (n + 1) 32 [I a,I b,I c] = some (Value.bool (decide (a≤b) && decide (b≤c))):=by
 show bb (nt (ilt b a)) (some (Value.bool (nt (ilt c b)))) (some (Value.bool false)) = _
 by_cases h1:a≤b <;> by_cases h2:b≤c <;> simp [ilt_eq,h1,h2,show (b < a)↔¬ a≤b from by omega,show (c < b)↔¬ b≤c from by omega]
theorem p43 (n:Nat) (a b c:Int):puN (n + 1) 43 [I a,I b,I c] = some (Value.bool (decide (b≤a) && decide (a≤c))):=by
 show bb (nt (ilt a b)) (some (Value.bool (nt (ilt c a)))) (some (Value.bool false)) = _
 by_cases h1:b≤a <;> by_cases h2:a≤c <;> simp [ilt_eq,h1,h2,show (a < b)↔¬ b≤a from by omega,show (c < a)↔¬ a≤c from by omega]
theorem p4 (n fl:Nat) (l:List Int):puN (n + 1) 4 [Sl.v 1 (sl fl l)] = some (Value.bool (decide (60 < l.length))):=by
 show some (Value.bool (ilt 60 (Int.ofNat l.length))) = _
 rw [ilt_eq]
 by_cases h:60 < l.length
 ·rw [decide_eq_true h,decide_eq_true];simp only [Int.ofNat_eq_natCast];omega
 ·rw [decide_eq_false h,decide_eq_false];simp only [Int.ofNat_eq_natCast];omega

noncomputable def sc : Int → List Int → Int
 | _,[]=>0
 | last,h :: t=>ifp (1≤h∧h≤21) (ifp (last < h) 7 (sc h t)) 1
noncomputable def chk (l:List Int):Int:=ifp (l.length = 0) 4 (ifp (sc 21 l = 0) (ifp (21 < l.sum) 3 0) (sc 21 l))
theorem sc_pos : ∀ (l : List Int) (last : Int), sc last l = 0 → ∀ h ∈ l, 1 ≤ h ∧ h ≤ 21
 | [],_,_,h,hh=>by cases hh
 | a :: t, last, e, h, hh => by
  unfold sc at e
  by_cases c:1≤a∧a≤21
  ·rw [ifp_t c] at e
   by_cases d:last < a
   ·rw [ifp_t d] at e;cases e
   ·rw [ifp_f d] at e
    rcases List.mem_cons.1 hh with rfl | hh
    ·exact c
    ·exact sc_pos t a e h hh
  ·rw [ifp_f c] at e;cases e
theorem sum_ge : ∀ (l : List Int), (∀ h ∈ l, 1 ≤ h ∧ h ≤ 21) → 0 ≤ l.sum ∧ l.sum ≤ 21 * l.length
 | [],_=>by simp
 | a :: l, h => by
  have h1:=h a (by simp)
  have h2:=sum_ge l (fun b hb=>h b (by simp [hb]))
  rw [List.sum_cons,List.length_cons];omega
theorem l23 (n fl : Nat) (l : List Int) (hl : l.length ≤ 60) : ∀ (f i : Nat) (s last : Int), l.length - i < f → i ≤ l.length → 0 ≤ s → s ≤ 22 →
 l23_1 (puN (n + 1)) 1000000 f s last (sl fl l) (Int.ofNat l.length) (Int.ofNat i) = some (I (ifp (sc last (l.drop i) = 0) (ifp (21 < s + (l.drop i).sum) 3 0) (sc last (l.drop i)))):=by
 intro f
 induction f with
 | zero=>intro i s last h;omega
 | succ f ih =>
  intro i s last hf hi h0 h22
  show b23_1 (puN (n + 1)) 1000000 (l23_1 (puN (n + 1)) 1000000 f) _ _ _ _ _ = _
  unfold b23_1
  by_cases hlt:i < l.length
  ·have q := p32 n 1 l[i] 21
   rw [lt_true hlt,List.drop_eq_getElem_cons hlt]
   simp only [bb_true,toN_mk,oo_some,sl_n,sl_cs,blt_eq,hlt,decide_true,an_eq,Bool.true_and,nthL_eq,Nat.mul_one,getI l i hlt,toI_mk]
   rw [q,oo_some,vBool_mk,oo_some]
   unfold sc
   by_cases c:1≤l[i]∧l[i]≤21
   ·have d : (decide ((1 : Int) ≤ l[i]) && decide (l[i] ≤ 21)) = true := by simp [c]
    rw [d,show nt true = false from rfl,bb_false,ifp_t c]
    by_cases e:last < l[i]
    ·have : ilt last l[i] = true := by rw [ilt_eq]; exact decide_eq_true e
     rw [this,bb_true,ifp_t e,ifp_f (by decide)]
    ·have : ilt last l[i] = false := by rw [ilt_eq]; exact decide_eq_false e
     rw [this,bb_false,ifp_f e,wrapS i (by omega)]
     have ea:wrapF .i64 (Int.add s l[i]) = s + l[i]:=wrapN (by show _≤s + l[i];omega) (by show s + l[i]≤_;omega)
     rw [ea]
     have hs:∀ h ∈ l.drop (i + 1),sc l[i] (l.drop (i + 1)) = 0→1≤h∧h≤21:=fun h hh g=>sc_pos _ _ g h hh
     by_cases g:22 < s + l[i]
     ·have : ilt 22 (s + l[i]) = true := by rw [ilt_eq]; exact decide_eq_true g
      rw [this,bb_true,ih (i + 1) 22 l[i] (by omega) (by omega) (by omega) (by omega)]
      by_cases z:sc l[i] (l.drop (i + 1)) = 0
      ·have := sum_ge (l.drop (i + 1)) (fun h hh => hs h hh z)
       rw [ifp_t z,ifp_t z,ifp_t (by omega),List.sum_cons,ifp_t (by omega)]
      ·rw [ifp_f z,ifp_f z]
     ·have : ilt 22 (s + l[i]) = false := by rw [ilt_eq]; exact decide_eq_false g
      rw [this,bb_false,ih (i + 1) (s + l[i]) l[i] (by omega) (by omega) (by omega) (by omega),List.sum_cons,Int.add_assoc]
   ·have d : (decide ((1 : Int) ≤ l[i]) && decide (l[i] ≤ 21)) = false := by
     rw [←Bool.not_eq_true];simp only [Bool.and_eq_true,decide_eq_true_eq];exact c
    rw [d,show nt false = true from rfl,bb_true,ifp_f c,ifp_f (by decide)]
  ·have : i = l.length := by omega
   subst this
   rw [lt_false hlt,bb_false,List.drop_length]
   unfold m23_0 sc
   rw [ifp_t rfl,List.sum_nil,Int.add_zero]
   by_cases g:21 < s
   ·have : ilt 21 s = true := by rw [ilt_eq]; exact decide_eq_true g
    rw [this,ifp_t g];rfl
   ·have : ilt 21 s = false := by rw [ilt_eq]; exact decide_eq_false g
    rw [this,ifp_f g];rfl
theorem p23 (n fl:Nat) (l:List Int) (hl:l.length≤60):puN (n + 2) 23 [Sl.v 1 (sl fl l)] = some (I (chk l)):=by
 refine Eq.trans (b:=m23_ (puN (n + 1)) 1000000 (sl fl l)) (by kernel_rfl) ?_
 unfold m23_ chk
 rw [sl_n]
 by_cases h0:l.length = 0
 ·rw [ifp_t h0,h0];rfl
 ·have : ieq (Int.ofNat l.length) 0 = false := by rw [ieq_eq]; simp only [Int.ofNat_eq_natCast]; exact decide_eq_false (by omega)
  rw [ifp_f h0,this,bb_false]
  have:=l23 n fl l hl 1000000 0 0 21 (by omega) (by omega) (by omega) (by omega)
  rw [List.drop_zero,Int.zero_add] at this
  exact this
theorem l27b (pu : PureF) (fl : Nat) (l : List Int) (hl : l.length ≤ 60) (hp : ∀ h ∈ l, 1 ≤ h ∧ h ≤ 21) : ∀ (f i : Nat) (s : Int), l.length - i < f → i ≤ l.length → 0 ≤ s → s ≤ 21 →
 l27_2 pu 1000000 f (sl fl l) s (Int.ofNat i) = some (I (ifp (21 < s + (l.drop i).sum) 3 0)):=by
 intro f
 induction f with
 | zero=>intro i s h;omega
 | succ f ih =>
  intro i s hf hi h0 h21
  show b27_2 pu 1000000 (l27_2 pu 1000000 f) _ _ _ = _
  unfold b27_2
  rw [sl_n]
  by_cases hlt:i < l.length
  ·have hx := hp _ (List.getElem_mem hlt)
   have ea:wrapF .i64 (Int.add s l[i]) = s + l[i]:=wrapN (by show _≤s + l[i];omega) (by show s + l[i]≤_;omega)
   have hs:=sum_ge (l.drop (i + 1)) (fun h hh=>hp h (List.mem_of_mem_drop hh))
   rw [lt_true hlt,List.drop_eq_getElem_cons hlt,List.sum_cons]
   simp only [bb_true,toN_mk,oo_some,sl_n,sl_cs,blt_eq,hlt,decide_true,an_eq,Bool.true_and,nthL_eq,Nat.mul_one,getI l i hlt,toI_mk,ea]
   by_cases g:21 < s + l[i]
   ·have : ilt 21 (s + l[i]) = true := by rw [ilt_eq]; exact decide_eq_true g
    rw [this,bb_true,ifp_t (by omega)]
   ·have : ilt 21 (s + l[i]) = false := by rw [ilt_eq]; exact decide_eq_false g
    rw [this,bb_false,wrapS i (by omega),ih (i + 1) (s + l[i]) (by omega) (by omega) (by omega) (by omega),Int.add_assoc]
  ·have : i = l.length := by omega
   subst this
   rw [lt_false hlt,bb_false,List.drop_length,List.sum_nil,Int.add_zero,ifp_f (by omega)];rfl
theorem l27a (n fl : Nat) (l : List Int) (hl : l.length ≤ 60) : ∀ (f i : Nat), l.length - i < f → i ≤ l.length → (∀ h ∈ l.take i, 1 ≤ h ∧ h ≤ 21) →
 l27_3 (puN (n + 1)) 1000000 f (sl fl l) (Int.ofNat i) = some (I (ifp (sc (if i = 0 then 21 else l.getD (i - 1) 0) (l.drop i) = 0) (ifp (21 < l.sum) 3 0) (sc (if i = 0 then 21 else l.getD (i - 1) 0) (l.drop i)))):=by
 intro f
 induction f with
 | zero=>intro i h;omega
 | succ f ih =>
  intro i hf hi ht
  show b27_3 (puN (n + 1)) 1000000 (l27_3 (puN (n + 1)) 1000000 f) _ _ = _
  unfold b27_3
  rw [sl_n]
  by_cases hlt:i < l.length
  ·have q := p43 n l[i] 1 21
   rw [lt_true hlt,List.drop_eq_getElem_cons hlt]
   simp only [bb_true,toN_mk,oo_some,sl_n,sl_cs,blt_eq,hlt,decide_true,an_eq,Bool.true_and,nthL_eq,Nat.mul_one,getI l i hlt,toI_mk]
   rw [q,oo_some,vBool_mk,oo_some]
   unfold sc
   by_cases c:1≤l[i]∧l[i]≤21
   ·have d : (decide ((1 : Int) ≤ l[i]) && decide (l[i] ≤ 21)) = true := by simp [c]
    rw [d,show nt true = false from rfl,bb_false,ifp_t c]
    have ih':=ih (i + 1) (by omega) (by omega) (fun h hh=>by
     rw [List.take_succ_eq_append_getElem hlt] at hh
     rcases List.mem_append.1 hh with hh | hh
     ·exact ht h hh
     ·rw [List.mem_singleton.1 hh];exact c)
    have eg:l.getD (i + 1 - 1) 0 = l[i]:=by rw [Nat.add_sub_cancel,List.getD_eq_getElem?_getD,List.getElem?_eq_getElem hlt,Option.getD_some]
    rw [if_neg (by omega),eg] at ih'
    by_cases i0:i = 0
    ·subst i0
     have:ilt 0 (Int.ofNat 0) = false:=rfl
     have hn:¬ (21:Int) < l[0]:=by omega
     rw [this,bb_false,if_pos rfl,ifp_f hn]
     unfold m27_4
     rw [bb_false,wrapS 0 (by omega)]
     exact ih'
    ·obtain ⟨m, rfl⟩ : ∃ m, i = m + 1 := ⟨i - 1, by omega⟩
     have hm:m < l.length:=by omega
     have hsub:wrapF .i64 (Int.sub (Int.ofNat (m + 1)) 1) = Int.ofNat m:=by
      have e:Int.sub (Int.ofNat (m + 1)) 1 = Int.ofNat m:=by show ((m + 1:Nat):Int) - 1 = ((m:Nat):Int);omega
      rw [e]
      exact wrapN (by simp only [Int.ofNat_eq_natCast];omega) (by simp only [Int.ofNat_eq_natCast];omega)
     have em:l.getD (m + 1 - 1) 0 = l[m]:=by rw [Nat.add_sub_cancel,List.getD_eq_getElem?_getD,List.getElem?_eq_getElem hm,Option.getD_some]
     rw [show ilt 0 (Int.ofNat (m + 1)) = true from lt_true (Nat.succ_pos m),bb_true,if_neg i0,em]
     simp only [blt_eq,hlt,hm,decide_true,Bool.true_and,bb_true,nthL_eq,Nat.mul_one,getI l _ hlt,getI l _ hm,oo_some,toI_mk,hsub,toN_mk]
     unfold m27_4
     by_cases e:l[m] < l[m + 1]
     ·have : ilt l[m] l[m + 1] = true := by rw [ilt_eq]; exact decide_eq_true e
      rw [this,bb_true,ifp_t e,ifp_f (by decide)]
     ·have : ilt l[m] l[m + 1] = false := by rw [ilt_eq]; exact decide_eq_false e
      rw [this,bb_false,ifp_f e,wrapS (m + 1) (by omega)]
      exact ih'
   ·have d : (decide ((1 : Int) ≤ l[i]) && decide (l[i] ≤ 21)) = false := by
     rw [←Bool.not_eq_true];simp only [Bool.and_eq_true,decide_eq_true_eq];exact c
    rw [d,show nt false = true from rfl,bb_true,ifp_f c,ifp_f (by decide)]
  ·have : i = l.length := by omega
   subst this
   rw [List.take_length] at ht
   rw [lt_false hlt,bb_false,List.drop_length]
   unfold m27_0 sc
   rw [ifp_t rfl]
   have:=l27b (puN (n + 1)) fl l hl ht 1000000 0 0 (by omega) (by omega) (by omega) (by omega)
   rw [List.drop_zero,Int.zero_add] at this
   exact this
theorem p27 (n fl:Nat) (l:List Int) (hl:l.length≤60):puN (n + 2) 27 [Sl.v 1 (sl fl l)] = some (I (chk l)):=by
 refine Eq.trans (b:=m27_ (puN (n + 1)) 1000000 (sl fl l)) (by kernel_rfl) ?_
 unfold m27_ chk
 rw [sl_n]
 by_cases h0:l.length = 0
 ·rw [ifp_t h0,h0];rfl
 ·have : ieq (Int.ofNat l.length) 0 = false := by rw [ieq_eq]; simp only [Int.ofNat_eq_natCast]; exact decide_eq_false (by omega)
  rw [ifp_f h0,this,bb_false]
  have:=l27a n fl l hl 1000000 0 (by omega) (by omega) (by simp)
  rw [List.drop_zero,if_pos rfl] at this
  exact this
theorem sum_nI (p:List Nat):(nI p).sum = Int.ofNat (sumL p):=by
 induction p with
 | nil=>rfl
 | cons a p ih =>
  show Int.ofNat a + (nI p).sum = Int.ofNat (a + sumL p)
  rw [ih];simp
theorem isPt_of : ∀ (p : List Nat) (last left : Nat), sc (Int.ofNat last) (nI p) = 0 → sumL p = left → isPt p left last = true
 | [], _, left, _, hs => by
  have hs:0 = left:=hs
  subst hs;rfl
 | a :: p, last, left, h, hs => by
  have h:ifp (1≤Int.ofNat a∧Int.ofNat a≤21) (ifp (Int.ofNat last < Int.ofNat a) 7 (sc (Int.ofNat a) (nI p))) 1 = 0:=h
  have hs:a + sumL p = left:=hs
  by_cases c:1≤Int.ofNat a∧Int.ofNat a≤21
  ·rw [ifp_t c] at h
   by_cases d:Int.ofNat last < Int.ofNat a
   ·rw [ifp_t d] at h;cases h
   ·rw [ifp_f d] at h
    simp only [Int.ofNat_eq_natCast] at c d
    have:=isPt_of p a (left - a) h (by omega)
    show an (Nat.ble 1 a) (an (Nat.ble a last) (an (Nat.ble a left) (isPt p (left - a) a))) = true
    rw [this,Nat.ble_eq_true_of_le (show 1≤a by omega),Nat.ble_eq_true_of_le (show a≤last by omega),Nat.ble_eq_true_of_le (show a≤left by omega)];rfl
  ·rw [ifp_f c] at h;cases h
theorem natL : ∀ (l : List Int), (∀ a ∈ l, 1 ≤ a ∧ a ≤ 21) → ∃ r : List Nat, l = nI r
 | [],_=>⟨[],rfl⟩
 | a :: l, h => by
  obtain ⟨r,e⟩:=natL l (fun b hb=>h b (by simp [hb]))
  have a1:=h a (by simp)
  refine ⟨a.toNat :: r,?_⟩
  rw [e];show a :: nI r = Int.ofNat a.toNat :: nI r
  rw [show Int.ofNat a.toNat = a from by simp only [Int.ofNat_eq_natCast];omega]
theorem sc_mono : ∀ (p : List Nat) (last last' : Int), sc last (nI p) = 0 → (∀ a t, p = a :: t → Int.ofNat a ≤ last') → sc last' (nI p) = 0
 | [],_,_,_,_=>rfl
 | a :: p, last, last', h, hl => by
  have h:ifp (1≤Int.ofNat a∧Int.ofNat a≤21) (ifp (last < Int.ofNat a) 7 (sc (Int.ofNat a) (nI p))) 1 = 0:=h
  show ifp (1≤Int.ofNat a∧Int.ofNat a≤21) (ifp (last' < Int.ofNat a) 7 (sc (Int.ofNat a) (nI p))) 1 = 0
  have:=hl a p rfl
  by_cases c:1≤Int.ofNat a∧Int.ofNat a≤21
  ·rw [ifp_t c] at h ⊢
   rw [ifp_f (by omega)]
   by_cases d:last < Int.ofNat a
   ·rw [ifp_t d] at h;cases h
   ·rw [ifp_f d] at h;exact h
  ·rw [ifp_f c] at h;cases h
theorem ok_of {l:List Int} (h:chk l = 0):∃ p:List Nat,l = nI p∧okP 21 p = true:=by
 unfold chk at h
 by_cases h0:l.length = 0
 ·rw [ifp_t h0] at h;cases h
 ·rw [ifp_f h0] at h
  by_cases h1:sc 21 l = 0
  ·rw [ifp_t h1] at h
   by_cases h2:21 < l.sum
   ·rw [ifp_t h2] at h;cases h
   ·obtain ⟨p, rfl⟩ := natL l (sc_pos l 21 h1)
    rw [sum_nI] at h2
    simp only [Int.ofNat_eq_natCast] at h2
    have hs1:1≤sumL p:=by
     cases p with
     | nil=>exact absurd rfl h0
     | cons a t =>
      have:=(sc_pos _ _ h1 (Int.ofNat a) (by simp [nI])).1
      simp only [Int.ofNat_eq_natCast] at this
      show 1≤a + sumL t
      omega
    have hp:=isPt_of p (sumL p) (sumL p) (sc_mono p 21 _ h1 (fun a t e=>by
     subst e
     show Int.ofNat a≤Int.ofNat (a + sumL t)
     simp only [Int.ofNat_eq_natCast];omega)) rfl
    refine ⟨p,rfl,?_⟩
    show an (Nat.ble 1 (sumL p)) (an (Nat.ble (sumL p) 21) (isPt p (sumL p) (sumL p))) = true
    rw [hp,Nat.ble_eq_true_of_le hs1,Nat.ble_eq_true_of_le (show sumL p≤21 by omega)];rfl
  ·rw [ifp_f h1] at h;exact absurd h h1
end Go.HvRM
set_option maxRecDepth 100000
set_option maxHeartbeats 0
namespace Go.HvRM
open Go Go.Sp Go.HvR Go.HpT
noncomputable section
def or8L:List (Option Value):=[some (.tuple ⟨[Sl.v 1 ⟨0,2,[]⟩,.int .i64 1]⟩),some eG1,some eG2,some eG3,some eG4,some eG5,some eG6,some eG7,some eG8,some eG9,some eG10,some eG11,some eG12,some eG13,some eG14,none,none,none,none,none,none,none]
def or8 (args:List Value):Option Value:=ll args none fun a r=>ll r (oo (toI .i64 a) none fun z=>ii z (fun n=>bb (Nat.ble 22 n) (some (.tuple ⟨[Sl.v 1 ⟨0,2,[]⟩,.int .i64 1]⟩)) (oo (nthL or8L n) none fun v=>v)) fun _=>some (.tuple ⟨[Sl.v 1 ⟨0,2,[]⟩,.int .i64 1]⟩)) fun _ _=>none
def puW:PureF:=fun g=>bb (Nat.beq g 5) tru (bb (Nat.beq g 6) (m6 puY 1000000) (bb (Nat.beq g 7) (m7 puD 1000000) (bb (Nat.beq g 8) or8 (bb (Nat.beq g 9) (m9 puD 1000000) (puN 60 g)))))
end
theorem puW_g (g:FuncId) (h5:Nat.beq g 5 = false) (h6:Nat.beq g 6 = false) (h7:Nat.beq g 7 = false) (h8:Nat.beq g 8 = false) (h9:Nat.beq g 9 = false):puW g = puN 60 g:=by
 unfold puW;rw [h5,bb_false,h6,bb_false,h7,bb_false,h8,bb_false,h9,bb_false]
end Go.HvRM
set_option maxRecDepth 100000
set_option maxHeartbeats 0
namespace Go.HvRM
open Go Go.Sp Go.HvR Go.HpT
noncomputable section
def rest6 (s0:Sl):Option Value:=(l6_6 puY 1000000 1000000 0 0 s0 (Int.ofNat (Sl.n s0)) (0:Int) ([]:List Ent) 0 ([]:List Value))
end
theorem m6_rest (p:List Nat) (h23:puY 23 [Sl.v 1 (slOf p)] = some (Value.int .i64 0)) (h24:puY 24 [Sl.v 1 (slOf p)] = some (cv p)):m6_ puY 1000000 (slOf p) = oo (puY 25 [cv p]) none fun v=>oo (toSl 1 v) none rest6:=by
 unfold m6_
 rw [h23,h24]
 kernel_rfl
end Go.HvRM
