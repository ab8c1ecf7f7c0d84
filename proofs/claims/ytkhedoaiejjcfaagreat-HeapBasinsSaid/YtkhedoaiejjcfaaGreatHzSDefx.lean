/- Made from wip. -/
import Derived.Test.YtkhedoaiejjcfaaGreatSpFramex
import Derived.Test.YtkhedoaiejjcfaaGreatSpObjx
import Derived.Test.YtkhedoaiejjcfaaGreatHzSPu
import Derived.KernelRfl

namespace Go.HpT
open Go Go.Sp
noncomputable section
def heads (ih:Nat→Nat→List (List Nat)) (left m:Nat):List (List Nat):=
 Nat.rec (motive:=fun _=>List (List Nat)) [] (fun k r=>appL r (mapL (fun p=>(k + 1) :: p) (ih (left - (k + 1)) (k + 1)))) m
def pts (f:Nat):Nat→Nat→List (List Nat):=
 Nat.rec (motive:=fun _=>Nat→Nat→List (List Nat)) (fun left _=>bb (Nat.beq left 0) [[]] []) (fun _ ih left most=>bb (Nat.beq left 0) [[]] (heads ih left (Nat.min left most))) f
def isPt (p:List Nat):Nat→Nat→Bool:=
 List.rec (motive:=fun _=>Nat→Nat→Bool) (fun left _=>Nat.beq left 0) (fun h _ ih left most=>an (Nat.ble 1 h) (an (Nat.ble h most) (an (Nat.ble h left) (ih (left - h) h)))) p
theorem mem_heads {ih : Nat → Nat → List (List Nat)} {left h : Nat} {r : List Nat} (hr : r ∈ ih (left - h) h) : ∀ m, 1 ≤ h → h ≤ m → h :: r ∈ heads ih left m
 | 0,h1,h2=>by omega
 | m + 1, h1, h2 => by
  show h :: r ∈ appL (heads ih left m) (mapL (fun p=>(m + 1) :: p) (ih (left - (m + 1)) (m + 1)))
  rw [appL_eq,List.mem_append,mapL_eq,List.mem_map]
  by_cases e:h = m + 1
  ·subst e;exact .inr ⟨r,hr,rfl⟩
  ·exact .inl (mem_heads hr m h1 (by omega))
theorem mem_pts : ∀ (p : List Nat) (f left most : Nat), left ≤ f → isPt p left most = true → p ∈ pts f left most
 | [], f, left, most, hf, h => by
  have h:Nat.beq left 0 = true:=h
  cases f with
  | zero=>show [] ∈ bb (Nat.beq left 0) [[]] [];rw [h];simp [bb_true]
  | succ f=>show [] ∈ bb (Nat.beq left 0) [[]] _;rw [h];simp [bb_true]
 | a :: p, f, left, most, hf, h => by
  have h:an (Nat.ble 1 a) (an (Nat.ble a most) (an (Nat.ble a left) (isPt p (left - a) a))) = true:=h
  obtain ⟨h1,h⟩:=an_inv h
  obtain ⟨h2,h⟩:=an_inv h
  obtain ⟨h3,h⟩:=an_inv h
  have h1:=Nat.le_of_ble_eq_true h1
  have h2:=Nat.le_of_ble_eq_true h2
  have h3:=Nat.le_of_ble_eq_true h3
  cases f with
  | zero=>omega
  | succ f =>
   have hz:Nat.beq left 0 = false:=by cases left with
    | zero=>omega
    | succ l=>rfl
   show a :: p ∈ bb (Nat.beq left 0) [[]] (heads (pts f) left (Nat.min left most))
   rw [hz,bb_false]
   exact mem_heads (mem_pts p f (left - a) a (by omega) h) _ h1 (Nat.le_min.2 ⟨h3,h2⟩)
def sumL (p:List Nat):Nat:=List.rec (motive:=fun _=>Nat) 0 (fun h _ r=>h + r) p
def okP (n:Nat) (p:List Nat):Bool:=an (Nat.ble 1 (sumL p)) (an (Nat.ble (sumL p) n) (isPt p (sumL p) (sumL p)))
def ins (m:Nat) (p:List Nat):List Nat:=List.rec (motive:=fun _=>List Nat) [m] (fun h r ih=>bb (Nat.ble h m) (m :: h :: r) (h :: ih)) p
def decs (p:List Nat):List Nat:=List.rec (motive:=fun _=>List Nat) [] (fun h _ ih=>bb (Nat.ble h 1) ih ((h - 1) :: ih)) p
def rnd (p:List Nat):List Nat:=ins (len p) (decs p)
def stair (n:Nat):Nat:=Nat.rec (motive:=fun _=>Nat→Nat→Nat) (fun k _=>k) (fun _ ih k left=>bb (Nat.blt k left) (ih (k + 1) (left - (k + 1))) k) n 0 n
def okS (k:Nat) (p:List Nat):Bool:=
 Nat.rec (motive:=fun _=>List Nat→Bool) (fun p=>ll p true fun h r=>an (Nat.beq h 1) (ll r true fun _ _=>false)) (fun k ih p=>ll p false fun h r=>an (orr (Nat.beq h (k + 1)) (Nat.beq h (k + 2))) (ih r)) k p
def ret (p:List Nat):Bool:=okS (stair (sumL p)) p
def iL (p:List Nat):List Value:=mapL (fun h=>.int .i64 (.ofNat h)) p
def decL (l:List Value):Option (List Nat):=List.rec (motive:=fun _=>Option (List Nat)) (some []) (fun v _ ih=>oo (vInt v) none fun q=>pp q fun _ z=>ii z (fun h=>oo ih none fun r=>some (h :: r)) fun _=>none) l
end
end Go.HpT
namespace Go.HtM

structure Hp (l:List Nat):Prop where
 ne:l ≠ []
 desc:l.Pairwise (fun a b=>b≤a)
 pos:∀ a ∈ l,1≤a
 sum:l.sum≤21
theorem mem_sum : ∀ (l : List Nat) (a : Nat), a ∈ l → a ≤ l.sum
 | b :: l, a, h => by
  rw [List.sum_cons]
  rcases List.mem_cons.1 h with rfl | h
  ·omega
  ·have:=mem_sum l a h;omega
theorem len_sum : ∀ (l : List Nat), (∀ a ∈ l, 1 ≤ a) → l.length ≤ l.sum
 | [],_=>by simp
 | a :: l, h => by
  have h1:=h a (by simp)
  have h2:=len_sum l (fun b hb=>h b (by simp [hb]))
  rw [List.sum_cons,List.length_cons];omega
theorem Hp.le {l:List Nat} (h:Hp l):∀ a ∈ l,a≤21:=fun a ha=>Nat.le_trans (mem_sum l a ha) h.sum
theorem Hp.len {l:List Nat} (h:Hp l):l.length≤21:=Nat.le_trans (len_sum l h.pos) h.sum
theorem Hp.head {l:List Nat} (h:Hp l):∃ a t,l = a :: t∧1≤a∧a≤21∧∀ b ∈ l,b≤a:=by
 cases l with
 | nil=>exact absurd rfl h.ne
 | cons a t =>
  refine ⟨a,t,rfl,h.pos a (by simp),h.le a (by simp),fun b hb=>?_⟩
  rcases List.mem_cons.1 hb with rfl | hb
  ·exact Nat.le_refl _
  ·exact (List.pairwise_cons.1 h.desc).1 b hb
end Go.HtM
namespace Go.HyM
open Go Go.Sp Go.HpT Go.HtM

theorem sumL_eq : ∀ p : List Nat, sumL p = p.sum
 | []=>rfl
 | a :: p => by
  show a + sumL p = _
  rw [sumL_eq p,List.sum_cons]
theorem isPt_of : ∀ (p : List Nat) (left most : Nat), (∀ a ∈ p, 1 ≤ a ∧ a ≤ most) → p.Pairwise (fun a b => b ≤ a) → sumL p = left → isPt p left most = true
 | [], left, _, _, _, h => by
  have h:0 = left:=h
  subst h;rfl
 | a :: p, left, most, h1, h2, h => by
  have h:a + sumL p = left:=h
  obtain ⟨g1,g2⟩:=List.pairwise_cons.1 h2
  have ha:=h1 a (by simp)
  have ih:=isPt_of p (left - a) a (fun b hb=>⟨(h1 b (by simp [hb])).1,g1 b hb⟩) g2 (by omega)
  show an (Nat.ble 1 a) (an (Nat.ble a most) (an (Nat.ble a left) (isPt p (left - a) a))) = true
  rw [ih,Nat.ble_eq_true_of_le ha.1,Nat.ble_eq_true_of_le ha.2,Nat.ble_eq_true_of_le (show a≤left by omega)];rfl
theorem isPt_inv : ∀ (p : List Nat) (left most : Nat), isPt p left most = true → (∀ a ∈ p, 1 ≤ a ∧ a ≤ most) ∧ p.Pairwise (fun a b => b ≤ a)
 | [],_,_,_=>⟨fun a h=>(by cases h),List.Pairwise.nil⟩
 | a :: p, left, most, h => by
  obtain ⟨h1,h⟩:=an_inv (show an (Nat.ble 1 a) (an (Nat.ble a most) (an (Nat.ble a left) (isPt p (left - a) a))) = true from h)
  obtain ⟨h2,h⟩:=an_inv h
  obtain ⟨_,h⟩:=an_inv h
  obtain ⟨i1,i2⟩:=isPt_inv p _ _ h
  have h1:=Nat.le_of_ble_eq_true h1
  have h2:=Nat.le_of_ble_eq_true h2
  refine ⟨fun b hb=>?_,List.Pairwise.cons (fun b hb=>(i1 b hb).2) i2⟩
  rcases List.mem_cons.1 hb with rfl | hb
  ·exact ⟨h1,h2⟩
  ·have := i1 b hb
   exact ⟨this.1,by omega⟩
theorem ok_hp {p:List Nat} (h:Hp p):okP 21 p = true:=by
 have h1:=len_sum p h.pos
 have h2:0 < p.length:=List.length_pos_iff.2 h.ne
 have h3:=h.sum
 have hp:=isPt_of p (sumL p) (sumL p) (fun a ha=>⟨h.pos a ha,by rw [sumL_eq];exact mem_sum p a ha⟩) h.desc rfl
 show an (Nat.ble 1 (sumL p)) (an (Nat.ble (sumL p) 21) (isPt p (sumL p) (sumL p))) = true
 rw [hp,sumL_eq,Nat.ble_eq_true_of_le (show 1≤p.sum by omega),Nat.ble_eq_true_of_le h3];rfl
theorem hp_ok {p:List Nat} (h:okP 21 p = true):Hp p:=by
 obtain ⟨h1,h2⟩:=an_inv (show an (Nat.ble 1 (sumL p)) (an (Nat.ble (sumL p) 21) (isPt p (sumL p) (sumL p))) = true from h)
 obtain ⟨h2,h3⟩:=an_inv h2
 have h1:=Nat.le_of_ble_eq_true h1
 have h2:=Nat.le_of_ble_eq_true h2
 obtain ⟨i1,i2⟩:=isPt_inv p _ _ h3
 refine ⟨fun e=>?_,i2,fun a ha=>(i1 a ha).1,by rw [←sumL_eq];exact h2⟩
 subst e;exact absurd h1 (by decide)
theorem desc_eq : ∀ (A B : List Nat), A.Perm B → A.Pairwise (fun a b => b ≤ a) → B.Pairwise (fun a b => b ≤ a) → A = B
 | [],B,h,_,_=>h.symm.eq_nil.symm
 | a :: A,[],h,_,_=>by have:=h.eq_nil;cases this
 | a :: A, b :: B, h, hA, hB => by
  obtain ⟨a1,a2⟩:=List.pairwise_cons.1 hA
  obtain ⟨b1,b2⟩:=List.pairwise_cons.1 hB
  have e:a = b:=by
   have h1:a≤b:=by
    rcases List.mem_cons.1 (h.mem_iff.1 (List.mem_cons_self (a:=a) (l:=A))) with e | e
    ·omega
    ·exact b1 a e
   have h2:b≤a:=by
    rcases List.mem_cons.1 (h.mem_iff.2 (List.mem_cons_self (a:=b) (l:=B))) with e | e
    ·omega
    ·exact a1 b e
   omega
  subst e
  rw [desc_eq A B h.cons_inv a2 b2]
theorem ins_perm (m : Nat) : ∀ p : List Nat, (ins m p).Perm (m :: p)
 | []=>List.Perm.refl _
 | h :: p => by
  show (bb (Nat.ble h m) (m :: h :: p) (h :: ins m p)).Perm _
  cases Nat.ble h m with
  | true=>rw [bb_true]
  | false =>
   rw [bb_false]
   exact ((ins_perm m p).cons h).trans (List.Perm.swap m h p)
theorem decs_eq : ∀ p : List Nat, decs p = (p.filter fun h => decide (1 < h)).map fun h => h - 1
 | []=>rfl
 | h :: p => by
  show bb (Nat.ble h 1) (decs p) ((h - 1) :: decs p) = _
  rw [decs_eq p]
  by_cases c:1 < h
  ·have : Nat.ble h 1 = false := by
    cases hb:Nat.ble h 1 with
    | false=>rfl
    | true=>have:=Nat.le_of_ble_eq_true hb;omega
   rw [this,bb_false,List.filter_cons_of_pos (by simpa using c),List.map_cons]
  ·have : Nat.ble h 1 = true := Nat.ble_eq_true_of_le (by omega)
   rw [this,bb_true,List.filter_cons_of_neg (by simpa using c)]
theorem rnd_of {p r:List Nat} (hr:okP 21 (rnd p) = true) (h1:r.Perm (p.length :: (p.filter fun h=>decide (1 < h)).map fun h=>h - 1)) (h2:r.Pairwise (fun a b=>b≤a)):r = rnd p:=by
 refine desc_eq _ _ (h1.trans ?_) h2 (hp_ok hr).desc
 have:rnd p = ins p.length (decs p):=by show ins (len p) (decs p) = _;rw [len_eq]
 rw [this,←decs_eq]
 exact (ins_perm _ _).symm
end Go.HyM
namespace Go.Sp
noncomputable section
end
section
variable {P:Program} {tt:TT} {tabs:List (List Value)}
end
end Go.Sp
namespace Go.Sp
noncomputable section
def cellsF (f:Value→AHeap→Option (Value×AHeap)) (l:List Value):AHeap→Option (List Value×AHeap):=
 List.rec (motive := fun _ => AHeap → Option (List Value × AHeap)) (fun H => some ([], H))
  (fun v _ ih H=>oo (vSl v) (oo (ih H) none fun p=>pp p fun r H'=>some (v :: r,H')) fun _=>oo (f v H) none fun q=>pp q fun v' H1=>oo (ih H1) none fun p=>pp p fun r H'=>some (v' :: r,H')) l
def deepN (k id:Nat) (av:List Nat):Bool:=an (Nat.ble k id) (nt (memN id av))
def deepV (k d:Nat):List Nat→Value→AHeap→Option (Value×AHeap):=
 Nat.rec (motive := fun _ => List Nat → Value → AHeap → Option (Value × AHeap)) (fun _ _ _ => none)
  (fun _ ih av v H => oo (vSl v) none fun s => oo (oCells (H.get s.id)) none fun o => bb (deepN k s.id av)
    (oo (cellsF (ih (s.id :: av)) o.xs H) none fun p=>pp p fun xs' H1=>freezeV k false v (H1.set s.id (.cells xs' o.imm o.spent o.anc))) none) d
def deepR (k d:Nat) (r:Option (Value×AHeap)):Option Value:=oo r none fun p=>pp p fun q H1=>oo (deepV k d [] q H1) none fun p2=>pp p2 fun v' _=>some v'
def deepT (k d:Nat) (r:Option (Value×AHeap)):Option Value:=oo r none fun p=>pp p fun q H1=>oo (vTup q) none fun l=>oo (cellsF (deepV k d []) l H1) none fun p2=>pp p2 fun l' _=>some (.tuple ⟨l'⟩)
end
theorem Quiet.refl (n0:Nat) (H:AHeap):Quiet n0 H H:=fun _ _ _ R _ _ _ hp=>⟨R,R.le_refl,rfl,hp⟩
theorem Quiet.trans {n0:Nat} {H H1 H2:AHeap} (h:Quiet n0 H H1) (h':Quiet n0 H1 H2):Quiet n0 H H2:=fun H0 R0 w0 R w hs hn hp=>by
 obtain ⟨R1,a1,a2,a3⟩:=h H0 R0 w0 R w hs hn hp
 obtain ⟨R2,b1,b2,b3⟩:=h' H0 R0 w0 R1 w hs hn a3
 exact ⟨R2,Ren.le_trans a1 b1,b2.trans a2,b3⟩
theorem Quiet.tell {n0:Nat} {H H1:AHeap} (h:Quiet n0 H H1) (v:Value):Tell n0 H v H1 v:=fun H0 R0 w0 R w _ hs hn hp hv=>by
 obtain ⟨R1,a1,a2,a3⟩:=h H0 R0 w0 R w hs hn hp
 exact ⟨R1,a1,a2,a3,hv.mono a1⟩
theorem Tell.trans {n0:Nat} {H H1 H2:AHeap} {v v1 v2:Value} (h:Tell n0 H v H1 v1) (h':Tell n0 H1 v1 H2 v2):Tell n0 H v H2 v2:=fun H0 R0 w0 R w u hs hn hp hv=>by
 obtain ⟨R1,a1,a2,a3,a4⟩:=h H0 R0 w0 R w u hs hn hp hv
 obtain ⟨R2,b1,b2,b3,b4⟩:=h' H0 R0 w0 R1 w u hs hn a3 a4
 exact ⟨R2,Ren.le_trans a1 b1,b2.trans a2,b3,b4⟩
theorem Post.setCells {H0 H1 : AHeap} {R0 R' : Ren} {w0 w : World} (hp : Post H0 R0 w0 H1 R' w) {id : Nat} {xs xs' : List Value} {imm spent : Bool} {anc : List Nat} (hn : H0.next ≤ id) (h1 : H1.get id = .cells xs imm spent anc) (hl : xs'.length = xs.length)
 (hv:∀ c β,R'.f id = some (c,β)→∀ C t fz,w.heap[c]? = some (.cells C t fz)→∀ (i:Nat) x,xs'[i]? = some x→∃ u,C[β + i]? = some u∧VR R' x u):Post H0 R0 w0 (H1.set id (.cells xs' imm spent anc)) R' w:=by
 have hs:=hp.sim
 have hget:∀ i,(H1.set id (.cells xs' imm spent anc)).get i = if id = i then .cells xs' imm spent anc else H1.get i:=fun i=>AHeap.get_set _ _ _ _
 have hwr:∀ i,((H1.set id (.cells xs' imm spent anc)).get i).writable = (H1.get i).writable:=fun i=>by
  rw [hget];split
  ·rename_i he;rw [←he,h1];rfl
  ·rfl
 have himm:∀ i,((H1.set id (.cells xs' imm spent anc)).get i).immB = (H1.get i).immB:=fun i=>by
  rw [hget];split
  ·rename_i he;rw [←he,h1];rfl
  ·rfl
 have hanc:∀ i,((H1.set id (.cells xs' imm spent anc)).get i).ancOf = (H1.get i).ancOf:=fun i=>by
  rw [hget];split
  ·rename_i he;rw [←he,h1];rfl
  ·rfl
 have hsize:∀ i,((H1.set id (.cells xs' imm spent anc)).get i).size = (H1.get i).size:=fun i=>by
  rw [hget];split
  ·rename_i he;rw [←he,h1];simp [AObj.size,hl]
  ·rfl
 have hkeep:∀ i,i < H0.next→(H1.set id (.cells xs' imm spent anc)).get i = H1.get i:=fun i hi=>by rw [hget,if_neg (by omega)]
 refine ⟨hp.le, hp.new, ⟨fun i c β h => by rw [AHeap.next_set]; exact hs.dom i c β h, fun i c β h => ?_, fun i c β i' β' h h' hne hw => ?_, fun i a ha => ?_, fun i hi => ?_, fun c C h => ⟨(hs.ro c C h).1, fun i β h' => by rw [hwr]; exact (hs.ro c C h).2 i β h'⟩⟩,
  by rw [AHeap.next_set];exact hp.next,hp.grow,hp.frame,fun i hi hr Q c β ob h=>by rw [hkeep i hi];exact hp.calm i hi hr Q c β ob h,fun i hi h=>by rw [hkeep i hi];exact hp.imm i hi h,hp.fresh,hp.side,hp.rofresh⟩
 ·rw [hget]
  split
  ·rename_i he; subst he
   have ho:=hs.obj id c β h
   rw [h1] at ho
   obtain ⟨C,t,fz,k1,k2,k3,k4,k5⟩:=ho
   exact ⟨C,t,fz,k1,k2,by rw [hl];exact k3,fun i x hx=>hv c β h C t fz k1 i x hx,k5⟩
  ·exact hs.obj i c β h
 ·rw [hwr] at hw
  rcases hs.sep i c β i' β' h h' hne hw with h9 | ⟨h9, h8⟩
  ·left
   rw [hget,if_neg (fun e=>by subst e;rw [h1] at h9;cases h9)];exact h9
  ·right
   rw [hanc,hsize,hsize];exact ⟨h9,h8⟩
 ·rw [hanc] at ha
  rw [AHeap.next_set,himm,hwr]
  exact hs.anc i a ha
 ·rw [AHeap.next_set] at hi
  rw [hget]
  split
  ·rename_i he; subst he
   have:=hs.wf id hi
   rw [h1] at this;cases this
  ·exact hs.wf i hi
theorem VRL.nth {R : Ren} : ∀ {l us : List Value}, VRL R l us → ∀ (i : Nat) x, l[i]? = some x → ∃ u, us[i]? = some u ∧ VR R x u
 | [],_,_,i,x,h=>by simp at h
 | v :: l, us, hv, i, x, h => by
  obtain ⟨u,us',rfl,h1,h2⟩:=hv.uncons
  cases i with
  | zero=>simp at h;subst h;exact ⟨u,by simp,h1⟩
  | succ i=>simp at h;obtain ⟨u',a,b⟩:=VRL.nth h2 i x h;exact ⟨u',by simpa using a,b⟩
theorem VRL.of_nth {R : Ren} : ∀ {l us : List Value}, l.length = us.length → (∀ (i : Nat) x, l[i]? = some x → ∃ u, us[i]? = some u ∧ VR R x u) → VRL R l us
 | [],[],_,_=>.nil
 | v :: l, u :: us, hl, h => by
  obtain ⟨u',a,b⟩:=h 0 v (by simp)
  simp at a;subst a
  exact .cons b (VRL.of_nth (by simpa using hl) fun i x hx=>by
   obtain ⟨u',a,b⟩:=h (i + 1) x (by simpa using hx)
   exact ⟨u',by simpa using a,b⟩)
theorem TellL.len {n0:Nat} {H H1:AHeap} {l l':List Value} (h:TellL n0 H l H1 l'):l'.length = l.length:=by
 induction h with
 | nil=>rfl
 | cons _ _ ih=>simp [ih]
structure DeepOk (n0:Nat) (av:List Nat) (H:AHeap) (v:Value) (H':AHeap) (v':Value):Prop where
 tell:Tell n0 H v H' v'
 quiet:Quiet n0 H H'
 keep:∀ i,memN i av = true→H'.get i = H.get i
theorem cellsF_ok {n0 : Nat} {av : List Nat} {f : Value → AHeap → Option (Value × AHeap)} (hf : ∀ v H v' H', f v H = some (v', H') → DeepOk n0 av H v H' v') :
 ∀ {l:List Value} {H:AHeap} {l':List Value} {H':AHeap},cellsF f l H = some (l',H')→TellL n0 H l H' l'∧Quiet n0 H H'∧∀ i,memN i av = true→H'.get i = H.get i
 | [], H, l', H', h => by
  injection h with h;injection h with e1 e2;subst e1;subst e2;exact ⟨.nil H,.refl n0 H,fun _ _=>rfl⟩
 | v :: l, H, l', H', h => by
  have h:oo (vSl v) (oo (cellsF f l H) none fun p=>pp p fun r H'=>some (v :: r,H')) (fun _=>oo (f v H) none fun q=>pp q fun v' H1=>oo (cellsF f l H1) none fun p=>pp p fun r H'=>some (v' :: r,H')) = some (l',H'):=h
  cases hv:vSl v with
  | none =>
   rw [hv,oo_none] at h
   obtain ⟨p,hp,h1⟩:=oo_inv h
   rw [pp_eta] at h1
   injection h1 with h1;injection h1 with e1 e2;subst e1;subst e2
   obtain ⟨a,b,c⟩:=cellsF_ok hf hp
   exact ⟨.cons (Tell.refl n0 H v) a,b,c⟩
  | some s =>
   rw [hv,oo_some] at h
   obtain ⟨q,hq,h1⟩:=oo_inv h
   rw [pp_eta] at h1
   obtain ⟨p,hp,h2⟩:=oo_inv h1
   rw [pp_eta] at h2
   injection h2 with h2;injection h2 with e1 e2;subst e1;subst e2
   obtain ⟨a,b,c⟩:=cellsF_ok hf hp
   have hd:=hf v H q.1 q.2 hq
   exact ⟨.cons hd.tell a,hd.quiet.trans b,fun i hi=>(c i hi).trans (hd.keep i hi)⟩
theorem memN_ne {i id:Nat} {av:List Nat} (h:memN i av = true) (hn:memN id av = false):id ≠ i:=fun e=>by subst e;rw [h] at hn;cases hn
theorem memN_cons (i id:Nat) (av:List Nat):memN i (id :: av) = orr (Nat.beq id i) (memN i av):=by rfl
theorem deepV_ok {n0 k : Nat} (hn : Nat.ble n0 k = true) : ∀ {d : Nat} {av : List Nat} {v : Value} {H : AHeap} {v' : Value} {H' : AHeap}, deepV k d av v H = some (v', H') → DeepOk n0 av H v H' v'
 | 0,_,_,_,_,_,h=>by cases h
 | d + 1, av, v, H, v', H', h => by
  obtain ⟨s, hsl, h⟩ := oo_inv (show oo (vSl v) none (fun s => oo (oCells (H.get s.id)) none fun o => bb (deepN k s.id av)
   (oo (cellsF (deepV k d (s.id :: av)) o.xs H) none fun p=>pp p fun xs' H1=>freezeV k false v (H1.set s.id (.cells xs' o.imm o.spent o.anc))) none) = some (v',H') from h)
  obtain ⟨o,ho,h⟩:=oo_inv h
  obtain ⟨hc,h⟩:=bb_inv h
  obtain ⟨p,hp,h⟩:=oo_inv h
  rw [pp_eta] at h
  obtain ⟨hk,hna⟩:=an_inv hc
  have hna:=nt_false hna
  obtain ⟨tl,ql,kp⟩:=cellsF_ok (fun v H v' H' h=>deepV_ok hn (d:=d) (av:=s.id :: av) h) hp
  have ho:=oCells_some ho
  have hself:p.2.get s.id = .cells o.xs o.imm o.spent o.anc:=by
   rw [kp s.id (by rw [memN_cons,Nat.beq_refl];rfl),ho]
  have hid:n0≤s.id:=Nat.le_trans (Nat.le_of_ble_eq_true hn) (Nat.le_of_ble_eq_true hk)
  have hq2:Quiet n0 H (p.2.set s.id (.cells p.1 o.imm o.spent o.anc)):=fun H0 R0 w0 R w hs hn0 hpo=>by
   by_cases hex:∃ q,R.f s.id = some q
   ·obtain ⟨⟨c, β⟩, hex⟩ := hex
    have hob:=hpo.sim.obj s.id c β hex
    rw [ho] at hob
    obtain ⟨C,t,fz,k1,k2,k3,k4,k5⟩:=hob
    have hvr:VRL R o.xs ((C.toList.drop β).take o.xs.length):=by
     refine VRL.of_nth ?_ fun i x hx=>?_
     ·rw [List.length_take, List.length_drop, Array.length_toList]
      omega
     ·obtain ⟨u, g1, g2⟩ := k4 i x hx
      refine ⟨u,?_,g2⟩
      have hi:i < o.xs.length:=by
       rcases Nat.lt_or_ge i o.xs.length with h | h
       ·exact h
       ·rw [List.getElem?_eq_none h] at hx;cases hx
      rw [List.getElem?_take_of_lt hi,List.getElem?_drop,Array.getElem?_toList];exact g1
    obtain ⟨R',q1,q0,q2,q3⟩:=tl.vrl hs hn0 hpo hvr
    refine ⟨R', q1, q0, q2.setCells (Nat.le_trans hn0 hid) hself tl.len fun c' β' hc' C' t' fz' hC' i x hx => ?_⟩
    rw [q0,hex] at hc'
    injection hc' with hc';injection hc' with e1 e2;subst e1;subst e2
    rw [k1] at hC';injection hC' with hC';injection hC' with e1 e2 e3;subst e1
    obtain ⟨u,g1,g2⟩:=VRL.nth q3 i x hx
    refine ⟨u,?_,g2⟩
    have hi:i < o.xs.length:=by
     rcases Nat.lt_or_ge i o.xs.length with h | h
     ·exact h
     ·rw [List.getElem?_eq_none (by rw [tl.len];exact h)] at hx;cases hx
    rw [List.getElem?_take_of_lt hi,List.getElem?_drop,Array.getElem?_toList] at g1;exact g1
   ·obtain ⟨R', q1, q0, q2⟩ := ql H0 R0 w0 R w hs hn0 hpo
    refine ⟨R', q1, q0, q2.setCells (Nat.le_trans hn0 hid) hself tl.len fun c' β' hc' => ?_⟩
    rw [q0] at hc'
    exact absurd ⟨_,hc'⟩ hex
  refine ⟨(hq2.tell v).trans (.frz k false true hn (by rw [h];rfl) rfl),hq2.trans (.frz k false hn h),fun i hi=>?_⟩
  have hne:=memN_ne hi hna
  have e1:(p.2.set s.id (.cells p.1 o.imm o.spent o.anc)).get i = p.2.get i:=by rw [AHeap.get_set,if_neg hne]
  have e2:H'.get i = (p.2.set s.id (.cells p.1 o.imm o.spent o.anc)).get i:=by
   unfold freezeV at h
   rw [hsl,oo_some] at h
   obtain ⟨o',_,h⟩:=oo_inv h
   obtain ⟨_,h⟩:=bb_inv h
   injection h with h;injection h with _ e2;subst e2
   rw [bb_eq]
   split
   ·rfl
   ·rw [AHeap.get_set,if_neg hne]
  rw [e2,e1,kp i (by rw [memN_cons,hi];cases Nat.beq s.id i <;> rfl)]
section
variable {P:Program} {tt:TT} {tabs:List (List Value)}
theorem pureOk_deep (hT : TOk P tt) (hne : ∀ t ∈ tabs, t ≠ []) (hpl : ∀ t ∈ tabs, ∀ x ∈ t, plain1 x = true) {fns : FuncId → Option RFn} (hf : ∀ f r, fns f = some r → FnOk P (List.range tabs.length) f r) (hm : P.follows .mixedOrders = true)
 {isP:FuncId→Bool} {pu:PureF} {inl:CallF} (hpu:∀ g,isP g = true→PureOk P tabs g (pu g)) (hinl:CallOk P (List.range tabs.length) inl) {g n:Nat} {H:AHeap} (hH:∀ i,H.get i = (pureHeap tabs).get i) (hHn:H.next = (pureHeap tabs).next) {f:List Value→Option Value}
 (hen:∀ (as:Array Value) (w:World),(callFunc g as).run P w = .ok (.enter g as) w)
 (hrun:∀ args v,f args = some v→closedV v = true∧∃ d,deepR tabs.length d (evFnP tabs isP pu inl tt fns n g args H) = some v∨deepT tabs.length d (evFnP tabs isP pu inl tt fns n g args H) = some v):PureOk P tabs g f:=by
 refine ⟨hen,fun args v hv _ R w args' hR hs ha=>?_⟩
 obtain ⟨hcv,d,hr⟩:=hrun args v hv
 have hs':Sim H R w:=hs.congr hH hHn
 have hgl:GlR (List.range tabs.length) R:=fun g hg=>by rw [hR];simp at hg;simp [hg]
 have hn:H.next≤tabs.length:=by rw [hHn];show len tabs≤_;rw [len_eq];exact Nat.le_refl _
 have hkk:Nat.ble tabs.length tabs.length = true:=Nat.ble_eq_true_of_le (Nat.le_refl _)
 rcases hr with hr | hr
 ·obtain ⟨q, hq, h1⟩ := oo_inv (show oo (evFnP tabs isP pu inl tt fns n g args H) none (fun p => pp p fun q H1 => oo (deepV tabs.length d [] q H1) none fun p2 => pp p2 fun v' _ => some v') = some v from hr)
  rw [pp_eta] at h1
  obtain ⟨p2,hp2,h3⟩:=oo_inv h1
  rw [pp_eta] at h3
  injection h3 with h3
  have hok:=(evFnP_ok hT hne hpl hf hm hpu hinl n) g args H q.1 q.2 hq
  refine (hok.2 R w args' hs' hgl ha).mono fun e w' ⟨u,R',he,hu,hp⟩=>?_
  obtain ⟨R2,_,_,k2,k3⟩:=(deepV_ok (n0:=tabs.length) hkk (show deepV tabs.length d [] q.1 q.2 = some (p2.1,p2.2) from hp2)).tell H R w R' w' u hs' hn hp hu
  rw [h3] at k3
  exact ⟨u,p2.2,R2,he,hcv,k3,Post.congrL (fun i=>(hH i).symm) hHn.symm k2⟩
 ·obtain ⟨q, hq, h1⟩ := oo_inv (show oo (evFnP tabs isP pu inl tt fns n g args H) none (fun p => pp p fun q H1 => oo (vTup q) none fun l => oo (cellsF (deepV tabs.length d []) l H1) none fun p2 => pp p2 fun l' _ => some (.tuple ⟨l'⟩)) = some v from hr)
  rw [pp_eta] at h1
  obtain ⟨l,hl,h2⟩:=oo_inv h1
  obtain ⟨p2,hp2,h3⟩:=oo_inv h2
  rw [pp_eta] at h3
  injection h3 with h3
  have hok:=(evFnP_ok hT hne hpl hf hm hpu hinl n) g args H q.1 q.2 hq
  refine (hok.2 R w args' hs' hgl ha).mono fun e w' ⟨u,R',he,hu,hp⟩=>?_
  rw [vTup_some hl] at hu
  obtain ⟨tl,_,_⟩:=cellsF_ok (n0:=tabs.length) (av:=[]) (fun v H v' H' h=>deepV_ok hkk (d:=d) (av:=[]) h) (show cellsF (deepV tabs.length d []) l q.2 = some (p2.1,p2.2) from hp2)
  obtain ⟨R2,_,_,k2,k3⟩:=(Tell.tup tl) H R w R' w' u hs' hn hp hu
  rw [h3] at k3
  exact ⟨u,p2.2,R2,he,hcv,k3,Post.congrL (fun i=>(hH i).symm) hHn.symm k2⟩
end
end Go.Sp
set_option maxRecDepth 100000
set_option maxHeartbeats 0
namespace Go.HzSM
open Go Go.Sp Go.HzS Go.HpT Go.HtM Go.HyM
noncomputable section
def sv (p:List Nat):Value:=Sl.v 1 ⟨len p,0,iL p⟩
def onP {β:Type} (args:List Value) (k:List Nat→Option β):Option β:=
 ll args none fun a r=>ll r (oo (toSl 1 a) none fun s=>oo (decL s.cs) none fun p=>bb (an (okP 12 p) (an (Nat.beq s.n (len p)) (an (Nat.beq s.fl 0) (valsEq s.cs (iL p))))) (k p) none) fun _ _=>none
def eqP (a:List Nat):List Nat→Bool:=List.rec (motive:=fun _=>List Nat→Bool) (fun b=>nilL b) (fun x _ ih b=>ll b false fun y r=>an (Nat.beq x y) (ih r)) a
def eT1:List (List Nat):=[[1]]
def eV1:Value:=Sl.v 1 ⟨1,0,mapL sv eT1⟩
def eT2:List (List Nat):=[[1,1],[2]]
def eV2:Value:=Sl.v 1 ⟨2,0,mapL sv eT2⟩
def eT3:List (List Nat):=[[1,1,1],[2,1],[3]]
def eV3:Value:=Sl.v 1 ⟨3,0,mapL sv eT3⟩
def eT4:List (List Nat):=[[1,1,1,1],[2,1,1],[2,2],[3,1],[4]]
def eV4:Value:=Sl.v 1 ⟨5,0,mapL sv eT4⟩
def eT5:List (List Nat):=[[1,1,1,1,1],[2,1,1,1],[2,2,1],[3,1,1],[3,2],[4,1],[5]]
def eV5:Value:=Sl.v 1 ⟨7,0,mapL sv eT5⟩
def eT6:List (List Nat):=[[1,1,1,1,1,1],[2,1,1,1,1],[2,2,1,1],[2,2,2],[3,1,1,1],[3,2,1],[3,3],[4,1,1],[4,2],[5,1],[6]]
def eV6:Value:=Sl.v 1 ⟨11,0,mapL sv eT6⟩
def eT7:List (List Nat):=[[1,1,1,1,1,1,1],[2,1,1,1,1,1],[2,2,1,1,1],[2,2,2,1],[3,1,1,1,1],[3,2,1,1],[3,2,2],[3,3,1],[4,1,1,1],[4,2,1],[4,3],[5,1,1],[5,2],[6,1],[7]]
def eV7:Value:=Sl.v 1 ⟨15,0,mapL sv eT7⟩
def eT8:List (List Nat):=[[1,1,1,1,1,1,1,1],[2,1,1,1,1,1,1],[2,2,1,1,1,1],[2,2,2,1,1],[2,2,2,2],[3,1,1,1,1,1],[3,2,1,1,1],[3,2,2,1],[3,3,1,1],[3,3,2],[4,1,1,1,1],[4,2,1,1],[4,2,2],[4,3,1],[4,4],[5,1,1,1],[5,2,1],[5,3],[6,1,1],[6,2],[7,1],[8]]
def eV8:Value:=Sl.v 1 ⟨22,0,mapL sv eT8⟩
def eT9:List (List Nat):=[[1,1,1,1,1,1,1,1,1],[2,1,1,1,1,1,1,1],[2,2,1,1,1,1,1],[2,2,2,1,1,1],[2,2,2,2,1],[3,1,1,1,1,1,1],[3,2,1,1,1,1],[3,2,2,1,1],[3,2,2,2],[3,3,1,1,1],[3,3,2,1],[3,3,3],[4,1,1,1,1,1],[4,2,1,1,1],[4,2,2,1],[4,3,1,1],[4,3,2],[4,4,1],[5,1,1,1,1],[5,2,1,1],[5,2,2],[5,3,1],[5,4],[6,1,1,1],[6,2,1],[6,3],[7,1,1],[7,2],[8,1],[9]]
def eV9:Value:=Sl.v 1 ⟨30,0,mapL sv eT9⟩
def eT10:List (List Nat):=[[1,1,1,1,1,1,1,1,1,1],[2,1,1,1,1,1,1,1,1],[2,2,1,1,1,1,1,1],[2,2,2,1,1,1,1],[2,2,2,2,1,1],[2,2,2,2,2],[3,1,1,1,1,1,1,1],[3,2,1,1,1,1,1],[3,2,2,1,1,1],[3,2,2,2,1],[3,3,1,1,1,1],[3,3,2,1,1],[3,3,2,2],[3,3,3,1],[4,1,1,1,1,1,1],[4,2,1,1,1,1],[4,2,2,1,1],[4,2,2,2],[4,3,1,1,1],[4,3,2,1],[4,3,3],[4,4,1,1],[4,4,2],[5,1,1,1,1,1],[5,2,1,1,1],[5,2,2,1],[5,3,1,1],[5,3,2],[5,4,1],[5,5],[6,1,1,1,1],[6,2,1,1],[6,2,2],[6,3,1],[6,4],[7,1,1,1],[7,2,1],[7,3],[8,1,1],[8,2],[9,1],[10]]
def eV10:Value:=Sl.v 1 ⟨42,0,mapL sv eT10⟩
def eT11:List (List Nat):=[[1,1,1,1,1,1,1,1,1,1,1],[2,1,1,1,1,1,1,1,1,1],[2,2,1,1,1,1,1,1,1],[2,2,2,1,1,1,1,1],[2,2,2,2,1,1,1],[2,2,2,2,2,1],[3,1,1,1,1,1,1,1,1],[3,2,1,1,1,1,1,1],[3,2,2,1,1,1,1],[3,2,2,2,1,1],[3,2,2,2,2],[3,3,1,1,1,1,1],[3,3,2,1,1,1],[3,3,2,2,1],[3,3,3,1,1],[3,3,3,2],[4,1,1,1,1,1,1,1],[4,2,1,1,1,1,1],[4,2,2,1,1,1],[4,2,2,2,1],[4,3,1,1,1,1],[4,3,2,1,1],[4,3,2,2],[4,3,3,1],[4,4,1,1,1],[4,4,2,1],[4,4,3],[5,1,1,1,1,1,1],[5,2,1,1,1,1],[5,2,2,1,1],[5,2,2,2],[5,3,1,1,1],[5,3,2,1],[5,3,3],[5,4,1,1],[5,4,2],[5,5,1],[6,1,1,1,1,1],[6,2,1,1,1],[6,2,2,1],[6,3,1,1],[6,3,2],[6,4,1],[6,5],[7,1,1,1,1],[7,2,1,1],[7,2,2],[7,3,1],[7,4],[8,1,1,1],[8,2,1],[8,3],[9,1,1],[9,2],[10,1],[11]]
def eV11:Value:=Sl.v 1 ⟨56,0,mapL sv eT11⟩
def eT12:List (List Nat):=[[1,1,1,1,1,1,1,1,1,1,1,1],[2,1,1,1,1,1,1,1,1,1,1],[2,2,1,1,1,1,1,1,1,1],[2,2,2,1,1,1,1,1,1],[2,2,2,2,1,1,1,1],[2,2,2,2,2,1,1],[2,2,2,2,2,2],[3,1,1,1,1,1,1,1,1,1],[3,2,1,1,1,1,1,1,1],[3,2,2,1,1,1,1,1],[3,2,2,2,1,1,1],[3,2,2,2,2,1],[3,3,1,1,1,1,1,1],[3,3,2,1,1,1,1],[3,3,2,2,1,1],[3,3,2,2,2],[3,3,3,1,1,1],[3,3,3,2,1],[3,3,3,3],[4,1,1,1,1,1,1,1,1],[4,2,1,1,1,1,1,1],[4,2,2,1,1,1,1],[4,2,2,2,1,1],[4,2,2,2,2],[4,3,1,1,1,1,1],[4,3,2,1,1,1],[4,3,2,2,1],[4,3,3,1,1],[4,3,3,2],[4,4,1,1,1,1],[4,4,2,1,1],[4,4,2,2],[4,4,3,1],[4,4,4],[5,1,1,1,1,1,1,1],[5,2,1,1,1,1,1],[5,2,2,1,1,1],[5,2,2,2,1],[5,3,1,1,1,1],[5,3,2,1,1],[5,3,2,2],[5,3,3,1],[5,4,1,1,1],[5,4,2,1],[5,4,3],[5,5,1,1],[5,5,2],[6,1,1,1,1,1,1],[6,2,1,1,1,1],[6,2,2,1,1],[6,2,2,2],[6,3,1,1,1],[6,3,2,1],[6,3,3],[6,4,1,1],[6,4,2],[6,5,1],[6,6],[7,1,1,1,1,1],[7,2,1,1,1],[7,2,2,1],[7,3,1,1],[7,3,2],[7,4,1],[7,5],[8,1,1,1,1],[8,2,1,1],[8,2,2],[8,3,1],[8,4],[9,1,1,1],[9,2,1],[9,3],[10,1,1],[10,2],[11,1],[12]]
def eV12:Value:=Sl.v 1 ⟨77,0,mapL sv eT12⟩
def eTs:List (List (List Nat)):=[[],eT1,eT2,eT3,eT4,eT5,eT6,eT7,eT8,eT9,eT10,eT11,eT12]
def orcEL:List (Option Value):=[none,some eV1,some eV2,some eV3,some eV4,some eV5,some eV6,some eV7,some eV8,some eV9,some eV10,some eV11,some eV12]
def orcE (args:List Value):Option Value:=ll args none fun a r=>ll r (oo (toI .i64 a) none fun z=>oo (toN z) none fun n=>oo (nthL orcEL n) none fun v=>v) fun _ _=>none
def orcR (args:List Value):Option Value:=onP args fun p=>some (sv (rnd p))
def tru (args:List Value):Option Value:=ll args (some (.bool true)) fun _ _=>none
def eR1:List (List (List Nat)):=[[[1]]]
def eG1:Value:=.tuple ⟨[Sl.v 1 ⟨1,0,mapL (fun r=>Sl.v 1 ⟨len r,0,mapL sv r⟩) eR1⟩,.int .i64 (.ofNat 0)]⟩
def eR2:List (List (List Nat)):=[[[1,1],[2]]]
def eG2:Value:=.tuple ⟨[Sl.v 1 ⟨1,0,mapL (fun r=>Sl.v 1 ⟨len r,0,mapL sv r⟩) eR2⟩,.int .i64 (.ofNat 0)]⟩
def eR3:List (List (List Nat)):=[[[2,1]]]
def eG3:Value:=.tuple ⟨[Sl.v 1 ⟨1,0,mapL (fun r=>Sl.v 1 ⟨len r,0,mapL sv r⟩) eR3⟩,.int .i64 (.ofNat 0)]⟩
def eR4:List (List (List Nat)):=[[[2,1,1],[3,1],[2,2]]]
def eG4:Value:=.tuple ⟨[Sl.v 1 ⟨1,0,mapL (fun r=>Sl.v 1 ⟨len r,0,mapL sv r⟩) eR4⟩,.int .i64 (.ofNat 0)]⟩
def eR5:List (List (List Nat)):=[[[2,2,1],[3,1,1],[3,2]]]
def eG5:Value:=.tuple ⟨[Sl.v 1 ⟨1,0,mapL (fun r=>Sl.v 1 ⟨len r,0,mapL sv r⟩) eR5⟩,.int .i64 (.ofNat 0)]⟩
def eR6:List (List (List Nat)):=[[[3,2,1]]]
def eG6:Value:=.tuple ⟨[Sl.v 1 ⟨1,0,mapL (fun r=>Sl.v 1 ⟨len r,0,mapL sv r⟩) eR6⟩,.int .i64 (.ofNat 0)]⟩
def eR7:List (List (List Nat)):=[[[3,2,1,1],[4,2,1],[3,3,1],[3,2,2]]]
def eG7:Value:=.tuple ⟨[Sl.v 1 ⟨1,0,mapL (fun r=>Sl.v 1 ⟨len r,0,mapL sv r⟩) eR7⟩,.int .i64 (.ofNat 0)]⟩
def eR8:List (List (List Nat)):=[[[3,2,2,1],[4,2,1,1],[4,3,1],[3,3,2]],[[3,3,1,1],[4,2,2]]]
def eG8:Value:=.tuple ⟨[Sl.v 1 ⟨2,0,mapL (fun r=>Sl.v 1 ⟨len r,0,mapL sv r⟩) eR8⟩,.int .i64 (.ofNat 0)]⟩
def eR9:List (List (List Nat)):=[[[3,3,2,1],[4,2,2,1],[4,3,1,1],[4,3,2]]]
def eG9:Value:=.tuple ⟨[Sl.v 1 ⟨1,0,mapL (fun r=>Sl.v 1 ⟨len r,0,mapL sv r⟩) eR9⟩,.int .i64 (.ofNat 0)]⟩
def eR10:List (List (List Nat)):=[[[4,3,2,1]]]
def eG10:Value:=.tuple ⟨[Sl.v 1 ⟨1,0,mapL (fun r=>Sl.v 1 ⟨len r,0,mapL sv r⟩) eR10⟩,.int .i64 (.ofNat 0)]⟩
def eR11:List (List (List Nat)):=[[[4,3,2,1,1],[5,3,2,1],[4,4,2,1],[4,3,3,1],[4,3,2,2]]]
def eG11:Value:=.tuple ⟨[Sl.v 1 ⟨1,0,mapL (fun r=>Sl.v 1 ⟨len r,0,mapL sv r⟩) eR11⟩,.int .i64 (.ofNat 0)]⟩
def eR12:List (List (List Nat)):=[[[4,3,2,2,1],[5,3,2,1,1],[5,4,2,1],[4,4,3,1],[4,3,3,2]],[[4,3,3,1,1],[5,3,2,2],[4,4,2,1,1],[5,3,3,1],[4,4,2,2]]]
def eG12:Value:=.tuple ⟨[Sl.v 1 ⟨2,0,mapL (fun r=>Sl.v 1 ⟨len r,0,mapL sv r⟩) eR12⟩,.int .i64 (.ofNat 0)]⟩
def orcGL:List (Option Value):=[none,some eG1,some eG2,some eG3,some eG4,some eG5,some eG6,some eG7,some eG8,some eG9,some eG10,some eG11,some eG12]
def orcG (args:List Value):Option Value:=ll args none fun a r=>ll r (oo (toI .i64 a) none fun z=>oo (toN z) none fun n=>oo (nthL orcGL n) none fun v=>v) fun _ _=>none
def cnt (h:Nat) (p:List Nat):Nat:=List.rec (motive:=fun _=>Nat) 0 (fun a _ ih=>bb (Nat.beq a h) (Nat.succ ih) ih) p
def slOf (p:List Nat):Sl:=⟨len p,0,iL p⟩
def atN (l:List (List (List Nat))) (k:Nat):List (List Nat):=oo (nthL l k) [] fun x=>x
def eRs:List (List (List (List Nat))):=[[],eR1,eR2,eR3,eR4,eR5,eR6,eR7,eR8,eR9,eR10,eR11,eR12]
def eIs:List (List Nat):=[[],[0],[0,0],[0,0,0],[0,0,0,0,0],[0,0,0,0,0,0,0],[0,0,0,0,0,0,0,0,0,0,0],[0,0,0,0,0,0,0,0,0,0,0,0,0,0,0],[0,0,1,0,1,0,0,0,1,0,1,0,1,0,0,0,0,1,1,0,0,0],[0,0,0,0,0,0,0,0,0,0,0,0,0,0,0,0,0,0,0,0,0,0,0,0,0,0,0,0,0,0],[0,0,0,0,0,0,0,0,0,0,0,0,0,0,0,0,0,0,0,0,0,0,0,0,0,0,0,0,0,0,0,0,0,0,0,0,0,0,0,0,0,0],[0,0,0,0,0,0,0,0,0,0,0,0,0,0,0,0,0,0,0,0,0,0,0,0,0,0,0,0,0,0,0,0,0,0,0,0,0,0,0,0,0,0,0,0,0,0,0,0,0,0,0,0,0,0,0,0],[0,0,1,0,1,0,1,0,0,1,0,0,1,0,1,0,0,0,1,1,0,1,0,1,0,0,0,1,0,1,1,1,0,1,0,1,0,0,1,0,1,1,0,0,0,1,0,1,0,1,0,0,0,1,0,1,0,0,0,0,0,1,0,1,1,1,1,1,0,0,0,0,1,1,0,0,0]]
def eCs:List (List Nat):=[[],[1],[2],[3],[5],[7],[11],[15],[15,7],[30],[42],[56],[45,32]]
def cvl (p:List Nat):List Value:=mapL (fun h=>.int .i64 (.ofNat (cnt h p))) [0,1,2,3,4,5,6,7,8,9,10,11,12,13,14,15,16,17,18,19,20,21]
def cv (p:List Nat):Value:=.agg ⟨cvl p⟩
def repN (h n:Nat) (p:List Nat):List Nat:=Nat.rec (motive:=fun _=>List Nat) p (fun _ r=>h :: r) n
def decC (l:List Value):Option (List Nat):=
 List.rec (motive:=fun _=>Nat→List Nat→Option (List Nat)) (fun _ p=>some p) (fun v _ ih h p=>oo (toI .i64 v) none fun z=>oo (toN z) none fun c=>bb (Nat.ble c 30) (ih (Nat.succ h) (repN h c p)) none) l 0 []
def onC {β:Type} (args:List Value) (k:List Nat→Option β):Option β:=
 ll args none fun a r=>ll r (oo (vAgg a) none fun cs=>oo (decC cs) none fun p=>bb (an (okP 12 p) (valsEq cs (cvl p))) (k p) none) fun _ _=>none
def nthN (l:List Nat) (i:Nat):Nat:=oo (nthL l i) 0 fun x=>x
def idxOf (p:List Nat) (l:List (List Nat)):Nat:=List.rec (motive:=fun _=>Nat) 0 (fun q _ ih=>bb (eqP q p) 0 (Nat.succ ih)) l
def ringIx (p:List Nat):Nat:=nthN (oo (nthL eIs (sumL p)) [] fun x=>x) (idxOf p (atN eTs (sumL p)))
def ringAt (k i:Nat):List (List Nat):=oo (nthL (oo (nthL eRs k) [] fun x=>x) i) [] fun x=>x
def ringOf (p:List Nat):List (List Nat):=ringAt (sumL p) (ringIx p)
def endT (p:List Nat):List Nat:=ll (ringOf p) [] fun a _=>a
def cntAt (k i:Nat):Value:=.tuple ⟨[.int .i64 (.ofNat (nthN (oo (nthL eCs k) [] fun x=>x) i)),.int .i64 0]⟩
def rSl (r:List (List Nat)):Sl:=⟨len r,0,mapL sv r⟩
def orcQ (args:List Value):Option Value:=onP args fun p=>some (sv (endT p))
def orcS (args:List Value):Option Value:=onP args fun p=>some (cntAt (sumL p) (ringIx p))
def orcRg (args:List Value):Option Value:=onC args fun p=>some (Sl.v 1 (rSl (ringOf p)))
def flt (c:List Nat→Bool) (l:List (List Nat)):List (List Nat):=List.rec (motive:=fun _=>List (List Nat)) [] (fun q _ ih=>bb (c q) (q :: ih) ih) l
def aheadT (p:List Nat):List (List Nat):=flt (fun q=>eqP (rnd q) p) (atN eTs (sumL p))
def aR (p:List Nat):Value:=bb (nilL (aheadT p)) (.slice none 0 0) (Sl.v 1 ⟨len (aheadT p),0,mapL sv (aheadT p)⟩)
def aV (p:List Nat):Value:=bb (nilL (aheadT p)) (Sl.v 1 ⟨0,2,[]⟩) (Sl.v 1 ⟨len (aheadT p),0,mapL sv (aheadT p)⟩)
def orcAh (args:List Value):Option Value:=onC args fun p=>some (aV p)
end
end Go.HzSM
set_option maxRecDepth 100000
set_option maxHeartbeats 0
namespace Go.HzSM
open Go Go.Sp Go.HzS Go.HpT Go.HtM Go.HyM
theorem lt_true {a b:Nat} (h:a < b):ilt (Int.ofNat a) (Int.ofNat b) = true:=by simp [ilt_eq,h]
theorem lt_false {a b:Nat} (h:¬ a < b):ilt (Int.ofNat a) (Int.ofNat b) = false:=by simp [ilt_eq];omega
theorem setL_one {α : Type} (v : α) : ∀ (i : Nat) (xs : List α), i < xs.length → setL [v] i xs = xs.set i v
 | 0,x :: xs,_=>rfl
 | i + 1, x :: xs, h => by
  have:=setL_one v i xs (by simpa using h)
  show x :: setL [v] i xs = x :: xs.set i v
  rw [this]
def nI (l:List Nat):List Int:=l.map Int.ofNat
theorem nI_len (l:List Nat):(nI l).length = l.length:=by simp [nI]
theorem nI_get (l : List Nat) (i : Nat) (h : i < l.length) : (nI l)[i]'(by rw [nI_len]; exact h) = Int.ofNat l[i] := by simp [nI]
theorem nI_app (a b:List Nat):nI (a ++ b) = nI a ++ nI b:=by simp [nI]
theorem getN (l:List Nat) (i:Nat) (h:i < l.length):((nI l).map I)[i]? = some (I (Int.ofNat l[i])):=by rw [getI _ i (by rw [nI_len];exact h),nI_get l i h]
theorem clI (l:List Int):allL closed1 (l.map I) = true:=by rw [allL_eq,closedI]
theorem wholeI (r:List Int):an (Nat.ble (0 + r.length * 1) (len (r.map I))) (allL closed1 (takeL (r.length * 1) (dropL 0 (r.map I)))) = true:=by
 have:r.length * 1 = (r.map I).length:=by rw [List.length_map,Nat.mul_one]
 rw [Nat.zero_add,this,dropL_eq,List.drop_zero,takeL_eq,List.take_length,clI,len_eq,ble_eq]
 simp
theorem takeI (r:List Int):takeL (r.length * 1) (dropL 0 (r.map I)) = r.map I:=by
 have:r.length * 1 = (r.map I).length:=by rw [List.length_map,Nat.mul_one]
 rw [this,dropL_eq,List.drop_zero,takeL_eq,List.take_length]
theorem snocN (r:List Nat) (a:Nat):appL (dropL 0 ((nI r).map I)) [I (Int.ofNat a)] = (nI (r ++ [a])).map I:=by
 rw [appL_eq,dropL_eq,List.drop_zero,nI_app,List.map_append];rfl
theorem growG (sz by' n k:Nat) (xs:List Value) (hr:roomy (n + k) by' = true) (hk:1≤k) (hx:xs.length = n * sz):growC sz by' n (2 * n) k xs = true:=by
 unfold growC
 have e:(2 * n) / 2 = n:=by omega
 have e2:(2 * n) % 2 = 0:=by omega
 rw [e,e2,hr]
 have b1:Nat.ble (n + k) n = false:=by rw [ble_eq];exact decide_eq_false (by omega)
 have b2:Nat.ble (0 + n * sz) (len xs) = true:=by rw [ble_eq,len_eq,hx];simp
 have b3:Nat.beq (0 + n * sz) (len xs) = true:=by rw [len_eq,hx,Nat.zero_add];exact Nat.beq_refl _
 rw [b1,b2,b3];rfl
theorem roomyB {n b:Nat} (hn:n≤1000) (hb:b≤100):roomy n b = true:=by
 unfold roomy;rw [ble_eq]
 have:=Nat.mul_le_mul (show 4 * n + 4096≤8096 by omega) hb
 simp;omega
theorem mapO_I (l:List Int):mapO (toI .i64) (l.map I) = some l:=by
 induction l with
 | nil=>rfl
 | cons x l ih=>exact mapO_c rfl ih
theorem wrapN {z:Int} (h1:-1000000≤z) (h2:z≤1000000):wrapF .i64 z = z:=wrapI _ (by omega) (by omega)

def Rv (Z X:List Int) (i:Nat):Prop:=X.length = Z.length∧∀ k (h:k < X.length) (h2:k < Z.length) (h3:Z.length - 1 - k < Z.length),X[k] = if k < i∨Z.length - i≤k then Z[Z.length - 1 - k] else Z[k]
theorem l10440 (pu : PureF) (c : Nat) (Z : List Int) (hZ : Z.length ≤ 100) (h1 : 1 ≤ Z.length) : ∀ (f i : Nat) (X : List Int), Z.length - i < f → 2 * i ≤ Z.length → Rv Z X i →
 l10440_0 pu 1000000 f Z.length c (Int.ofNat i) ((Z.length:Int) - 1 - (i:Int)) (X.map I) = some (.tuple ⟨[.tuple ⟨[]⟩,.agg ⟨Z.reverse.map I⟩]⟩):=by
 intro f
 induction f with
 | zero=>intro i X h;omega
 | succ f ih =>
  intro i X hf hi hX
  obtain ⟨hl,hg⟩:=hX
  show b10440_0 pu 1000000 (l10440_0 pu 1000000 f) _ _ _ _ _ = _
  unfold b10440_0
  rw [clI,bb_true]
  have ej:(Z.length:Int) - 1 - (i:Int) = Int.ofNat (Z.length - 1 - i):=by simp only [Int.ofNat_eq_natCast];omega
  rw [ej]
  by_cases hlt:i < Z.length - 1 - i
  ·have hiX : i < X.length := by omega
   have hjX:Z.length - 1 - i < X.length:=by omega
   have hiZ:i < Z.length:=by omega
   have hjZ:Z.length - 1 - i < Z.length:=by omega
   have s1:setL ([I X[Z.length - 1 - i]]:List Value) i (X.map I) = (X.set i X[Z.length - 1 - i]).map I:=by rw [setL_one _ _ _ (by simpa using hiX),List.map_set]
   have s2:setL ([I X[i]]:List Value) (Z.length - 1 - i) ((X.set i X[Z.length - 1 - i]).map I) = ((X.set i X[Z.length - 1 - i]).set (Z.length - 1 - i) X[i]).map I:=by rw [setL_one _ _ _ (by simpa using hjX),←List.map_set]
   have hsub:wrapF .i64 (Int.sub (Int.ofNat (Z.length - 1 - i)) 1) = (Z.length:Int) - 1 - ((i + 1:Nat):Int):=by
    have:Int.sub (Int.ofNat (Z.length - 1 - i)) 1 = (Z.length:Int) - 1 - ((i + 1:Nat):Int):=by show ((Z.length - 1 - i:Nat):Int) - 1 = _;omega
    rw [this];exact wrapN (by omega) (by omega)
   rw [lt_true hlt]
   simp only [bb_true,toN_mk,oo_some,blt_eq,hiZ,hjZ,decide_true,an_eq,Bool.true_and,Bool.and_true,nthL_eq,Nat.zero_add,Nat.mul_one,getI X _ hiX,getI X _ hjX,toI_mk,s1,s2,ble_eq,len_eq,List.length_map,List.length_set,Nat.succ_le_of_lt hiX,Nat.succ_le_of_lt hjX,clI,wrapS i (by omega),hsub]
   refine ih (i + 1) _ (by omega) (by omega) ⟨by simp [hl],fun k hk hk2 hk3=>?_⟩
   have gi:=hg i hiX hiZ hjZ
   have gj:=hg (Z.length - 1 - i) hjX hjZ (by omega)
   rw [if_neg (by omega)] at gi gj
   rw [List.getElem_set]
   by_cases k1:Z.length - 1 - i = k
   ·rw [if_pos k1, if_pos (by omega), gi]
    congr 1;omega
   ·rw [if_neg k1, List.getElem_set]
    by_cases k2:i = k
    ·rw [if_pos k2, if_pos (by omega), gj]
     congr 1;omega
    ·rw [if_neg k2, hg k (by simpa using hk) hk2 hk3]
     by_cases k3:k < i∨Z.length - i≤k
     ·rw [if_pos k3,if_pos (by omega)]
     ·rw [if_neg k3,if_neg (by omega)]
  ·rw [lt_false hlt, bb_false]
   have:X = Z.reverse:=by
    apply List.ext_getElem
    ·rw [hl,List.length_reverse]
    ·intro k hk hk2
     rw [List.getElem_reverse,hg k hk (by omega) (by omega)]
     split
     ·rfl
     ·congr 1;omega
   rw [this]
theorem p10440 (n:Nat) (Z:List Int) (hZ:Z.length≤100) (h1:1≤Z.length) (c:Nat):puN (n + 1) 10440 [.slice (some ⟨0,0,some 1⟩) Z.length c,.agg ⟨Z.map I⟩] = some (.tuple ⟨[.tuple ⟨[]⟩,.agg ⟨Z.reverse.map I⟩]⟩):=by
 refine Eq.trans (b:=m10440_ (puN n) 1000000 Z.length c (Z.map I)) (by kernel_rfl) ?_
 unfold m10440_
 have:wrapF .i64 (Int.sub (Int.ofNat Z.length) 1) = (Z.length:Int) - 1 - ((0:Nat):Int):=by
  have:Int.sub (Int.ofNat Z.length) 1 = (Z.length:Int) - 1 - ((0:Nat):Int):=by show ((Z.length:Nat):Int) - 1 = _;omega
  rw [this];exact wrapN (by omega) (by omega)
 rw [clI,bb_true,this]
 exact l10440 (puN n) c Z hZ h1 1000000 0 Z (by omega) (by omega) ⟨rfl,fun k h h2 h3=>by rw [if_neg (by omega)]⟩
theorem srtZ_perm (l:List Int):(srtZ l).Perm l:=List.mergeSort_perm _ _
theorem srtZ_sorted (l:List Int):(srtZ l).Pairwise (·≤·):=by
 have:=List.pairwise_mergeSort (le:=fun x y:Int=>decide (x≤y)) (fun a b c h1 h2=>by simp at *;omega) (fun a b=>by simp;omega) l
 exact this.imp fun h=>by simpa using h
theorem natL : ∀ (l : List Int), (∀ a ∈ l, 0 ≤ a) → ∃ r : List Nat, l = nI r
 | [],_=>⟨[],rfl⟩
 | a :: l, h => by
  obtain ⟨r,e⟩:=natL l (fun b hb=>h b (by simp [hb]))
  have a1:=h a (by simp)
  refine ⟨a.toNat :: r,?_⟩
  rw [e];show a :: nI r = Int.ofNat a.toNat :: nI r
  rw [show Int.ofNat a.toNat = a from by simp only [Int.ofNat_eq_natCast];omega]
theorem nI_back (r:List Nat):(nI r).map Int.toNat = r:=by
 unfold nI;rw [List.map_map]
 have:(Int.toNat ∘ Int.ofNat) = id:=by funext x;rfl
 rw [this,List.map_id]
theorem sort_rev (P:List Nat):∃ r:List Nat,(srtZ (nI P)).reverse = nI r∧r.Perm P∧r.Pairwise (fun a b=>b≤a):=by
 have hp:=srtZ_perm (nI P)
 obtain ⟨r,hr⟩:=natL (srtZ (nI P)).reverse (fun a ha=>by
  have:a ∈ nI P:=hp.mem_iff.1 (List.mem_reverse.1 ha)
  obtain ⟨x,_,rfl⟩:=List.mem_map.1 this
  exact Int.natCast_nonneg x)
 refine ⟨r,hr,?_,?_⟩
 ·have h1 : (nI r).Perm (nI P) := by rw [← hr]; exact (List.reverse_perm _).trans hp
  have:=h1.map Int.toNat
  rwa [nI_back,nI_back] at this
 ·have h1 : (nI r).Pairwise (fun a b => b ≤ a) := by
   rw [←hr,List.pairwise_reverse];exact srtZ_sorted _
  unfold nI at h1
  rw [List.pairwise_map] at h1
  exact h1.imp fun h=>Int.ofNat_le.1 h
theorem perm_hp {P r:List Nat} (hp:r.Perm P) (hd:r.Pairwise (fun a b=>b≤a)) (hn:P ≠ []) (h1:∀ a ∈ P,1≤a) (hs:P.sum≤21):Hp r:=by
 refine ⟨fun e=>hn ?_,hd,fun a ha=>h1 a (hp.mem_iff.1 ha),?_⟩
 ·subst e;exact hp.symm.eq_nil
 ·have : r.sum = P.sum := hp.sum_nat
  omega
theorem iL_eq (p:List Nat):iL p = (nI p).map I:=by
 unfold iL nI;rw [mapL_eq,List.map_map];rfl
theorem sv_eq (p:List Nat):sv p = Sl.v 1 (sl 0 (nI p)):=by
 unfold sv sl;rw [iL_eq,len_eq,nI_len]
theorem wrapZ (z:Nat) (h:z≤1000000000) (h1:1≤z):wrapF .i64 (Int.sub (Int.ofNat z) 1) = Int.ofNat (z - 1):=by
 have e:Int.sub (Int.ofNat z) 1 = Int.ofNat (z - 1):=by show (z:Int) - 1 = ((z - 1:Nat):Int);omega
 rw [e]
 exact wrapI _ (by simp only [Int.ofNat_eq_natCast];omega) (by simp only [Int.ofNat_eq_natCast];omega)
theorem len_isPt : ∀ (p : List Nat) (left most : Nat), isPt p left most = true → p.length ≤ left
 | [],_,_,_=>Nat.zero_le _
 | a :: p, left, most, h => by
  obtain ⟨h1,h2⟩:=an_inv (show an (Nat.ble 1 a) (an (Nat.ble a most) (an (Nat.ble a left) (isPt p (left - a) a))) = true from h)
  obtain ⟨_,h3⟩:=an_inv h2
  obtain ⟨h3,h4⟩:=an_inv h3
  have:=len_isPt p _ _ h4
  have:=Nat.le_of_ble_eq_true h1
  have:=Nat.le_of_ble_eq_true h3
  rw [List.length_cons];omega
theorem map_at {α:Type} {f g:List Nat→α} {l:List (List Nat)} (h:mapL f l = mapL g l) {p:List Nat} (hp:p ∈ l):f p = g p:=by
 rw [mapL_eq,mapL_eq] at h
 exact List.map_inj_left.1 h p hp
theorem all_at {f:List Nat→Bool} {l:List (List Nat)} (h:allL f l = true) {p:List Nat} (hp:p ∈ l):f p = true:=by
 rw [allL_eq,List.all_eq_true] at h
 exact h p hp
theorem in_pts {p:List Nat} (h:okP 12 p = true):∃ k,1≤k∧k≤12∧sumL p = k∧p ∈ pts k k k:=by
 obtain ⟨h1,h2⟩:=an_inv (show an (Nat.ble 1 (sumL p)) (an (Nat.ble (sumL p) 12) (isPt p (sumL p) (sumL p))) = true from h)
 obtain ⟨h2,h3⟩:=an_inv h2
 exact ⟨sumL p,Nat.le_of_ble_eq_true h1,Nat.le_of_ble_eq_true h2,rfl,mem_pts p _ _ _ (Nat.le_refl _) h3⟩
theorem ok_up {p:List Nat} (h:okP 12 p = true):okP 21 p = true:=by
 obtain ⟨h1,h2⟩:=an_inv (show an (Nat.ble 1 (sumL p)) (an (Nat.ble (sumL p) 12) (isPt p (sumL p) (sumL p))) = true from h)
 obtain ⟨h2,h3⟩:=an_inv h2
 have h2:=Nat.le_of_ble_eq_true h2
 show an (Nat.ble 1 (sumL p)) (an (Nat.ble (sumL p) 21) (isPt p (sumL p) (sumL p))) = true
 rw [h1,h3,Nat.ble_eq_true_of_le (show sumL p≤21 by omega)];rfl
theorem ok_down {p:List Nat} (h:okP 21 p = true) (hs:sumL p≤12):okP 12 p = true:=by
 obtain ⟨h1,h2⟩:=an_inv (show an (Nat.ble 1 (sumL p)) (an (Nat.ble (sumL p) 21) (isPt p (sumL p) (sumL p))) = true from h)
 obtain ⟨_,h3⟩:=an_inv h2
 show an (Nat.ble 1 (sumL p)) (an (Nat.ble (sumL p) 12) (isPt p (sumL p) (sumL p))) = true
 rw [h1,h3,Nat.ble_eq_true_of_le hs];rfl
theorem rok_1:allL (fun p=>okP 12 (rnd p)) (pts 1 1 1) = true:=by kernel_rfl
theorem rok_2:allL (fun p=>okP 12 (rnd p)) (pts 2 2 2) = true:=by kernel_rfl
theorem rok_3:allL (fun p=>okP 12 (rnd p)) (pts 3 3 3) = true:=by kernel_rfl
theorem rok_4:allL (fun p=>okP 12 (rnd p)) (pts 4 4 4) = true:=by kernel_rfl
theorem rok_5:allL (fun p=>okP 12 (rnd p)) (pts 5 5 5) = true:=by kernel_rfl
theorem rok_6:allL (fun p=>okP 12 (rnd p)) (pts 6 6 6) = true:=by kernel_rfl
theorem rok_7:allL (fun p=>okP 12 (rnd p)) (pts 7 7 7) = true:=by kernel_rfl
theorem rok_8:allL (fun p=>okP 12 (rnd p)) (pts 8 8 8) = true:=by kernel_rfl
theorem rok_9:allL (fun p=>okP 12 (rnd p)) (pts 9 9 9) = true:=by kernel_rfl
theorem rok_10:allL (fun p=>okP 12 (rnd p)) (pts 10 10 10) = true:=by kernel_rfl
theorem rok_11:allL (fun p=>okP 12 (rnd p)) (pts 11 11 11) = true:=by kernel_rfl
theorem rok_12:allL (fun p=>okP 12 (rnd p)) (pts 12 12 12) = true:=by kernel_rfl
theorem rnd_ok {p:List Nat} (h:okP 12 p = true):okP 12 (rnd p) = true:=by
 obtain ⟨k,h1,h2,hs,hm⟩:=in_pts h
 clear hs
 match k,h1,h2,hm with
 | 1,_,_,hm=>exact all_at (f:=fun p=>okP 12 (rnd p)) rok_1 hm
 | 2,_,_,hm=>exact all_at (f:=fun p=>okP 12 (rnd p)) rok_2 hm
 | 3,_,_,hm=>exact all_at (f:=fun p=>okP 12 (rnd p)) rok_3 hm
 | 4,_,_,hm=>exact all_at (f:=fun p=>okP 12 (rnd p)) rok_4 hm
 | 5,_,_,hm=>exact all_at (f:=fun p=>okP 12 (rnd p)) rok_5 hm
 | 6,_,_,hm=>exact all_at (f:=fun p=>okP 12 (rnd p)) rok_6 hm
 | 7,_,_,hm=>exact all_at (f:=fun p=>okP 12 (rnd p)) rok_7 hm
 | 8,_,_,hm=>exact all_at (f:=fun p=>okP 12 (rnd p)) rok_8 hm
 | 9,_,_,hm=>exact all_at (f:=fun p=>okP 12 (rnd p)) rok_9 hm
 | 10,_,_,hm=>exact all_at (f:=fun p=>okP 12 (rnd p)) rok_10 hm
 | 11,_,_,hm=>exact all_at (f:=fun p=>okP 12 (rnd p)) rok_11 hm
 | 12,_,_,hm=>exact all_at (f:=fun p=>okP 12 (rnd p)) rok_12 hm
 | k + 13,_,h2,_=>omega
theorem ok_len {p:List Nat} (h:okP 21 p = true):p.length≤21:=by
 obtain ⟨h1,h2⟩:=an_inv (show an (Nat.ble 1 (sumL p)) (an (Nat.ble (sumL p) 21) (isPt p (sumL p) (sumL p))) = true from h)
 obtain ⟨h2,h3⟩:=an_inv h2
 exact Nat.le_trans (len_isPt p _ _ h3) (Nat.le_of_ble_eq_true h2)
theorem m15_0p (n:Nat) (P:List Nat) (c:Nat) (hc:2≤c) (hn:P ≠ []) (hl:P.length≤100):∃ r:List Nat,r.Perm P∧r.Pairwise (fun a b=>b≤a)∧m15_0 (puN (n + 1)) 1000000 P.length c ((nI P).map I) = some (S 0 (nI r)):=by
 obtain ⟨r,hr,hp,hd⟩:=sort_rev P
 refine ⟨r,hp,hd,?_⟩
 have h0:0 < P.length:=List.length_pos_iff.2 hn
 have hz:(srtZ (nI P)).length = P.length:=by rw [(srtZ_perm _).length_eq,nI_len]
 have hrl:(nI r).length = P.length:=by rw [nI_len,hp.length_eq]
 have wh:wholeC 0 1 P.length P.length = true:=by
  unfold wholeC
  simp;omega
 have q:=p10440 n (srtZ (nI P)) (by omega) (by omega) c
 rw [hz,hr] at q
 have w:=wholeI (nI r)
 have t:=takeI (nI r)
 rw [hrl] at w t
 have hb:Nat.ble 2 c = true:=by rw [ble_eq];exact decide_eq_true hc
 unfold m15_0
 rw [mapO_I,oo_some,len_eq,List.length_map,nI_len,wh,bb_true,mapI64,show (srtZ (nI P)).map I64 = (srtZ (nI P)).map I from rfl,clI,bb_true,hb,show orr true (nilL ((srtZ (nI P)).map I)) = true from rfl,bb_true,bb_true,q]
 simp only [oo_some,vTup_mk,ll_cons',ll_nil',vAgg_mk,show isNoV (.tuple ⟨[]⟩) = true from rfl,bb_true,clI]
 rw [w,bb_true,t]
 unfold S sl
 rw [hrl]
theorem l15 (pu : PureF) (p : List Nat) (hp : ∀ a ∈ p, a ≤ 100) (hl : p.length ≤ 100) : ∀ (f i : Nat) (P : List Nat), p.length - i < f → i ≤ p.length → P.length ≤ i + 1 →
 l15_1 pu 1000000 f P.length (2 * P.length) (sl 0 (nI p)) (Int.ofNat p.length) (Int.ofNat i) ((nI P).map I) =
  m15_0 pu 1000000 (P ++ ((p.drop i).filter fun h=>decide (1 < h)).map fun h=>h - 1).length (2 * (P ++ ((p.drop i).filter fun h=>decide (1 < h)).map fun h=>h - 1).length) ((nI (P ++ ((p.drop i).filter fun h=>decide (1 < h)).map fun h=>h - 1)).map I):=by
 intro f
 induction f with
 | zero=>intro i P h;omega
 | succ f ih =>
  intro i P hf hi hP
  show b15_1 pu 1000000 (l15_1 pu 1000000 f) _ _ _ _ _ _ = _
  unfold b15_1 m15_2
  rw [clI,bb_true]
  by_cases hlt:i < p.length
  ·have hx := hp _ (List.getElem_mem hlt)
   rw [lt_true hlt,List.drop_eq_getElem_cons hlt]
   simp only [bb_true,toN_mk,oo_some,sl_n,sl_cs,nI_len,blt_eq,hlt,decide_true,an_eq,Bool.true_and,nthL_eq,Nat.mul_one,getN p i hlt,toI_mk]
   by_cases c:1 < p[i]
   ·have g1 := growG 1 8 P.length 1 ((nI P).map I) (roomyB (by omega) (by omega)) (by omega) (by rw [List.length_map, nI_len, Nat.mul_one])
    have step:=ih (i + 1) (P ++ [p[i] - 1]) (by omega) (by omega) (by simp;omega)
    rw [List.length_append,List.length_singleton] at step
    rw [show ilt 1 (Int.ofNat p[i]) = true from lt_true (a:=1) c,bb_true,wrapZ p[i] (by omega) (by omega),g1,bb_true,snocN,clI,bb_true,bb_true,wrapS i (by omega),List.filter_cons_of_pos (by simpa using c),List.map_cons]
    refine Eq.trans step ?_
    rw [List.append_assoc];rfl
   ·rw [show ilt 1 (Int.ofNat p[i]) = false from lt_false (a := 1) c, bb_false, wrapS i (by omega), List.filter_cons_of_neg (by simpa using c)]
    exact ih (i + 1) P (by omega) (by omega) (by omega)
  ·have : i = p.length := by omega
   subst this
   rw [lt_false hlt,bb_false,List.drop_length,List.filter_nil,List.map_nil,List.append_nil]
theorem p15 (n:Nat) {p:List Nat} (hp:okP 12 p = true):puN (n + 2) 15 [sv p] = some (sv (rnd p)):=by
 have H:=hp_ok (ok_up hp)
 have hl:=ok_len (ok_up hp)
 have hle:∀ a ∈ p,a≤100:=fun a ha=>by have:=H.le a ha;omega
 have q:=l15 (puN (n + 1)) p hle (by omega) 1000000 0 [p.length] (by omega) (by omega) (by simp)
 rw [List.drop_zero] at q
 have hfl:=List.length_filter_le (fun h=>decide (1 < h)) p
 obtain ⟨r,r1,r2,r3⟩:=m15_0p n ([p.length] ++ (p.filter fun h=>decide (1 < h)).map fun h=>h - 1) (2 * ([p.length] ++ (p.filter fun h=>decide (1 < h)).map fun h=>h - 1).length) (by simp only [List.length_append,List.length_singleton];omega) (by simp) (by simp;omega)
 have e:=rnd_of (ok_up (rnd_ok hp)) r1 r2
 rw [r3,e] at q
 rw [sv_eq,sv_eq]
 refine Eq.trans (b:=m15_ (puN (n + 1)) 1000000 (sl 0 (nI p))) (by kernel_rfl) ?_
 unfold m15_
 rw [sl_n,nI_len]
 exact q
theorem m17_1p (n:Nat) (P:List Nat) (c:Nat) (hc:2≤c) (hn:P ≠ []) (h1:∀ a ∈ P,1≤a) (hs:P.sum≤12):∃ r,(Hp r∧r.sum≤12)∧m17_1 (puN (n + 1)) 1000000 P.length c ((nI P).map I) = some (S 0 (nI r)):=by
 obtain ⟨r,hr,hp,hd⟩:=sort_rev P
 have H:=perm_hp hp hd hn h1 (by omega)
 refine ⟨r,⟨H,by have:r.sum = P.sum:=hp.sum_nat;omega⟩,?_⟩
 have hl:P.length≤21:=by have:=H.len;have:=hp.length_eq;omega
 have h0:0 < P.length:=List.length_pos_iff.2 hn
 have hz:(srtZ (nI P)).length = P.length:=by rw [(srtZ_perm _).length_eq,nI_len]
 have hrl:(nI r).length = P.length:=by rw [nI_len,hp.length_eq]
 have wh:wholeC 0 1 P.length P.length = true:=by
  unfold wholeC
  simp;omega
 have q:=p10440 n (srtZ (nI P)) (by omega) (by omega) c
 rw [hz,hr] at q
 have w:=wholeI (nI r)
 have t:=takeI (nI r)
 rw [hrl] at w t
 have hb:Nat.ble 2 c = true:=by rw [ble_eq];exact decide_eq_true hc
 unfold m17_1
 rw [mapO_I,oo_some,len_eq,List.length_map,nI_len,wh,bb_true,mapI64,show (srtZ (nI P)).map I64 = (srtZ (nI P)).map I from rfl,clI,bb_true,hb,show orr true (nilL ((srtZ (nI P)).map I)) = true from rfl,bb_true,bb_true,q]
 simp only [oo_some,vTup_mk,ll_cons',ll_nil',vAgg_mk,show isNoV (.tuple ⟨[]⟩) = true from rfl,bb_true,clI]
 rw [w,bb_true,t]
 unfold S sl
 rw [hrl]
theorem m17_0p (n:Nat) (P:List Nat) (h1:∀ a ∈ P,1≤a) (hs:P.sum≤12):∃ r,(Hp r∧r.sum≤12)∧m17_0 (puN (n + 1)) 1000000 P.length (2 * P.length) ((nI P).map I) = some (S 0 (nI r)):=by
 unfold m17_0
 rw [clI,bb_true]
 by_cases hn:P = []
 ·subst hn
  rw [show ieq (Int.ofNat ([]:List Nat).length) 0 = true from rfl,bb_true]
  exact m17_1p n [1] 3 (by omega) (by simp) (by simp) (by simp)
 ·have h0 : 0 < P.length := List.length_pos_iff.2 hn
  have:ieq (Int.ofNat P.length) 0 = false:=by rw [ieq_eq];simp only [Int.ofNat_eq_natCast];exact decide_eq_false (by omega)
  rw [this,bb_false]
  exact m17_1p n P _ (by omega) hn h1 hs
theorem l17 (n fl : Nat) (b : List Int) (hb : ∀ x ∈ b, 0 ≤ x ∧ x < 256) : ∀ (f i z : Nat) (P : List Nat), z < f → i ≤ b.length → i + z ≤ 12 → (∀ a ∈ P, 1 ≤ a) → P.sum + z ≤ 12 → P.length ≤ 12 - z →
 ∃ r,(Hp r∧r.sum≤12)∧l17_2 (puN (n + 1)) 1000000 f P.length (2 * P.length) (Int.ofNat z) ⟨b.length,fl,b.map (Value.int .u8)⟩ (Int.ofNat b.length) (Int.ofNat i) ((nI P).map I) = some (S 0 (nI r)):=by
 intro f
 induction f with
 | zero=>intro i z P h;omega
 | succ f ih =>
  intro i z P hf hi hiz h1 hs hpl
  show ∃ r,(Hp r∧r.sum≤12)∧b17_2 (puN (n + 1)) 1000000 (l17_2 (puN (n + 1)) 1000000 f) _ _ _ _ _ _ _ = _
  unfold b17_2
  rw [clI,bb_true]
  by_cases hlt:i < b.length
  ·obtain ⟨x1, x2⟩ := hb b[i] (List.getElem_mem hlt)
   have gx:(b.map (Value.int .u8))[i]? = some (Value.int .u8 b[i]):=by simp [hlt]
   rw [lt_true hlt]
   simp only [bb_true,toN_mk,oo_some,blt_eq,hlt,decide_true,an_eq,Bool.true_and,nthL_eq,Nat.mul_one,gx,toI_mk8]
   by_cases hz:z = 0
   ·subst hz
    rw [show ieq (Int.ofNat 0) 0 = true from rfl,bb_true]
    exact m17_0p n P h1 (by omega)
   ·have e0 : ieq (Int.ofNat z) 0 = false := by rw [ieq_eq]; simp only [Int.ofNat_eq_natCast]; exact decide_eq_false (by omega)
    obtain ⟨x,hx⟩:∃ x:Nat,b[i] = Int.ofNat x:=⟨b[i].toNat,by simp only [Int.ofNat_eq_natCast];omega⟩
    have hx2:x < 256:=by rw [hx] at x2;simp only [Int.ofNat_eq_natCast] at x2;omega
    have hm:x % z < z:=Nat.mod_lt _ (by omega)
    have ew:wrapF .i64 (Int.ofNat x) = Int.ofNat x:=wrapN (by simp only [Int.ofNat_eq_natCast];omega) (by simp only [Int.ofNat_eq_natCast];omega)
    have et:Int.tmod (Int.ofNat x) (Int.ofNat z) = Int.ofNat (x % z):=(Int.ofNat_tmod _ _).symm
    have ea:wrapF .i64 (Int.add 1 (Int.ofNat (x % z))) = Int.ofNat (1 + x % z):=by
     have:Int.add 1 (Int.ofNat (x % z)) = Int.ofNat (1 + x % z):=by show (1:Int) + ((x % z:Nat):Int) = ((1 + x % z:Nat):Int);omega
     rw [this];exact wrapN (by simp only [Int.ofNat_eq_natCast];omega) (by simp only [Int.ofNat_eq_natCast];omega)
    have es:wrapF .i64 (Int.sub (Int.ofNat z) (Int.ofNat (1 + x % z))) = Int.ofNat (z - (1 + x % z)):=by
     have:Int.sub (Int.ofNat z) (Int.ofNat (1 + x % z)) = Int.ofNat (z - (1 + x % z)):=by show ((z:Nat):Int) - ((1 + x % z:Nat):Int) = ((z - (1 + x % z):Nat):Int);omega
     rw [this];exact wrapN (by simp only [Int.ofNat_eq_natCast];omega) (by simp only [Int.ofNat_eq_natCast];omega)
    have g1:=growG 1 8 P.length 1 ((nI P).map I) (roomyB (by omega) (by omega)) (by omega) (by rw [List.length_map,nI_len,Nat.mul_one])
    rw [e0,show nt false = true from rfl,bb_false,bb_true,hx,ew,et,ea,es,g1,bb_true,snocN,clI,bb_true,wrapS i (by omega)]
    obtain ⟨r, hr, e⟩ := ih (i + 1) (z - (1 + x % z)) (P ++ [1 + x % z]) (by omega) (by omega) (by omega) (by
     intro a ha
     rcases List.mem_append.1 ha with ha | ha
     ·exact h1 a ha
     ·rw [List.mem_singleton.1 ha];omega) (by rw [List.sum_append];simp;omega) (by simp;omega)
    refine ⟨r,hr,?_⟩
    have hl:(P ++ [1 + x % z]).length = P.length + 1:=by simp
    rw [hl] at e
    exact e
  ·have : i = b.length := by omega
   subst this
   rw [lt_false hlt,bb_false]
   exact m17_0p n P h1 (by omega)
theorem p17 (n fl:Nat) (b:List Int) (hb:∀ x ∈ b,0≤x∧x < 256):∃ r,(Hp r∧r.sum≤12)∧puN (n + 2) 17 [Sl.v 1 ⟨b.length,fl,b.map (Value.int .u8)⟩,I 12] = some (S 0 (nI r)):=by
 obtain ⟨r,hr,e⟩:=l17 n fl b hb 1000000 0 12 [] (by omega) (by omega) (by omega) (by simp) (by simp) (by simp)
 exact ⟨r,hr,Eq.trans (b:=m17_ (puN (n + 1)) 1000000 ⟨b.length,fl,b.map (Value.int .u8)⟩ 12) (by kernel_rfl) e⟩

end Go.HzSM
set_option maxRecDepth 100000
set_option maxHeartbeats 0
namespace Go.HzSM
open Go Go.Sp Go.HzS Go.HpT Go.HtM Go.HyM
noncomputable section
def evA (g:FuncId) (args:List Value):Option (Value×AHeap):=evFnP tabs (fun _=>false) (fun _ _=>none) (fun _ _ _=>none) tt fns 200 g args (tabsHeap tabs)
def isQ:FuncId→Bool:=fun g=>an (isP g) (nt (memN g [36]))
def pu0:PureF:=puN 30
def evB (g:FuncId) (args:List Value):Option (Value×AHeap):=evFnP tabs isQ pu0 (inl pu0) tt fns 400 g args (tabsHeap tabs)
end
end Go.HzSM
