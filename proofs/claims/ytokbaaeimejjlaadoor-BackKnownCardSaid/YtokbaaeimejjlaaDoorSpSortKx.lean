/- Made from wip. -/
import Derived.Test.YtokbaaeimejjlaaDoorSpWpx
import Derived.Test.YtokbaaeimejjlaaDoorSpClox
import Derived.RangeFuncFrom
import Derived.Sort.Grow
import Derived.Lib.SlicesCompact

namespace Go.Sp
open Go

theorem Post.grown {H H' : AHeap} {R R' : Ren} {w W W' : World} (hp : Post H R w H' R' W) {row : Option Nat} (hg : W.grownBy W' row)
 (hr:∀ r,row = some r→w.heap.size≤r∧∃ o:Obj,W.heap[r]? = some o∧o.isCells = false) (hcl:∀ id c β,R'.f id = some (c,β)→∃ C t fz,W.heap[c]? = some (.cells C t fz)):Post H R w H' R' W':=by
 have hkeep:∀ (c:Nat) C t fz,W.heap[c]? = some (Obj.cells C t fz)→W'.heap[c]? = W.heap[c]?:=fun c C t fz h=>by
  refine hg.block c (Array.getElem?_eq_some_iff.1 h).1 fun e=>?_
  obtain ⟨_,o,ho,hc⟩:=hr c e.symm
  rw [h] at ho;injection ho with ho;subst ho;cases hc
 have hold:∀ c,c < w.heap.size→W'.heap[c]? = W.heap[c]?:=fun c hc=>by
  refine hg.block c (Nat.lt_of_lt_of_le hc hp.grow) fun e=>?_
  have:=(hr c e.symm).1
  omega
 have hs:=hp.sim
 refine ⟨hp.le, hp.new, ⟨fun id c β h => ⟨(hs.dom id c β h).1, Nat.lt_of_lt_of_le (hs.dom id c β h).2 hg.size⟩, fun id c β h => ?_, hs.sep, hs.anc, hs.wf, fun c C h => ?_⟩,
  hp.next,Nat.le_trans hp.grow hg.size,fun c hc h=>(hold c hc).trans (hp.frame c hc h),hp.calm,hp.imm,hp.fresh,⟨hg.os.trans hp.side.1,hg.output.trans hp.side.2.1,fun a ha=>?_⟩,hp.rofresh⟩
 ·obtain ⟨C, t, fz, h1⟩ := hcl id c β h
  rw [hkeep c C t fz h1];exact hs.obj id c β h
 ·obtain ⟨⟨t, fz, h1⟩, h2⟩ := hs.ro c C h
  exact ⟨⟨t,fz,by rw [hkeep c C t fz h1];exact h1⟩,h2⟩
 ·rw [← hp.side.2.2 a ha]
  unfold World.frozen?
  rw [hold a.block ha]

def CellsOnly (H:AHeap):Prop:=∀ id,id < H.next→∃ xs imm spent anc,H.get id = .cells xs imm spent anc
theorem Sim.cellsOnly {H:AHeap} {R:Ren} {w:World} (hs:Sim H R w) (hc:CellsOnly H):∀ id c β,R.f id = some (c,β)→∃ C t fz,w.heap[c]? = some (.cells C t fz):=fun id c β h=>by
 obtain ⟨xs,imm,spent,anc,he⟩:=hc id (hs.dom id c β h).1
 have ho:=hs.obj id c β h
 rw [he] at ho
 obtain ⟨C,t,fz,k1,_⟩:=ho
 exact ⟨C,t,fz,k1⟩
theorem Post.keepsOthers {H H':AHeap} {R R':Ren} {W W':World} (hp:Post H R W H' R' W') (hcl:∀ id c β,R.f id = some (c,β)→∃ C t fz,W.heap[c]? = some (.cells C t fz)):KeepsOthers W W':=
 ⟨hp.grow,fun k o hk ho=>(hp.frame k (Array.getElem?_eq_some_iff.1 hk).1 fun id β h=>by
   obtain ⟨C,t,fz,h1⟩:=hcl id k β h
   rw [hk] at h1;injection h1 with h1;subst h1;cases ho).trans hk⟩
theorem Post.sameF {H H':AHeap} {R R':Ren} {W W':World} (hp:Post H R W H' R' W') (hn:H'.next = H.next):R'.f = R.f:=by
 funext id
 cases h:R'.f id with
 | none =>
  cases h':R.f id with
  | none=>rfl
  | some p=>have:=(hp.le.up id p.1 p.2 h').1;rw [h] at this;cases this
 | some p =>
  rcases hp.new id p h with h1 | ⟨_,h2⟩
  ·exact h1.symm
  ·have:=(hp.sim.dom id p.1 p.2 h).1;omega
theorem cell_new1 (W:World) (v:Value) (t:TypeId):(W.alloc (.cells #[v] t)).cell? ⟨W.heap.size,0,none⟩ = some v:=by
 unfold World.cell?
 simp only [World.alloc_heap_new]
 rfl
theorem cell_alloc1 {W:World} {b:Nat} {v:Value} (o:Obj) (h:W.cell? ⟨b,0,none⟩ = some v) (hb:b < W.heap.size):(W.alloc o).cell? ⟨b,0,none⟩ = some v:=by
 rw [World.cell?_of_block (w:=W) (a:=⟨b,0,none⟩) (by show (W.heap.push o)[b]? = _;rw [Array.getElem?_push,if_neg (by omega)])];exact h
theorem post_new {H : AHeap} {R : Ren} {w w1 : World} (hs : Sim H R w) (hb : ∀ c, c < w.heap.size → w1.heap[c]? = w.heap[c]?) (hsz : w.heap.size ≤ w1.heap.size) (hos : w1.os = w.os) (hout : w1.output = w.output)
 {g:Nat} {cur:Array Value} {t:TypeId} (hg:w1.heap[g]? = some (.cells cur t (0,0))) (hge:w.heap.size≤g) {xs:List Value} (hx:CellsR R xs 0 cur) (hl:xs.length≤cur.size) :
 Post H R w (H.push (.cells xs false false [])) ⟨fun i=>if i = H.next then some (g,0) else R.f i,fun c=>if c = g then cur.size else R.sz c,R.ro⟩ w1:=by
 have hnone:R.f H.next = none:=by
  cases h:R.f H.next with
  | none=>rfl
  | some p=>have:=(hs.dom H.next p.1 p.2 h).1;omega
 have hget:∀ j,(H.push (.cells xs false false [])).get j = if H.next = j then .cells xs false false [] else H.get j:=fun j=>AHeap.get_push _ _ _
 have hle:R.le ⟨fun i=>if i = H.next then some (g,0) else R.f i,fun c=>if c = g then cur.size else R.sz c,R.ro⟩:=⟨fun id c β h=>by
  have h1:=hs.dom id c β h
  refine ⟨?_,?_⟩
  ·show (if id = H.next then _ else _) = _
   rw [if_neg (by omega)];exact h
  ·show (if c = g then _ else _) = _
   rw [if_neg (by omega)],fun _ _ h=>h⟩
 have hcase:∀ {id c β},(if id = H.next then some (g,0) else R.f id) = some (c,β)→(id = H.next∧c = g∧β = 0)∨(id ≠ H.next∧R.f id = some (c,β)):=fun {id c β} h=>by
  split at h
  ·rename_i e;injection h with h;injection h with e1 e2;exact .inl ⟨e,e1.symm,e2.symm⟩
  ·rename_i e;exact .inr ⟨e,h⟩
 refine ⟨hle, fun id p h => ?_, ⟨fun id c β h => ?_, fun id c β h => ?_, fun id c β id' β' h h' hne hw => ?_, fun id a ha => ?_, fun id hid => ?_, fun c C h => ?_⟩, by rw [AHeap.next_push]; omega, hsz, fun c hc _ => hb c hc, fun id hid hr Q c β ob h => ?_, fun id hid _ => ?_, fun id c β h h' => ?_, ⟨hos, hout, fun a ha => ?_⟩, fun c C h => .inl h⟩
 ·rcases hcase (c := p.1) (β := p.2) h with ⟨rfl, _⟩ | ⟨_, h1⟩
  ·exact .inr ⟨hnone,Nat.le_refl _⟩
  ·exact .inl h1
 ·rw [AHeap.next_push]
  rcases hcase h with ⟨rfl,rfl,rfl⟩ | ⟨_,h1⟩
  ·exact ⟨by omega,(Array.getElem?_eq_some_iff.1 hg).1⟩
  ·have:=hs.dom id c β h1;exact ⟨by omega,by omega⟩
 ·rw [hget]
  rcases hcase h with ⟨rfl,rfl,rfl⟩ | ⟨hne,h1⟩
  ·rw [if_pos rfl]
   refine ⟨cur,t,(0,0),hg,?_,by omega,hx.mono hle,fun _=>rfl⟩
   show cur.size = if c = c then cur.size else R.sz c
   rw [if_pos rfl]
  ·rw [if_neg (fun e => hne e.symm), hb c (hs.dom id c β h1).2]
   exact (hs.obj id c β h1).mono hle (by
    show (if c = g then cur.size else R.sz c) = R.sz c
    rw [if_neg]
    have:=(hs.dom id c β h1).2;omega)
 ·rcases hcase h with ⟨e1, rfl, rfl⟩ | ⟨n1, h1⟩
  ·rcases hcase h' with ⟨e2, _, _⟩ | ⟨n2, h2⟩
   ·exact absurd (e1.trans e2.symm) hne
   ·have := (hs.dom id' _ β' h2).2; omega
  ·rcases hcase h' with ⟨e2, rfl, _⟩ | ⟨n2, h2⟩
   ·have:=(hs.dom id _ β h1).2;omega
   ·rw [hget id, if_neg (fun e => n1 e.symm)] at hw ⊢
    rw [hget id',if_neg (fun e=>n2 e.symm)]
    exact hs.sep id c β id' β' h1 h2 hne hw
 ·rw [AHeap.next_push]
  rw [hget] at ha
  split at ha
  ·cases ha
  ·obtain ⟨k1, k2, k3⟩ := hs.anc id a ha
   rw [hget,if_neg (by omega)]
   exact ⟨by omega,k2,k3⟩
 ·rw [AHeap.next_push] at hid
  rw [hget,if_neg (by omega)]
  exact hs.wf id (by omega)
 ·obtain ⟨⟨t', fz, h1⟩, h2⟩ := hs.ro c C h
  have hc:=(Array.getElem?_eq_some_iff.1 h1).1
  refine ⟨⟨t',fz,by rw [hb c hc];exact h1⟩,fun id β h'=>?_⟩
  rcases hcase h' with ⟨_,rfl,_⟩ | ⟨n1,h3⟩
  ·omega
  ·rw [hget,if_neg (fun e=>n1 e.symm)];exact h2 id β h3
 ·rw [hget,if_neg (by omega)];exact h
 ·rw [hget,if_neg (by omega)]
 ·rcases hcase h with ⟨_, rfl, _⟩ | ⟨_, h1⟩
  ·exact .inl hge
  ·rw [h1] at h';cases h'
 ·unfold World.frozen?
  rw [hb a.block ha]
theorem Post.congrR {H H' H2:AHeap} {R R':Ren} {w w':World} (hg:∀ i,H2.get i = H'.get i) (hn:H2.next = H'.next) (hp:Post H R w H' R' w'):Post H R w H2 R' w':=
 ⟨hp.le,hp.new,hp.sim.congr hg hn,by rw [hn];exact hp.next,hp.grow,hp.frame,fun id hi hr Q c β ob h=>by rw [hg];exact hp.calm id hi hr Q c β ob h,fun id hi h=>by rw [hg];exact hp.imm id hi h,hp.fresh,hp.side,hp.rofresh⟩
theorem post_below {H:AHeap} {R:Ren} {w w1:World} (hs:Sim H R w) (hb:RowKit.Below w.heap.size w w1):Post H R w H R w1:=by
 have hk:∀ c,c < w.heap.size→w1.heap[c]? = w.heap[c]?:=hb.block
 refine ⟨R.le_refl, fun _ _ h => .inl h, ⟨fun id c β h => ⟨(hs.dom id c β h).1, Nat.lt_of_lt_of_le (hs.dom id c β h).2 hb.size⟩, fun id c β h => by rw [hk c (hs.dom id c β h).2]; exact hs.obj id c β h, hs.sep, hs.anc, hs.wf, fun c C h => ?_⟩,
  Nat.le_refl _,hb.size,fun c hc _=>hk c hc,fun _ _ _ _ _ _ _ h=>h,fun _ _ _=>rfl,fun id c β h h'=>(by rw [h'] at h;cases h),⟨hb.os,hb.output,fun a ha=>?_⟩,fun c C h=>.inl h⟩
 ·obtain ⟨⟨t, fz, h1⟩, h2⟩ := hs.ro c C h
  exact ⟨⟨t,fz,by rw [hk c (Array.getElem?_eq_some_iff.1 h1).1];exact h1⟩,h2⟩
 ·unfold World.frozen?
  rw [hk a.block ha]
end Go.Sp
namespace Go.Sp

noncomputable section
end

section
variable {P:Program} {tabs:List (List Value)}

end

noncomputable section
def giveV (z:Nat) (v:Value) (H:AHeap):Option (Value×AHeap):=
 oo (vSl v) (bb (isNilSl v) (some (fsV z 0 2 [],H)) (bb (closed2 v) (some (v,H)) none)) fun s=>oo (oCells (H.get s.id)) none fun o=>
  bb (an (nt o.imm) (an (nt o.spent) (an (Nat.ble (s.off + s.len * s.sz) (len o.xs)) (allL closed1 (takeL (s.len * s.sz) (dropL s.off o.xs))))))
   (some (fsV s.sz s.len 0 (takeL (s.len * s.sz) (dropL s.off o.xs)),H.set s.id .dead)) none
def giveL (z:Nat) (l:List Value):AHeap→Option (List Value×AHeap):=
 List.rec (motive:=fun _=>AHeap→Option (List Value×AHeap)) (fun H=>some ([],H)) (fun v _ ih H=>oo (giveV z v H) none fun p=>pp p fun v' H1=>oo (ih H1) none fun q=>pp q fun r H2=>some (v' :: r,H2)) l
def giveF (tabs:List (List Value)) (z:Nat) (f:List Value→Option Value) (args:List Value) (H:AHeap):Option (Value×AHeap):=
 oo (giveL z args H) none fun p=>pp p fun as H1=>bb (tabsOk H1 tabs 0) (oo (f as) none fun v=>some (v,H1)) none
end

theorem giveV_ok {z : Nat} {v v' u : Value} {H H' : AHeap} {R : Ren} {w : World} (h : giveV z v H = some (v', H')) (hs : Sim H R w) (hx : VR R v u) :
 ∃ R',R.le R'∧R'.f = R.f∧Post H R w H' R' w∧VR R' v' u∧closed2 v' = true:=by
 unfold giveV at h
 cases hsl:vSl v with
 | none =>
  rw [hsl,oo_none] at h
  rcases bb_cases h with ⟨hn,h⟩ | ⟨_,h⟩
  ·injection h with h; injection h with e1 e2; subst e1; subst e2
   refine ⟨R,R.le_refl,rfl,.refl hs,?_,rfl⟩
   rw [isNilSl_true hn] at hx
   rw [hx.slNil_l];exact .fsN z 2 (by decide)
  ·obtain ⟨hc, h⟩ := bb_inv h
   injection h with h;injection h with e1 e2;subst e1;subst e2
   exact ⟨R,R.le_refl,rfl,.refl hs,hx,hc⟩
 | some s=>
 rw [hsl,oo_some] at h
 obtain ⟨o,ho,h1⟩:=oo_inv h
 obtain ⟨hc,h2⟩:=bb_inv h1
 obtain ⟨c1,hc⟩:=an_inv hc
 obtain ⟨c3,hc⟩:=an_inv hc
 obtain ⟨c4,c5⟩:=an_inv hc
 have c1:=nt_false c1
 have c3:=nt_false c3
 simp only [len_eq] at c4
 have c4:=Nat.le_of_ble_eq_true c4
 rw [allL_eq,List.all_eq_true] at c5
 simp only [takeL_eq,dropL_eq] at c5 h2
 injection h2 with h2;injection h2 with e1 e2;subst e1;subst e2
 have ho':=oCells_some ho
 rw [c1,c3] at ho'
 have dead : ∀ (R' : Ren), R.le R' → R'.f = R.f → R'.sz = R.sz → (∀ c C, R'.ro c = some C → R.ro c = some C ∨ ∃ β, R.f s.id = some (c, β) ∧ ∃ ty fz, w.heap[c]? = some (.cells C ty fz)) →
  Post H R w (H.set s.id .dead) R' w:=fun R' hle hRf hRs hro=>by
  have hget:∀ id,(H.set s.id .dead).get id = if s.id = id then .dead else H.get id:=fun id=>AHeap.get_set _ _ _ _
  have hnext:(H.set s.id .dead).next = H.next:=by simp
  have hwr:∀ id,(H.get id).writable = false→((H.set s.id .dead).get id).writable = false:=fun id h=>by
   rw [hget];split
   ·rfl
   ·exact h
  have hp:=Post.refl hs
  refine ⟨⟨fun id c β h0 => by rw [hRf, hRs]; exact ⟨h0, rfl⟩, hle.ro⟩, fun id p h0 => by rw [hRf] at h0; exact .inl h0, ?_, by rw [hnext]; exact Nat.le_refl _, Nat.le_refl _, fun _ _ _ => rfl,
   fun id hi hr Q c β ob h0=>?_,fun id hi him=>?_,fun id c β h0 hr=>by rw [hRf] at h0;exact hp.fresh id c β h0 hr,hp.side,fun c C h0=>?_⟩
  ·refine ⟨fun id c β h0 => by rw [hRf] at h0; rw [hnext]; exact hs.dom id c β h0, fun id c β h0 => ?_, fun id c β id' β' h0 h0' hne hw => ?_, fun id a ha => ?_, fun id hi => ?_, fun c C h0 => ?_⟩
   ·rw [hRf] at h0
    rw [hget];split
    ·trivial
    ·exact (hs.obj id c β h0).mono hle (by rw [hRs])
   ·rw [hRf] at h0 h0'
    have hg1:=hget id
    have hg2:=hget id'
    by_cases hn:s.id = id
    ·rw [if_pos hn] at hg1;rw [hg1] at hw;cases hw
    ·rw [if_neg hn] at hg1
     rw [hg1] at hw ⊢
     by_cases hn':s.id = id'
     ·rw [if_pos hn'] at hg2;exact .inl hg2
     ·rw [if_neg hn'] at hg2; rw [hg2]; exact hs.sep id c β id' β' h0 h0' hne hw
   ·rw [hget] at ha
    split at ha
    ·cases ha
    ·have := hs.anc id a ha
     rw [hnext,hget]
     refine ⟨this.1,?_⟩
     split
     ·exact ⟨rfl,rfl⟩
     ·exact this.2
   ·rw [hnext] at hi
    rw [hget];split
    ·rfl
    ·exact hs.wf id hi
   ·rcases hro c C h0 with h1 | ⟨β, h1, ty, fz, h2⟩
    ·exact ⟨(hs.ro c C h1).1,fun id β h9=>by rw [hRf] at h9;exact hwr id ((hs.ro c C h1).2 id β h9)⟩
    ·refine ⟨⟨ty, fz, h2⟩, fun id β' h9 => ?_⟩
     rw [hRf] at h9
     rw [hget]
     split
     ·rfl
     ·rename_i hn
      cases hwi:(H.get id).writable with
      | false=>rfl
      | true =>
       rcases hs.sep id c β' s.id β h9 h1 (fun e => hn e.symm) hwi with h3 | ⟨h3, _⟩
       ·rw [ho'] at h3;cases h3
       ·have h4 := hs.anc id s.id h3
        rw [ho'] at h4
        have h5:true = false:=h4.2.2
        cases h5
  ·rw [hget]; split
   ·trivial
   ·exact h0
  ·rw [hget]; split
   ·rename_i he
    rw [←he,ho'] at him;cases him
   ·rfl
  ·rcases hro c C h0 with h1 | ⟨β, h1, _⟩
   ·exact .inl h1
   ·exact .inr (.inr ⟨s.id,β,h1,by rw [ho'];rfl⟩)
 have hcl:closed2 (fsV s.sz s.len 0 ((o.xs.drop s.off).take (s.len * s.sz))) = true:=rfl
 rcases hx.sl_l hsl with ⟨c,β,cap,hid,hv,k1,k2,k3,k4⟩ | ⟨c,o2,hv,k0,k00⟩ | ⟨hv,k0,k00⟩
 ·obtain ⟨C, ty, fz, hC, hsz, hcf, hcr⟩ := hs.cells hid ho
  let R':Ren:=⟨R.f,R.sz,fun c'=>if c' = c then some C else R.ro c'⟩
  have hle:R.le R':=⟨fun id c β h=>⟨h,rfl⟩,fun c' C' h=>by
   show (if c' = c then some C else R.ro c') = some C'
   split
   ·rename_i he; subst he
    obtain ⟨⟨t',fz',h9⟩,_⟩:=hs.ro c' C' h
    rw [hC] at h9;injection h9 with h9;injection h9 with h9;rw [h9]
   ·exact h⟩
  refine ⟨R',hle,rfl,dead R' hle rfl rfl fun c' C' h=>?_,?_,hcl⟩
  ·have h : (if c' = c then some C else R.ro c') = some C' := h
   by_cases he:c' = c
   ·rw [if_pos he] at h
    have h:C = C':=by injection h
    subst h;subst he
    exact .inr ⟨β,hid,ty,fz,hC⟩
   ·rw [if_neg he] at h;exact .inl h
  ·rw [hv]
   refine .mkFs (C:=C) (by show (if c = c then some C else R.ro c) = some C;simp) (by simp;omega) (by omega) (fun he=>by cases he) (by decide) (by simp;omega) ?_ c5
   exact (hcr.mono hle).part _ _
 ·refine ⟨R, R.le_refl, rfl, dead R R.le_refl rfl rfl fun c' C' h => .inl h, ?_, hcl⟩
  rw [hv,k0]
  simp only [Nat.zero_mul,List.take_zero]
  exact .fsE (by decide)
 ·refine ⟨R, R.le_refl, rfl, dead R R.le_refl rfl rfl fun c' C' h => .inl h, ?_, hcl⟩
  rw [hv,k0]
  simp only [Nat.zero_mul,List.take_zero]
  exact .fsN _ _ (by decide)

theorem giveL_ok {z : Nat} {l as : List Value} {H H' : AHeap} (h : giveL z l H = some (as, H')) : ∀ {R : Ren} {w : World} {us : List Value}, Sim H R w → VRL R l us →
 ∃ R',R.le R'∧R'.f = R.f∧Post H R w H' R' w∧VRL R' as us∧∀ x ∈ as,closed2 x = true:=by
 induction l generalizing as H with
 | nil =>
  injection h with h;injection h with e1 e2;subst e1;subst e2
  intro R w us hs hx
  exact ⟨R,R.le_refl,rfl,.refl hs,hx,by simp⟩
 | cons v l ih =>
  obtain ⟨p,hp,h⟩:=oo_inv (show oo (giveV z v H) none (fun p=>pp p fun v' H1=>oo (giveL z l H1) none fun q=>pp q fun r H2=>some (v' :: r,H2)) = some (as,H') from h)
  obtain ⟨v',H1⟩:=p
  obtain ⟨q,hq,h⟩:=oo_inv (show oo (giveL z l H1) none (fun q=>pp q fun r H2=>some (v' :: r,H2)) = some (as,H') from h)
  obtain ⟨r,H2⟩:=q
  injection (show some (v' :: r,H2) = some (as,H') from h) with h;injection h with e1 e2;subst e1;subst e2
  intro R w us hs hx
  obtain ⟨u,us',rfl,h1,h2⟩:=hx.uncons
  obtain ⟨R1,k1,k2,k3,k4,k5⟩:=giveV_ok hp hs h1
  obtain ⟨R2,j1,j2,j3,j4,j5⟩:=ih hq k3.sim (h2.mono k1)
  refine ⟨R2,Ren.le_trans k1 j1,j2.trans k2,k3.trans j3 hs,.cons (k4.mono j1) j4,fun x hx=>?_⟩
  simp at hx
  rcases hx with rfl | hx
  ·exact k5
  ·exact j5 x hx

theorem giveF_ok {P : Program} {tabs : List (List Value)} (hne : ∀ t ∈ tabs, t ≠ []) (hpl : ∀ t ∈ tabs, ∀ x ∈ t, plain1 x = true) {g : FuncId} {z : Nat} {f : List Value → Option Value} (hok : PureOk P tabs g f) {args : List Value} {H H' : AHeap} {v : Value} (h : giveF tabs z f args H = some (v, H')) :
 (∀ (as:Array Value) (w:World),(callFunc g as).run P w = .ok (.enter g as) w) ∧
 ∀ R w args',Sim H R w→GlR (List.range tabs.length) R→VRL R args args'→Calls P g ⟨args'⟩ w fun e w'=>∃ u R',e = .returned u∧VR R' v u∧Post H R w H' R' w':=by
 refine ⟨hok.1,fun R w args' hs hgl ha=>?_⟩
 obtain ⟨p,hp,h⟩:=oo_inv h
 obtain ⟨as,H1⟩:=p
 obtain ⟨htab,h⟩:=bb_inv (show bb (tabsOk H1 tabs 0) (oo (f as) none fun v=>some (v,H1)) none = some (v,H') from h)
 obtain ⟨v',hv',h2⟩:=oo_inv h
 injection h2 with h2;injection h2 with e1 e2;subst e1;subst e2
 obtain ⟨R1,k1,k2,k3,k4,k5⟩:=giveL_ok hp hs ha
 have hs1:=k3.sim
 have hgl1:GlR (List.range tabs.length) R1:=hgl.mono k1
 have hs0:=pure_sim hs1 hgl1 htab R1.ro (fun c C h=>(hs1.ro c C h).1) (fun c C h=>h) hne hpl
 refine (hok.2 as v' hv' k5 _ w args' rfl hs0 (closed2L_VR (R:=R1) (R':=⟨fun i=>if i < tabs.length then some (i,0) else none,R1.sz,R1.ro⟩) (fun _ _ h=>h) k4 k5)).mono fun e w' ⟨u,H2,R2,he,hcv,hu,hp2⟩=>?_
 refine ⟨u,⟨R1.f,R1.sz,R2.ro⟩,he,closedV_VR (R:=R2) (R':=⟨R1.f,R1.sz,R2.ro⟩) (fun _ _ h=>h) hu hcv,k3.trans (pure_post hs1 rfl hp2 rfl rfl (fun c C h=>hp2.le.ro c C h) fun c C h=>?_) hs⟩
 rcases hp2.rofresh c C h with h3 | h3 | ⟨id,β,h3,h4⟩
 ·exact .inl h3
 ·exact .inr ⟨h3,h⟩
 ·have := pureHeap_imm (tabf_some (show (if id < tabs.length then some (id, 0) else none) = some (c, β) from h3)).1
  rw [this] at h4;cases h4

noncomputable section
def hp (n:Nat) (l:List AObj):AHeap:=⟨n,objTr l 0 .nil,true⟩
end
end Go.Sp
namespace Go.Sp
open Go.Sort

noncomputable section
def I64 (z:Int):Value:=.int .i64 z
def srtZ (zs:List Int):List Int:=zs.mergeSort fun x y=>decide (x≤y)
end

theorem Post.growW {H H':AHeap} {R R':Ren} {w w1 w2:World} (hp:Post H R w H' R' w1) {os:Array Obj} (e:w2.heap = w1.heap ++ os) (e1:w2.os = w1.os) (e2:w2.output = w1.output):Post H R w H' R' w2:=by
 have hget:∀ c,c < w1.heap.size→w2.heap[c]? = w1.heap[c]?:=fun c hc=>by rw [e,Array.getElem?_append_left hc]
 have hsz:w1.heap.size≤w2.heap.size:=by rw [e];simp
 have hs:=hp.sim
 refine ⟨hp.le, hp.new, ⟨fun id c β h => ⟨(hs.dom id c β h).1, Nat.lt_of_lt_of_le (hs.dom id c β h).2 hsz⟩, fun id c β h => by rw [hget c (hs.dom id c β h).2]; exact hs.obj id c β h, hs.sep, hs.anc, hs.wf, fun c C h => ?_⟩,
  hp.next,Nat.le_trans hp.grow hsz,fun c hc h=>by rw [hget c (Nat.lt_of_lt_of_le hc hp.grow)];exact hp.frame c hc h,hp.calm,hp.imm,hp.fresh,⟨e1.trans hp.side.1,e2.trans hp.side.2.1,fun a ha=>?_⟩,hp.rofresh⟩
 ·obtain ⟨⟨t, fz, h1⟩, h2⟩ := hs.ro c C h
  exact ⟨⟨t,fz,by rw [hget c (Array.getElem?_eq_some_iff.1 h1).1];exact h1⟩,h2⟩
 ·rw [← hp.side.2.2 a ha]
  unfold World.frozen?
  rw [hget a.block (Nat.lt_of_lt_of_le ha hp.grow)]

theorem mapI64 (l:List Int):mapL I64 l = l.map I64:=by
 induction l with
 | nil=>rfl
 | cons x l ih=>show I64 x :: mapL I64 l = _;rw [ih];rfl
theorem mapI64_len (l:List Int):(mapL I64 l).length = l.length:=by rw [mapI64];simp

theorem post_row {H H' : AHeap} {R : Ren} {w : World} {id c β : Nat} {vals : List Int} (hs : Sim H R w) (hw : awrite H id 0 (mapL I64 vals) = some H') (hid : R.f id = some (c, β)) (n : Nat) (os : Array Obj) :
 Post H R w H' R (grow (putRow (Value.int .i64) (Go.Sort.ahead w n) c β vals.toArray) os):=by
 have hv:VRL R (mapL I64 vals) (mapL I64 vals):=plainL_VRL fun x hx=>by
  rw [mapI64] at hx
  obtain ⟨z,_,rfl⟩:=List.mem_map.1 hx
  rfl
 obtain ⟨C,t,hC,hfit,_,hp⟩:=post_write hs hw hid hv
 refine hp.growW (os:=os) ?_ rfl rfl
 show (putRow (Value.int .i64) (Go.Sort.ahead w n) c β vals.toArray).heap ++ os = _
 congr 1
 apply Array.ext_getElem?
 intro k
 by_cases hk:c = k
 ·subst hk
  rw [setRow_heap w c C _ t (0,0) hC]
  show (Array.modify w.heap c (onCells (putCells (Value.int .i64) β vals.toArray)))[c]? = _
  rw [Array.getElem?_modify,if_pos rfl,hC]
  show some (Obj.cells _ _ _) = some (Obj.cells _ _ _)
  congr 2
  apply Array.ext_getElem?
  intro j
  rw [mapI64_len] at hfit
  simp only [putCells,Array.getElem?_mapIdx,List.getElem?_toArray,mapI64,List.length_map,Nat.add_zero]
  by_cases h1:β≤j∧j < β + vals.length
  ·have hj : j < C.size := by omega
   have hj2:j - β < vals.length:=by omega
   rw [Array.getElem?_eq_getElem hj,Option.map_some,if_pos (by simpa using h1)]
   rw [List.append_assoc,List.getElem?_append_right (by simp;omega),List.getElem?_append_left (by simp;omega)]
   simp only [List.length_take,Array.length_toList,List.getElem?_map]
   rw [show j - min β C.size = j - β by omega,List.getElem?_eq_getElem hj2]
   simp [I64,getElem!_pos,hj2]
  ·by_cases h2 : j < β
   ·rw [List.append_assoc, List.getElem?_append_left (by simp; omega), List.getElem?_take_of_lt h2]
    simp only [Array.getElem?_toList]
    cases hcj:C[j]? with
    | none=>rfl
    | some y=>rw [Option.map_some,if_neg (by simpa using h1)]
   ·rw [List.getElem?_append_right (by simp; omega), List.getElem?_drop]
    simp only [Array.getElem?_toList]
    have:β + vals.length + (j - (List.take β C.toList ++ List.map I64 vals).length) = j:=by simp;omega
    rw [this]
    cases hcj:C[j]? with
    | none=>rfl
    | some y=>rw [Option.map_some,if_neg (by simpa using h1)]
 ·rw [setRow_other _ _ _ _ (fun h => hk h.symm)]
  show (Array.modify w.heap c _)[k]? = _
  rw [Array.getElem?_modify,if_neg hk]

section
variable {P:Program} {g:FuncId}

end

theorem awrite_row {H : AHeap} {id : Nat} {xs : List Value} {anc : List Nat} {vals : List Int} (hg : H.get id = .cells xs false false anc) (hl : vals.length = xs.length) :
 awrite H id 0 (mapL I64 vals) = some ((H.kill anc).set id (.cells (mapL I64 vals) false false [])):=by
 unfold awrite
 have h1:Nat.ble (0 + len (mapL I64 vals)) (len xs) = true:=by rw [len_eq,len_eq,mapI64_len];exact Nat.ble_eq_true_of_le (by omega)
 have h2:allL scalarB (mapL I64 vals) = true:=by
  rw [allL_eq,List.all_eq_true,mapI64]
  intro x hx
  obtain ⟨z,_,rfl⟩:=List.mem_map.1 hx
  rfl
 have h3:setL (mapL I64 vals) 0 xs = mapL I64 vals:=by
  show appL (mapL I64 vals) (dropL (len (mapL I64 vals)) xs) = _
  rw [appL_eq,dropL_eq,len_eq,mapI64_len,List.drop_of_length_le (by omega),List.append_nil]
 rw [hg]
 show bb (an (nt false) (an (nt false) (an (Nat.ble (0 + len (mapL I64 vals)) (len xs)) (allL scalarB (mapL I64 vals))))) (some ((H.kill anc).set id (.cells (setL (mapL I64 vals) 0 xs) false false []))) none = _
 rw [h1,h2,h3];rfl

end Go.Sp
