/- Made from wip. -/
import Derived.Test.YtflonlkiajhhjaaGreatDoorSpSymx
import Derived.Test.YtflonlkiajhhjaaGreatDoorSpObjx
import Derived.RangeFuncFrom

namespace Go.Sp
open Go

theorem Ba.grown {H H':Aa} {R R':Ren} {w W W':World} (hp:Ba H R w H' R' W) {row:Option Nat} (hg:W.grownBy W' row)
 (hr:∀ r,row=some r→w.heap.size≤r∧∃ o:Obj,W.heap[r]?=some o∧o.isCells=false) (hcl:∀ id c β,R'.f id=some (c,β)→∃ C t fz,W.heap[c]?=some (.cells C t fz)):Ba H R w H' R' W':=by
 have hkeep:∀ (c:Nat) C t fz,W.heap[c]?=some (Obj.cells C t fz)→W'.heap[c]?=W.heap[c]?:=fun c C t fz h=>by
  refine hg.block c (Array.getElem?_eq_some_iff.1 h).1 fun e=>?_
  obtain⟨_,o,ho,hc⟩:=hr c e.symm
  rw[h] at ho;injection ho with ho;subst ho;cases hc
 have hold:∀ c,c < w.heap.size→W'.heap[c]?=W.heap[c]?:=fun c hc=>by
  refine hg.block c (Nat.lt_of_lt_of_le hc hp.grow) fun e=>?_
  have:=(hr c e.symm).1
  omega
 have hs:=hp.sim
 refine ⟨hp.le, hp.new, ⟨fun id c β h => ⟨(hs.dom id c β h).1, Nat.lt_of_lt_of_le (hs.dom id c β h).2 hg.size⟩, fun id c β h => ?_, hs.sep, hs.anc, hs.wf, fun c C h => ?_⟩,
  hp.next,Nat.le_trans hp.grow hg.size,fun c hc h=>(hold c hc).trans (hp.frame c hc h),hp.calm,hp.imm,hp.fresh,⟨hg.os.trans hp.side.1,hg.output.trans hp.side.2.1,fun a ha=>?_⟩,hp.rofresh⟩
 ·obtain⟨C,t,fz,h1⟩:=hcl id c β h
  rw[hkeep c C t fz h1];exact hs.obj id c β h
 ·obtain⟨⟨t,fz,h1⟩,h2⟩:=hs.ro c C h
  exact⟨⟨t,fz,by rw[hkeep c C t fz h1];exact h1⟩,h2⟩
 ·rw[←hp.side.2.2 a ha]
  unfold World.frozen?
  rw[hold a.block ha]

def Qx (H:Aa):Prop:=∀ id,id < H.next→∃ xs imm spent anc,H.get id = .cells xs imm spent anc
theorem Ck.cellsOnly {H:Aa} {R:Ren} {w:World} (hs:Ck H R w) (hc:Qx H):∀ id c β,R.f id=some (c,β)→∃ C t fz,w.heap[c]?=some (.cells C t fz):=fun id c β h=>by
 obtain⟨xs,imm,spent,anc,he⟩:=hc id (hs.dom id c β h).1
 have ho:=hs.obj id c β h
 rw[he] at ho
 obtain⟨C,t,fz,k1,_⟩:=ho
 exact⟨C,t,fz,k1⟩
theorem Ba.keepsOthers {H H':Aa} {R R':Ren} {W W':World} (hp:Ba H R W H' R' W') (hcl:∀ id c β,R.f id=some (c,β)→∃ C t fz,W.heap[c]?=some (.cells C t fz)):KeepsOthers W W':=
 ⟨hp.grow,fun k o hk ho=>(hp.frame k (Array.getElem?_eq_some_iff.1 hk).1 fun id β h=>by
   obtain⟨C,t,fz,h1⟩:=hcl id k β h
   rw[hk] at h1;injection h1 with h1;subst h1;cases ho).trans hk⟩
theorem Ba.sameF {H H':Aa} {R R':Ren} {W W':World} (hp:Ba H R W H' R' W') (hn:H'.next=H.next):R'.f=R.f:=by
 funext id
 cases h:R'.f id with
 | none =>
  cases h':R.f id with
  | none=>rfl
  | some p=>have:=(hp.le.up id p.1 p.2 h').1;rw[h] at this;cases this
 | some p =>
  rcases hp.new id p h with h1 | ⟨_,h2⟩
  ·exact h1.symm
  ·have:=(hp.sim.dom id p.1 p.2 h).1;omega
theorem Qy (W:World) (v:Value) (t:TypeId):(W.alloc (.cells #[v] t)).cell? ⟨W.heap.size,0,none⟩=some v:=by
 unfold World.cell?
 simp only[World.alloc_heap_new]
 rfl
theorem Uv {W:World} {b:Nat} {v:Value} (o:Obj) (h:W.cell? ⟨b,0,none⟩=some v) (hb:b < W.heap.size):(W.alloc o).cell? ⟨b,0,none⟩=some v:=by
 rw[World.cell?_of_block (w:=W) (a:=⟨b,0,none⟩) (by show (W.heap.push o)[b]?=_;rw[Array.getElem?_push,if_neg (by omega)])];exact h
end Go.Sp
