/- Made from wip. -/
import Derived.Test.YtciohfkjabeooaaGreatDoorSpReadx
import Derived.Test.YtciohfkjabeooaaGreatDoorSpClox
import Derived.RangeFuncFrom

namespace Go.Sp
open Go

theorem Ba.grown {H H':Aa} {R R':Ren} {w W W':World} (hp:Ba H R w H' R' W) {row:Option Nat} (hg:W.grownBy W' row)
 (hr:∀ r,row=some r→w.heap.size≤r∧∃ o:Obj,W.heap[r]?=some o∧o.isCells=false) (hcl:∀ id c β,R'.f id=some (c,β)→∃ C t fz,W.heap[c]?=some (.cells C t fz)):Ba H R w H' R' W':=by
 have hkeep:∀ (c:Nat) C t fz,W.heap[c]?=some (Obj.cells C t fz)→W'.heap[c]?=W.heap[c]?:=fun c C t fz h=>by
  refine hg.block c (Array.getElem?_eq_some_iff.1 h).1 fun e=>?_
  obtain⟨_,o,ho,hc⟩:=hr c e.symm
  rw[h] at ho;injection ho with ho;subst ho;cases hc
 have hold:∀ c,c < w.heap.size→W'.heap[c]?=W.heap[c]?:=fun c hc=>by
  refine hg.block c (Nat.lt_of_lt_of_le hc hp.grow) fun e=>?_
  have:=(hr c e.symm).1
  omega
 have hs:=hp.sim
 refine ⟨hp.le, hp.new, ⟨fun id c β h => ⟨(hs.dom id c β h).1, Nat.lt_of_lt_of_le (hs.dom id c β h).2 hg.size⟩, fun id c β h => ?_, hs.sep, hs.anc, hs.wf, fun c C h => ?_⟩,
  hp.next,Nat.le_trans hp.grow hg.size,fun c hc h=>(hold c hc).trans (hp.frame c hc h),hp.calm,hp.imm,hp.fresh,⟨hg.os.trans hp.side.1,hg.output.trans hp.side.2.1,fun a ha=>?_⟩,hp.rofresh⟩
 ·obtain⟨C,t,fz,h1⟩:=hcl id c β h
  rw[hkeep c C t fz h1];exact hs.obj id c β h
 ·obtain⟨⟨t,fz,h1⟩,h2⟩:=hs.ro c C h
  exact⟨⟨t,fz,by rw[hkeep c C t fz h1];exact h1⟩,h2⟩
 ·rw[←hp.side.2.2 a ha]
  unfold World.frozen?
  rw[hold a.block ha]

def Qx (H:Aa):Prop:=∀ id,id < H.next→∃ xs imm spent anc,H.get id = .cells xs imm spent anc
theorem Ck.cellsOnly {H:Aa} {R:Ren} {w:World} (hs:Ck H R w) (hc:Qx H):∀ id c β,R.f id=some (c,β)→∃ C t fz,w.heap[c]?=some (.cells C t fz):=fun id c β h=>by
 obtain⟨xs,imm,spent,anc,he⟩:=hc id (hs.dom id c β h).1
 have ho:=hs.obj id c β h
 rw[he] at ho
 obtain⟨C,t,fz,k1,_⟩:=ho
 exact⟨C,t,fz,k1⟩
theorem Ba.keepsOthers {H H':Aa} {R R':Ren} {W W':World} (hp:Ba H R W H' R' W') (hcl:∀ id c β,R.f id=some (c,β)→∃ C t fz,W.heap[c]?=some (.cells C t fz)):KeepsOthers W W':=
 ⟨hp.grow,fun k o hk ho=>(hp.frame k (Array.getElem?_eq_some_iff.1 hk).1 fun id β h=>by
   obtain⟨C,t,fz,h1⟩:=hcl id k β h
   rw[hk] at h1;injection h1 with h1;subst h1;cases ho).trans hk⟩
theorem Ba.sameF {H H':Aa} {R R':Ren} {W W':World} (hp:Ba H R W H' R' W') (hn:H'.next=H.next):R'.f=R.f:=by
 funext id
 cases h:R'.f id with
 | none =>
  cases h':R.f id with
  | none=>rfl
  | some p=>have:=(hp.le.up id p.1 p.2 h').1;rw[h] at this;cases this
 | some p =>
  rcases hp.new id p h with h1 | ⟨_,h2⟩
  ·exact h1.symm
  ·have:=(hp.sim.dom id p.1 p.2 h).1;omega
theorem Qy (W:World) (v:Value) (t:TypeId):(W.alloc (.cells #[v] t)).cell? ⟨W.heap.size,0,none⟩=some v:=by
 unfold World.cell?
 simp only[World.alloc_heap_new]
 rfl
theorem Uv {W:World} {b:Nat} {v:Value} (o:Obj) (h:W.cell? ⟨b,0,none⟩=some v) (hb:b < W.heap.size):(W.alloc o).cell? ⟨b,0,none⟩=some v:=by
 rw[World.cell?_of_block (w:=W) (a:=⟨b,0,none⟩) (by show (W.heap.push o)[b]?=_;rw[Array.getElem?_push,if_neg (by omega)])];exact h
theorem fJ {H:Aa} {R:Ren} {w w1:World} (hs:Ck H R w) (hb:∀ c,c < w.heap.size→w1.heap[c]?=w.heap[c]?) (hsz:w.heap.size≤w1.heap.size) (hos:w1.os=w.os) (hout:w1.output=w.output)
 {g:Nat} {cur:Array Value} {t:TypeId} (hg:w1.heap[g]?=some (.cells cur t (0,0))) (hge:w.heap.size≤g) {xs:List Value} (hx:Du R xs 0 cur) (hl:xs.length≤cur.size) :
 Ba H R w (H.push (.cells xs false false [])) ⟨fun i=>if i=H.next then some (g,0) else R.f i,fun c=>if c=g then cur.size else R.sz c,R.ro⟩ w1:=by
 have hnone:R.f H.next=none:=by
  cases h:R.f H.next with
  | none=>rfl
  | some p=>have:=(hs.dom H.next p.1 p.2 h).1;omega
 have hget:∀ j,(H.push (.cells xs false false [])).get j=if H.next=j then .cells xs false false [] else H.get j:=fun j=>Aa.get_push _ _ _
 have hle:R.le ⟨fun i=>if i=H.next then some (g,0) else R.f i,fun c=>if c=g then cur.size else R.sz c,R.ro⟩:=⟨fun id c β h=>by
  have h1:=hs.dom id c β h
  refine⟨?_,?_⟩
  ·show (if id=H.next then _ else _)=_
   rw[if_neg (by omega)];exact h
  ·show (if c=g then _ else _)=_
   rw[if_neg (by omega)],fun _ _ h=>h⟩
 have hcase:∀ {id c β},(if id=H.next then some (g,0) else R.f id)=some (c,β)→(id=H.next∧c=g∧β=0)∨(id≠H.next∧R.f id=some (c,β)):=fun {id c β} h=>by
  split at h
  ·rename_i e;injection h with h;injection h with e1 e2;exact .inl ⟨e,e1.symm,e2.symm⟩
  ·rename_i e;exact .inr ⟨e,h⟩
 refine ⟨hle, fun id p h => ?_, ⟨fun id c β h => ?_, fun id c β h => ?_, fun id c β id' β' h h' hne hw => ?_, fun id a ha => ?_, fun id hid => ?_, fun c C h => ?_⟩, by rw [Aa.next_push]; omega, hsz, fun c hc _ => hb c hc, fun id hid hr Q c β ob h => ?_, fun id hid _ => ?_, fun id c β h h' => ?_, ⟨hos, hout, fun a ha => ?_⟩, fun c C h => .inl h⟩
 ·rcases hcase (c:=p.1) (β:=p.2) h with⟨rfl,_⟩ | ⟨_,h1⟩
  ·exact .inr ⟨hnone,Nat.le_refl _⟩
  ·exact .inl h1
 ·rw[Aa.next_push]
  rcases hcase h with⟨rfl,rfl,rfl⟩ | ⟨_,h1⟩
  ·exact⟨by omega,(Array.getElem?_eq_some_iff.1 hg).1⟩
  ·have:=hs.dom id c β h1;exact⟨by omega,by omega⟩
 ·rw[hget]
  rcases hcase h with⟨rfl,rfl,rfl⟩ | ⟨hne,h1⟩
  ·rw[if_pos rfl]
   refine⟨cur,t,(0,0),hg,?_,by omega,hx.mono hle,fun _=>rfl⟩
   show cur.size=if c=c then cur.size else R.sz c
   rw[if_pos rfl]
  ·rw[if_neg (fun e=>hne e.symm),hb c (hs.dom id c β h1).2]
   exact (hs.obj id c β h1).mono hle (by
    show (if c=g then cur.size else R.sz c)=R.sz c
    rw[if_neg]
    have:=(hs.dom id c β h1).2;omega)
 ·rcases hcase h with⟨e1,rfl,rfl⟩ | ⟨n1,h1⟩
  ·rcases hcase h' with⟨e2,_,_⟩ | ⟨n2,h2⟩
   ·exact absurd (e1.trans e2.symm) hne
   ·have := (hs.dom id' _ β' h2).2; omega
  ·rcases hcase h' with⟨e2,rfl,_⟩ | ⟨n2,h2⟩
   ·have:=(hs.dom id _ β h1).2;omega
   ·rw[hget id,if_neg (fun e=>n1 e.symm)] at hw ⊢
    rw[hget id',if_neg (fun e=>n2 e.symm)]
    exact hs.sep id c β id' β' h1 h2 hne hw
 ·rw[Aa.next_push]
  rw[hget] at ha
  split at ha
  ·cases ha
  ·obtain⟨k1,k2,k3⟩:=hs.anc id a ha
   rw[hget,if_neg (by omega)]
   exact⟨by omega,k2,k3⟩
 ·rw[Aa.next_push] at hid
  rw[hget,if_neg (by omega)]
  exact hs.wf id (by omega)
 ·obtain⟨⟨t',fz,h1⟩,h2⟩:=hs.ro c C h
  have hc:=(Array.getElem?_eq_some_iff.1 h1).1
  refine⟨⟨t',fz,by rw[hb c hc];exact h1⟩,fun id β h'=>?_⟩
  rcases hcase h' with⟨_,rfl,_⟩ | ⟨n1,h3⟩
  ·omega
  ·rw[hget,if_neg (fun e=>n1 e.symm)];exact h2 id β h3
 ·rw[hget,if_neg (by omega)];exact h
 ·rw[hget,if_neg (by omega)]
 ·rcases hcase h with⟨_,rfl,_⟩ | ⟨_,h1⟩
  ·exact .inl hge
  ·rw[h1] at h';cases h'
 ·unfold World.frozen?
  rw[hb a.block ha]
theorem Ba.congrR {H H' H2:Aa} {R R':Ren} {w w':World} (hg:∀ i,H2.get i=H'.get i) (hn:H2.next=H'.next) (hp:Ba H R w H' R' w'):Ba H R w H2 R' w':=
 ⟨hp.le,hp.new,hp.sim.congr hg hn,by rw[hn];exact hp.next,hp.grow,hp.frame,fun id hi hr Q c β ob h=>by rw[hg];exact hp.calm id hi hr Q c β ob h,fun id hi h=>by rw[hg];exact hp.imm id hi h,hp.fresh,hp.side,hp.rofresh⟩
theorem V7 {H:Aa} {R:Ren} {w w1:World} (hs:Ck H R w) (hb:RowKit.Below w.heap.size w w1):Ba H R w H R w1:=by
 have hk:∀ c,c < w.heap.size→w1.heap[c]?=w.heap[c]?:=hb.block
 refine ⟨R.le_refl, fun _ _ h => .inl h, ⟨fun id c β h => ⟨(hs.dom id c β h).1, Nat.lt_of_lt_of_le (hs.dom id c β h).2 hb.size⟩, fun id c β h => by rw [hk c (hs.dom id c β h).2]; exact hs.obj id c β h, hs.sep, hs.anc, hs.wf, fun c C h => ?_⟩,
  Nat.le_refl _,hb.size,fun c hc _=>hk c hc,fun _ _ _ _ _ _ _ h=>h,fun _ _ _=>rfl,fun id c β h h'=>(by rw[h'] at h;cases h),⟨hb.os,hb.output,fun a ha=>?_⟩,fun c C h=>.inl h⟩
 ·obtain⟨⟨t,fz,h1⟩,h2⟩:=hs.ro c C h
  exact⟨⟨t,fz,by rw[hk c (Array.getElem?_eq_some_iff.1 h1).1];exact h1⟩,h2⟩
 ·unfold World.frozen?
  rw[hk a.block ha]
end Go.Sp
