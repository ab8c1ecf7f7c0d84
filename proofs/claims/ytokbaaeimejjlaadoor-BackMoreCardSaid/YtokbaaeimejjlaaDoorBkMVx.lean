/- Made from wip. -/
import Derived.Test.YtokbaaeimejjlaaDoorBkMT8x

set_option maxRecDepth 100000
set_option maxHeartbeats 4000000
namespace Go.BkQ
open Go Go.Sp Go.BkMM
theorem Wt {r c k t:Nat} {us:List Nat} {x:List Int} (hg:(r,c,us)∈A7) (ht:t∈us):(pick x (cellL r c t)).length=r*c:=by
 rw[Qu,((BO hg).row t ht).2.1]
theorem kX {us:List Nat} {i t:Nat} {rest:List Nat} (h:us.drop i=t::rest):us[i]?=some t:=by
 have:=congrArg List.head? h
 rw[List.head?_drop] at this;exact this
end Go.BkQ
set_option maxRecDepth 100000
set_option maxHeartbeats 4000000
namespace Go.BkQ
open Go Go.Sp Go.BkMM
theorem p15 (k:Nat) (args:List Value):Bp (k+1) 15 args=m15 (Bp k) L args:=by kernel_rfl
end Go.BkQ
set_option maxRecDepth 100000
set_option maxHeartbeats 4000000
namespace Go.BkQ
open Go Go.Sp Go.BkMM
theorem FN (a b:Nat):Bd (Int.ofNat a) (Int.ofNat b)=Nat.beq a b:=by
 rw[Dn]
 by_cases h:a=b
 ·subst h;simp
 ·rw[decide_eq_false (fun e=>h (Int.ofNat.inj e))]
  cases e:Nat.beq a b with
  | false=>rfl
  | true=>exact absurd (Nat.eq_of_beq_eq_true e) h
noncomputable def Fb (r c:Nat) (x:List Int) (us:List Nat):List Int:=(us.filter fun t=>decide (pick x (cellL r c t)=x)).map Int.ofNat
theorem WZ (r c:Nat) (x:List Int) (t:Nat) (us:List Nat):Fb r c x (t::us)=if pick x (cellL r c t)=x then Int.ofNat t::Fb r c x us else Fb r c x us:=by
 unfold Fb
 rw[List.filter_cons]
 by_cases h:pick x (cellL r c t)=x
 ·rw[if_pos h,if_pos (by simpa using h)];rfl
 ·rw[if_neg h,if_neg (by simpa using h)]
theorem ZJ (q:List Int):(bb (Au Ah (q.map I)) (bb (an (Nat.ble (0+q.length*1) (len (q.map I))) (Au Ah (Aq (q.length*1) (Am 0 (q.map I))))) (some (Value.tuple ⟨[(Sl.v 1 (Sl.mk q.length 0 (Aq (q.length*1) (Am 0 (q.map I))))),(.int .i64 (0:Int))]⟩)) none) none)=some (.tuple ⟨[S 0 q,I 0]⟩):=by
 rw[DT,Ak,gG,Ahf,Ak];rfl
theorem L6 (n M f g:Nat) {r c k:Nat} {us:List Nat} {x:List Int} (hg:(r,c,us)∈A7) (hx:x.length=r*c):∀ (rest:List Nat) (w i cc:Nat) (q:List Int),us.drop i=rest→rest.length < w→q.length≤i→cc / 2=q.length→cc % 2=0 →
 OP (Bp (n+1)) M w (sl g x) 0 (Eo r c k f us) q.length cc ⟨len us,f,Fh us⟩ (.ofNat (len us)) (.ofNat i) (q.map I)=some (.tuple ⟨[S 0 (q++Fb r c x rest),I 0]⟩)
 | _,0,_,_,_,_,h,_,_,_=>by omega
 | [], w + 1, i, cc, q, hd, _, _, _, _ => by
  have h1:us.length≤i:=List.drop_eq_nil_iff.1 hd
  show bb (Au Ah (q.map I)) (bb (AY (.ofNat i) (.ofNat (len us))) _ (bb (Au Ah (q.map I)) (bb (an (Nat.ble (0+q.length*1) (len (q.map I))) (Au Ah (Aq (q.length*1) (Am 0 (q.map I))))) (some (Value.tuple ⟨[(Sl.v 1 (Sl.mk q.length 0 (Aq (q.length*1) (Am 0 (q.map I))))),(.int .i64 (0:Int))]⟩)) none) none)) none=_
  rw[ZJ,DT,Ak,Co,AV,decide_eq_false (by omega),AA,show Fb r c x []=[] from rfl,List.append_nil]
 | t :: rest, w + 1, i, cc, q, hd, hw, hq, hcc, hcc2 => by
  obtain⟨hget,hd2,hi⟩:=gH hd
  have hrl:(t::rest).length=rest.length+1:=rfl
  have hp:=BO hg
  have hat:=kX hd
  obtain⟨z,hz1,hz2⟩:=WV n g f (k:=k) hg hat hx
  show UZ (Bp (n+1)) M (OP (Bp (n+1)) M w) (sl g x) 0 (Eo r c k f us) q.length cc ⟨len us,f,Fh us⟩ (.ofNat (len us)) (.ofNat i) (q.map I)=_
  unfold UZ UY
  show bb (Au Ah (q.map I)) (bb (AY (.ofNat i) (.ofNat (len us))) (oo (EA (.ofNat i)) none fun k1668=>(bb (an (Nat.blt k1668 (len us)) true) (oo (AL (Fh us) (k1668*1)) none fun v1671=>(oo (Bi .i64 v1671) none fun x1673=>(oo (Bp (n+1) 36 [QR r c k f us,S g x,I (.ofNat k1668)]) none fun v1679=>(oo (Bi .u16 v1679) none fun x1681=>(bb (Bd x1681 (0:Int)) (bb (GV 1 8 q.length cc 1 (q.map I)) (bb (Au Ah (Br (Am 0 (q.map I)) [(.int .i64 x1673)])) (bb (Au Ah (Br (Am 0 (q.map I)) [(.int .i64 x1673)])) (OP (Bp (n+1)) M w (sl g x) 0 (Eo r c k f us) (q.length+1) (2*(q.length+1)+bb false 1 0) ⟨len us,f,Fh us⟩ (.ofNat (len us)) (Aj .i64 (Int.add (Int.ofNat k1668) (1:Int))) (Br (Am 0 (q.map I)) [(.int .i64 x1673)])) none) none) none) (bb (Au Ah (q.map I)) (OP (Bp (n+1)) M w (sl g x) 0 (Eo r c k f us) q.length cc ⟨len us,f,Fh us⟩ (.ofNat (len us)) (Aj .i64 (Int.add (Int.ofNat k1668) (1:Int))) (q.map I)) none)))))) none)) _) none=_
  rw[DT,Ak,Co,decide_eq_true (by rw[AV];exact hi),Ak,Cx,Ac,show Nat.blt i (len us)=true from by rw[blt_eq,AV];simpa using hi,show an true true=true from rfl,Ak,hget,Ac,BP,Ac,hz1,Ac,Ab7,Ac,oV (by have:=hp.len8;omega) hcc hcc2,Ak,oW,DT,Ak,Ak,Ak,DC i (by have:=hp.len8;omega),show Bd (Int.ofNat z) (0:Int)=Bd (Int.ofNat z) (Int.ofNat 0) from rfl,FN,WZ]
  by_cases h:pick x (cellL r c t)=x
  ·rw[if_pos h,hz2.2 h]
   have ih:=L6 n M f g (k:=k) hg hx rest w (i+1) (2*(q.length+1)+bb false 1 0) (q++[Int.ofNat t]) hd2 (by omega) (by simp;omega) (by rw[List.length_append];show (2*(q.length+1)+0) / 2=q.length+1;omega) (by show (2*(q.length+1)+0) % 2=0;omega)
   rw[List.length_append,List.append_assoc] at ih
   exact ih
  ·rw[if_neg h,show Nat.beq z 0=false from by cases e:Nat.beq z 0 with | false=>rfl | true=>exact absurd (hz2.1 (Nat.eq_of_beq_eq_true e)) h,AA]
   exact L6 n M f g (k:=k) hg hx rest w (i+1) cc q hd2 (by omega) (by omega) hcc hcc2
end Go.BkQ
namespace Go.BkH
def ZK (zs:List Int):List Int:=zs.mergeSort fun x y=>decide (x≤y)
theorem K8 (l:List Int):(ZK l).Perm l:=List.mergeSort_perm _ _
theorem KZ (l:List Int):(ZK l).Pairwise (·≤·):=by
 have:=List.pairwise_mergeSort (le:=fun x y:Int=>decide (x≤y)) (fun a b c h1 h2=>by simp at *;omega) (fun a b=>by simp;omega) l
 exact this.imp fun h=>by simpa using h
theorem Ni {a b:List Int} (h:a.Perm b):ZK a=ZK b:=
 List.Perm.eq_of_pairwise (fun _ _ _ _ h1 h2=>Int.le_antisymm h1 h2) (KZ a) (KZ b) ((K8 a).trans (h.trans (K8 b).symm))
theorem kY {a:List Int} (h:a.Pairwise (· < ·)):ZK a=a:=
 List.Perm.eq_of_pairwise (fun _ _ _ _ h1 h2=>Int.le_antisymm h1 h2) (KZ a) (h.imp fun h=>Int.le_of_lt h) (K8 a)
def ints (l:List Nat):List Int:=l.map Int.ofNat
def own (l:List Nat):List Int:=ZK (ints l)
theorem Pb (l:List Nat):(own l).length=l.length:=by unfold own;rw[(K8 _).length_eq];simp[ints]
def Oi (c:Nat) (l:List Nat):Bool:=l.any fun k=>c.testBit k
theorem I9 {c:Nat} {l:List Nat}:Oi c l=true↔∃ k∈l,c.testBit k=true:=by unfold Oi;simp
theorem Sa {c:Nat} {l m:List Nat} (h:l ⊆ m) (hh:Oi c l=true):Oi c m=true:=by
 obtain⟨k,hk,hb⟩:=I9.1 hh
 exact I9.2 ⟨k,h hk,hb⟩
def Hit (C:List Nat) (l:List Nat):Prop:=∀ c∈C,c=0∨Oi c l=true
def Gu (n c:Nat):List Nat:=(List.range n).filter c.testBit
section
variable (lt:List Int→List Int→Bool) (n:Nat)
def Ji (a b:List Int):Prop:=a.length < b.length∨(a.length=b.length∧lt a b=true)
def upd (st:Option (List Int)) (x:List Int):Option (List Int):=
 match st with
 | none=>some x
 | some b=>if x.length < b.length∨(x.length=b.length∧lt x b=true) then some x else some b
def W9 (st:Option (List Int)) (l:List Nat):Prop:=∃ b,st=some b∧l.length=b.length
open Classical in
noncomputable def Kb:List Nat→List Nat→Option (List Int)→Option (List Int)
 | [],l,st=>upd lt st (own l)
 | c::C,l,st=>if c=0∨Oi c l=true then Kb C l st else if W9 st l then st else (Gu n c).foldl (fun st k=>Kb C (l++[k]) st) st
def Yo (st:Option (List Int)) (x:List Int):Prop:=∃ b,st=some b∧(b=x∨Ji lt b x)
end
variable {lt:List Int→List Int→Bool} {n:Nat}
structure iU (lt:List Int→List Int→Bool):Prop where
 irr:∀ a,lt a a=false
 trans:∀ {a b c},lt a b=true→lt b c=true→lt a c=true
 tri:∀ {a b:List Int},a.length=b.length→a≠b→lt a b=false→lt b a=true
theorem Kg (ho:iU lt) {a b c:List Int} (h1:Ji lt a b) (h2:Ji lt b c):Ji lt a c:=by
 rcases h1 with h1 | ⟨e1,h1⟩ <;> rcases h2 with h2 | ⟨e2,h2⟩
 ·exact .inl (by omega)
 ·exact .inl (by omega)
 ·exact .inl (by omega)
 ·exact .inr ⟨by omega,ho.trans h1 h2⟩
theorem Xa (ho:iU lt) {a b:List Int} (h:¬ Ji lt a b):b=a∨Ji lt b a:=by
 by_cases e:a=b
 ·exact .inl e.symm
 ·unfold Ji at h
  have h1:¬ a.length < b.length:=fun g=>h (.inl g)
  by_cases hl:a.length=b.length
  ·have : lt a b = false := by
    cases hh:lt a b with
    | false=>rfl
    | true=>exact absurd (.inr ⟨hl,hh⟩) h
   exact .inr (.inr ⟨hl.symm,ho.tri hl e this⟩)
  ·exact .inr (.inl (by omega))
theorem ZL (ho:iU lt) {st:Option (List Int)} {a b:List Int} (h1:Yo lt st a) (h2:a=b∨Ji lt a b):Yo lt st b:=by
 obtain⟨x,hx,h⟩:=h1
 refine⟨x,hx,?_⟩
 rcases h with rfl | h
 ·exact h2
 ·rcases h2 with rfl | h2
  ·exact .inr h
  ·exact .inr (Kg ho h h2)
theorem kZ (ho:iU lt) (st:Option (List Int)) (x:List Int):Yo lt (upd lt st x) x:=by
 unfold upd
 cases st with
 | none=>exact⟨x,rfl,.inl rfl⟩
 | some b =>
  show Yo lt (if _ then _ else _) x
  by_cases h:x.length < b.length∨(x.length=b.length∧lt x b=true)
  ·rw[if_pos h];exact⟨x,rfl,.inl rfl⟩
  ·rw[if_neg h];exact⟨b,rfl,Xa ho h⟩
theorem Aba (ho:iU lt) {st:Option (List Int)} {y:List Int} (x:List Int) (h:Yo lt st y):Yo lt (upd lt st x) y:=by
 obtain⟨b,rfl,hb⟩:=h
 unfold upd
 show Yo lt (if _ then _ else _) y
 by_cases h:x.length < b.length∨(x.length=b.length∧lt x b=true)
 ·rw[if_pos h]
  refine⟨x,rfl,.inr ?_⟩
  rcases hb with rfl | hb
  ·exact h
  ·exact Kg ho h hb
 ·rw[if_neg h];exact⟨b,rfl,hb⟩
theorem UB (ho:iU lt) {y:List Int}:∀ (C l:List Nat) (st:Option (List Int)),Yo lt st y→Yo lt (Kb lt n C l st) y
 | [],l,st,h=>Aba ho _ h
 | c :: C, l, st, h => by
  unfold Kb
  by_cases h1:c=0∨Oi c l=true
  ·rw[if_pos h1];exact UB ho C l st h
  ·rw[if_neg h1]
   by_cases h2:W9 st l
   ·rw[if_pos h2];exact h
   ·rw[if_neg h2]
    have:∀ (B:List Nat) (st:Option (List Int)),Yo lt st y→Yo lt (B.foldl (fun st k=>Kb lt n C (l++[k]) st) st) y:=by
     intro B
     induction B with
     | nil=>exact fun st h=>h
     | cons k B ih=>exact fun st h=>ih _ (UB ho C (l++[k]) st h)
    exact this _ st h
theorem Gw {H:List Nat} (h:H.Pairwise (· < ·)):H.Nodup:=h.imp fun h e=>by omega
theorem QD {l H:List Nat} (hl:l.Nodup) (hH:H.Nodup) (hs:l ⊆ H):(H.filter fun a=>decide (a∈l)).Perm l:=(List.perm_ext_iff_of_nodup (hH.filter _) hl).2 fun a=>by
 rw[List.mem_filter,decide_eq_true_iff]
 exact⟨fun h=>h.2,fun h=>⟨hs h,h⟩⟩
theorem UC {l H:List Nat} (hl:l.Nodup) (hH:H.Nodup) (hs:l ⊆ H):l.length≤H.length:=by
 rw[←(QD hl hH hs).length_eq];exact List.length_filter_le _ _
theorem gT {l H:List Nat} (hl:l.Nodup) (hH:H.Nodup) (hs:l ⊆ H) (he:l.length=H.length):l.Perm H:=by
 have h:=QD hl hH hs
 have h2:(H.filter fun a=>decide (a∈l)).length=H.length:=by rw[h.length_eq,he]
 rw[List.filter_eq_self.2 (List.length_filter_eq_length_iff.1 h2)] at h
 exact h.symm
theorem gU {H:List Nat} (h:H.Pairwise (· < ·)):own H=ints H:=kY (by
 unfold ints
 rw[List.pairwise_map]
 exact h.imp fun h=>Int.ofNat_lt.2 h)
theorem Ou (ho:iU lt) {H:List Nat} (hH:H.Pairwise (· < ·)) (hn:∀ k∈H,k < n):∀ (C l:List Nat) (st:Option (List Int)),Hit C H→l.Nodup→l ⊆ H→Yo lt (Kb lt n C l st) (ints H)
 | [], l, st, _, hl, hs => by
  refine ZL ho (kZ ho st (own l)) ?_
  have h1:=UC hl (Gw hH) hs
  by_cases he:l.length=H.length
  ·left
   have hp:=gT hl (Gw hH) hs he
   rw[←gU hH]
   exact Ni (hp.map Int.ofNat)
  ·exact .inr (.inl (by rw[Pb];simp[ints];omega))
 | c :: C, l, st, hC, hl, hs => by
  have hC':Hit C H:=fun d hd=>hC d (by simp[hd])
  unfold Kb
  by_cases h1:c=0∨Oi c l=true
  ·rw[if_pos h1];exact Ou ho hH hn C l st hC' hl hs
  ·rw[if_neg h1]
   have hc:=(hC c (by simp)).resolve_left fun e=>h1 (.inl e)
   obtain⟨k,hk,hb⟩:=I9.1 hc
   have hkl:k ∉ l:=fun h=>h1 (.inr (I9.2 ⟨k,h,hb⟩))
   have hl':(l++[k]).Nodup:=List.nodup_append.2 ⟨hl,by simp,by intro a ha b hb e;rw[List.mem_singleton.1 hb] at e;rw[e] at ha;exact hkl ha⟩
   have hs':l++[k] ⊆ H:=fun a ha=>by
    rcases List.mem_append.1 ha with ha | ha
    ·exact hs ha
    ·rw[List.mem_singleton.1 ha];exact hk
   by_cases h2:W9 st l
   ·rw[if_pos h2]
    obtain⟨b,rfl,hb⟩:=h2
    have:=UC hl' (Gw hH) hs'
    refine⟨b,rfl,.inr (.inl ?_)⟩
    simp[ints] at *;omega
   ·rw[if_neg h2]
    have hkb:k∈Gu n c:=by unfold Gu;simp[hn k hk,hb]
    obtain⟨A,B,hAB⟩:=List.append_of_mem hkb
    rw[hAB,List.foldl_append,List.foldl_cons]
    have:∀ (B:List Nat) (st:Option (List Int)),Yo lt st (ints H)→Yo lt (B.foldl (fun st k=>Kb lt n C (l++[k]) st) st) (ints H):=by
     intro B
     induction B with
     | nil=>exact fun st h=>h
     | cons k B ih=>exact fun st h=>ih _ (UB ho C (l++[k]) st h)
    exact this B _ (Ou ho hH hn C (l++[k]) _ hC' hl' hs')
theorem OJ {G:List Int→Prop}:∀ (C l:List Nat) (st:Option (List Int)),l.Nodup→(∀ k∈l,k < n)→(∀ x,st=some x→G x)→(∀ m:List Nat,m.Nodup→(∀ k∈m,k < n)→l ⊆ m→Hit C m→G (own m))→∀ x,Kb lt n C l st=some x→G x
 | [], l, st, hl, hn, hst, hG, x, hx => by
  have h0:G (own l):=hG l hl hn (fun _ h=>h) (fun _ h=>by cases h)
  unfold Kb upd at hx
  cases st with
  | none=>injection hx with hx;rw[←hx];exact h0
  | some b =>
   replace hx:(if _ then _ else _)=some x:=hx
   by_cases h:(own l).length < b.length∨((own l).length=b.length∧lt (own l) b=true)
   ·rw[if_pos h] at hx;injection hx with hx;rw[←hx];exact h0
   ·rw[if_neg h] at hx;exact hst x hx
 | c :: C, l, st, hl, hn, hst, hG, x, hx => by
  unfold Kb at hx
  by_cases h1:c=0∨Oi c l=true
  ·rw[if_pos h1] at hx
   exact OJ C l st hl hn hst (fun m h2 h3 h4 h5=>hG m h2 h3 h4 fun d hd=>by
    rcases List.mem_cons.1 hd with rfl | hd
    ·exact h1.imp id fun h=>Sa h4 h
    ·exact h5 d hd) x hx
  ·rw[if_neg h1] at hx
   by_cases h2:W9 st l
   ·rw[if_pos h2] at hx;exact hst x hx
   ·rw[if_neg h2] at hx
    have key:∀ (B:List Nat),(∀ k∈B,k∈Gu n c)→∀ st:Option (List Int),(∀ x,st=some x→G x)→∀ x,B.foldl (fun st k=>Kb lt n C (l++[k]) st) st=some x→G x:=by
     intro B
     induction B with
     | nil=>exact fun _ st h=>h
     | cons k B ih =>
      intro hB st h
      have hk:=hB k (by simp)
      unfold Gu at hk
      obtain⟨hk1,hk2⟩:=List.mem_filter.1 hk
      have hkn:=List.mem_range.1 hk1
      have hkl:k ∉ l:=fun g=>h1 (.inr (I9.2 ⟨k,g,hk2⟩))
      refine ih (fun a ha=>hB a (by simp[ha])) _ ?_
      refine OJ C (l++[k]) st (List.nodup_append.2 ⟨hl,by simp,by intro a ha b hb e;rw[List.mem_singleton.1 hb] at e;rw[e] at ha;exact hkl ha⟩) (fun a ha=>?_) h fun m g1 g2 g3 g4=>?_
      ·rcases List.mem_append.1 ha with ha | ha
       ·exact hn a ha
       ·rw[List.mem_singleton.1 ha];exact hkn
      ·refine hG m g1 g2 (fun a ha=>g3 (by simp[ha])) fun d hd=>?_
       rcases List.mem_cons.1 hd with rfl | hd
       ·exact .inr (I9.2 ⟨k,g3 (by simp),hk2⟩)
       ·exact g4 d hd
    exact key _ (fun k h=>h) st hst x hx
structure ZM (lt:List Int→List Int→Bool) (n:Nat) (C:List Nat) (H:List Nat):Prop where
 asc:H.Pairwise (· < ·)
 rng:∀ k∈H,k < n
 hit:Hit C H
 least:∀ K:List Nat,K.Pairwise (· < ·)→(∀ k∈K,k < n)→Hit C K→H=K∨Ji lt (ints H) (ints K)
theorem gV {a b:List Nat} (h:ints a=ints b):a=b:=by
 unfold ints at h
 have:(a.map Int.ofNat).map Int.toNat=(b.map Int.ofNat).map Int.toNat:=by rw[h]
 simpa [Function.comp_def] using this
theorem ZM.uniq (ho:iU lt) {C H K:List Nat} (h1:ZM lt n C H) (h2:ZM lt n C K):H=K:=by
 rcases h1.least K h2.asc h2.rng h2.hit with h | h
 ·exact h
 ·rcases h2.least H h1.asc h1.rng h1.hit with g | g
  ·exact g.symm
  ·exfalso
   have:=Kg ho h g
   unfold Ji at this
   rw[ho.irr] at this
   rcases this with h | ⟨_,h⟩
   ·omega
   ·cases h
theorem Abb {m:List Nat} (hm:m.Nodup) (hn:∀ k∈m,k < n):∃ H:List Nat,H.Pairwise (· < ·)∧H.Perm m∧(∀ k∈H,k < n)∧own m=ints H:=by
 have h0:((List.range n).filter fun k=>m.contains k).Pairwise (· < ·):=List.pairwise_lt_range.filter _
 have hp:((List.range n).filter fun k=>m.contains k).Perm m:=(List.perm_ext_iff_of_nodup (Gw h0) hm).2 fun a=>by
  rw[List.mem_filter,List.mem_range]
  constructor
  ·rintro⟨_,h⟩;simpa using h
  ·exact fun h=>⟨hn a h,by simpa using h⟩
 refine⟨_,h0,hp,fun k hk=>hn k (hp.mem_iff.1 hk),?_⟩
 rw[←gU h0]
 exact Ni (hp.map Int.ofNat).symm
theorem ZN (ho:iU lt) {C:List Nat} (hC:∀ c∈C,c < 2 ^ n):∃ H,Kb lt n C [] none=some (ints H)∧ZM lt n C H:=by
 have hall:Hit C (List.range n):=fun c hc=>by
  by_cases h:c=0
  ·exact .inl h
  ·right
   obtain⟨k,hk⟩:=Nat.exists_testBit_of_ne_zero h
   refine I9.2 ⟨k,List.mem_range.2 ?_,hk⟩
   apply Classical.byContradiction
   intro hkn
   have:=Nat.testBit_lt_two_pow (x:=c) (i:=k) (Nat.lt_of_lt_of_le (hC c hc) (Nat.pow_le_pow_right (by omega) (by omega)))
   rw[this] at hk;cases hk
 obtain⟨b,hb,_⟩:=Ou ho (H:=List.range n) List.pairwise_lt_range (fun k h=>List.mem_range.1 h) C [] none hall (by simp) (by simp)
 obtain⟨m,h1,h2,h3,rfl⟩:=OJ (lt:=lt) (n:=n) (G:=fun x=>∃ m:List Nat,m.Nodup∧(∀ k∈m,k < n)∧Hit C m∧x=own m) C [] none (by simp) (by simp) (by simp) (fun m g1 g2 _ g4=>⟨m,g1,g2,g4,rfl⟩) b hb
 obtain⟨H,a1,a2,a3,a4⟩:=Abb h1 h2
 rw[a4] at hb
 refine⟨H,hb,a1,a3,fun c hc=>(h3 c hc).imp id fun h=>Sa a2.symm.subset h,fun K k1 k2 k3=>?_⟩
 obtain⟨x,hx,h⟩:=Ou ho k1 k2 C [] none k3 (by simp) (by simp)
 rw[hb] at hx
 injection hx with hx
 subst hx
 exact h.imp gV id
end Go.BkH
namespace Go.BkH
theorem UD (m k j:Nat):(2 ^ (k+1)*m+2 ^ k).testBit j=if j < k+1 then decide (j=k) else m.testBit (j - (k+1)):=by
 have h:2 ^ k < 2 ^ (k+1):=Nat.pow_lt_pow_right (by omega) (by omega)
 rw[Nat.testBit_two_pow_mul_add _ h,Nat.testBit_two_pow]
 by_cases hj:j < k+1
 ·rw[if_pos hj,if_pos hj]
  by_cases e:j=k
  ·simp[e]
  ·simp[e];omega
 ·rw[if_neg hj,if_neg hj]
theorem Wu (m k j:Nat):(2 ^ (k+1)*m+2 ^ k - 1).testBit j=if j < k+1 then decide (j < k) else m.testBit (j - (k+1)):=by
 have h0:1≤2 ^ k:=Nat.one_le_two_pow
 have h:2 ^ k - 1 < 2 ^ (k+1):=Nat.lt_of_le_of_lt (Nat.sub_le _ _) (Nat.pow_lt_pow_right (by omega) (by omega))
 rw[show 2 ^ (k+1)*m+2 ^ k - 1=2 ^ (k+1)*m+(2 ^ k - 1) from by omega,Nat.testBit_two_pow_mul_add _ h,Nat.testBit_two_pow_sub_one]
theorem gW {c:Nat} (h:c≠0):∃ m k,c=2 ^ (k+1)*m+2 ^ k:=by
 induction c using Nat.strongRecOn with
 | _ c ih =>
  by_cases he:c % 2=0
  ·obtain⟨m,k,e⟩:=ih (c / 2) (by omega) (by omega)
   refine⟨m,k+1,?_⟩
   have:c=2*(c / 2):=by omega
   rw[this,e,Nat.pow_succ 2 (k+1),Nat.pow_succ 2 k]
   rw[Nat.mul_add]
   have e1:2*(2 ^ k*2*m)=2 ^ k*2*2*m:=by rw[Nat.mul_comm (2 ^ k*2) 2,Nat.mul_assoc 2,]
   omega
  ·exact⟨c / 2,0,by simp;omega⟩
end Go.BkH
set_option maxRecDepth 100000
set_option maxHeartbeats 4000000
namespace Go.BkQ
open Go Go.Sp Go.BkMM Go.BkH
def Xb (x:List Int):Nat→Nat→List Nat→Nat
 | _,z,[]=>z
 | i,z,k::r=>Xb x (i+1) (if x.getD k 0=x.getD i 0 then z else z ||| 2 ^ i) r
def bM (x:List Int) (row:List Nat):Nat:=Xb x 0 0 row
theorem Wv (x:List Int):∀ (r:List Nat) (i z b:Nat),(Xb x i z r).testBit b=(z.testBit b || (decide (i≤b) && decide (b < i+r.length) && decide (x.getD (r.getD (b - i) 0) 0≠x.getD b 0)))
 | [], i, z, b => by
  unfold Xb
  by_cases h:i≤b
  ·rw[decide_eq_true h,decide_eq_false (show ¬ b < i+([]:List Nat).length from by simp;omega)];simp
  ·rw[decide_eq_false h];simp
 | k :: r, i, z, b => by
  unfold Xb
  rw[Wv x r (i+1)]
  by_cases e:b=i
  ·subst e
   rw[decide_eq_false (show ¬ b+1≤b from by omega),decide_eq_true (Nat.le_refl b),decide_eq_true (show b < b+(k::r).length from by simp),Nat.sub_self]
   by_cases h:x.getD k 0=x.getD b 0
   ·rw[if_pos h];simp at h ⊢;simp[h]
   ·rw[if_neg h,Nat.testBit_or,Nat.testBit_two_pow];simp at h ⊢;simp[h]
  ·have h1 : (if x.getD k 0 = x.getD i 0 then z else z ||| 2 ^ i).testBit b = z.testBit b := by
    split
    ·rfl
    ·rw[Nat.testBit_or,Nat.testBit_two_pow,decide_eq_false (fun h=>e h.symm),Bool.or_false]
   rw[h1]
   congr 1
   by_cases h:i≤b
   ·rw[decide_eq_true h,decide_eq_true (show i+1≤b from by omega),show b - i=(b - (i+1))+1 from by omega,List.getD_cons_succ]
    congr 2
    exact decide_eq_decide.2 (by simp;omega)
   ·rw[decide_eq_false h,decide_eq_false (show ¬ i+1≤b from by omega)];rfl
theorem UE (x:List Int) (row:List Nat) (b:Nat):(bM x row).testBit b=(decide (b < row.length) && decide (x.getD (row.getD b 0) 0≠x.getD b 0)):=by
 unfold bM
 rw[Wv];simp
theorem gX (x:List Int) (row:List Nat):bM x row < 2 ^ row.length:=by
 refine Nat.lt_pow_two_of_testBit _ fun i hi=>?_
 rw[UE,decide_eq_false (by omega)];rfl
theorem Ahk {k:Nat} (hk:k < 16):QW .u16 (1:Int) k = .ofNat (2 ^ k):=by
 have:k=0∨k=1∨k=2∨k=3∨k=4∨k=5∨k=6∨k=7∨k=8∨k=9∨k=10∨k=11∨k=12∨k=13∨k=14∨k=15:=by omega
 rcases this with rfl | rfl | rfl | rfl | rfl | rfl | rfl | rfl | rfl | rfl | rfl | rfl | rfl | rfl | rfl | rfl <;> rfl
theorem pE {k:Nat} (hk:k < 16):2 ^ k < 65536:=by
 have:2 ^ k < 2 ^ 16:=Nat.pow_lt_pow_right (by omega) hk
 simpa using this
theorem gY {a b:Nat} (ha:a < 65536) (hb:b < 65536):Nl .u16 a b=true:=by unfold Nl;simp[GA];omega
theorem AiQ {z k:Nat} (hk:k < 16) (hz:z < 65536):jF .u16 (.ofNat z) (QW .u16 (1:Int) k) = .ofNat (z ||| 2 ^ k):=by
 rw[Ahk hk]
 show bb (Nl .u16 z (2 ^ k)) (Int.ofNat (Nat.lor z (2 ^ k))) (YD .u16 (.ofNat z) (.ofNat (2 ^ k))) = .ofNat (z ||| 2 ^ k)
 rw[gY hz (pE hk)];rfl
theorem gZ {a b:Nat} (ha:a < 65536) (hb:b < 65536):Np .u16 (.ofNat a) (.ofNat b) = .ofNat (a &&& b):=by
 show bb (Nl .u16 a b) (Int.ofNat (Nat.land a b)) (PR .u16 (.ofNat a) (.ofNat b)) = .ofNat (a &&& b)
 rw[gY ha hb];rfl
theorem LP (pu:Af) (M f:Nat) {row:List Nat} {x:List Int} (hx:row.length=x.length) (hx16:x.length≤16) (hr:∀ k∈row,k < x.length):∀ (rest:List Nat) (w i z:Nat),row.drop i=rest→rest.length < w→z < 65536 →
 Gt pu M w (sl f x) (.ofNat z) ⟨len row,0,Fh row⟩ (.ofNat (len row)) (.ofNat i)=some (.int .u16 (.ofNat (Xb x i z rest)))
 | _,0,_,_,_,h,_=>by omega
 | [], w + 1, i, z, hd, _, _ => by
  have h1:row.length≤i:=List.drop_eq_nil_iff.1 hd
  show bb (AY (.ofNat i) (.ofNat (len row))) _ (some (Value.int .u16 (.ofNat z)))=_
  rw[Co,AV,decide_eq_false (by omega),AA];rfl
 | k :: rest, w + 1, i, z, hd, hw, hz => by
  obtain⟨hget,hd2,hi⟩:=gH hd
  have hrl:(k::rest).length=rest.length+1:=rfl
  have hk:=hr k (List.mem_of_mem_drop (i:=i) (by rw[hd];exact List.mem_cons_self))
  have hi3:i < x.length:=by omega
  have e1:x.getD k 0=x[k]:=by simp[List.getD_eq_getElem?_getD,hk]
  have e2:x.getD i 0=x[i]:=by simp[List.getD_eq_getElem?_getD,hi3]
  have ih:=fun z hz=>LP pu M f hx hx16 hr rest w (i+1) z hd2 (by omega) hz
  show Pt pu M (Gt pu M w) (sl f x) (.ofNat z) ⟨len row,0,Fh row⟩ (.ofNat (len row)) (.ofNat i)=_
  unfold Pt RQ Xb
  simp only[I8 (show i < len row from by rw[AV];exact hi),Ak,Cx,Ac,FY (show i < len row from by rw[AV];exact hi),hget,BP,I4,GX,FY hk,FY hi3,Qr hk,Qr hi3,Dn,DC i (by omega),AiQ (show i < 16 from by omega) hz,e1,e2]
  by_cases h:x[k]=x[i]
  ·rw[decide_eq_true h,show nt true=false from rfl,AA,if_pos h];exact ih z hz
  ·rw[decide_eq_false h,show nt false=true from rfl,Ak,if_neg h]
   exact ih _ (Nat.or_lt_two_pow (n:=16) hz (pE (by omega)))
theorem Ww (n f fl:Nat) {r c k t i:Nat} {us:List Nat} {x:List Int} (hg:(r,c,us)∈A7) (hi:us[i]?=some t) (hx:x.length=r*c) :
 Bp (n+1) 36 [QR r c k fl us,S f x,I (.ofNat i)]=some (.int .u16 (.ofNat (bM x (cellL r c t)))):=by
 have hp:=BO hg
 have ht:=List.mem_of_getElem? hi
 obtain⟨_,h1,h2⟩:=hp.row t ht
 have hrc:r*c≤16:=Nat.mul_le_mul hp.r4 hp.c4
 have g1:=LP (Bp n) L f (row:=cellL r c t) (x:=x) (by omega) (by omega) (fun j hj=>by rw[hx];exact h2 j hj) _ L 0 0 rfl (by rw[List.drop_zero,h1];show _ < 1000000;omega) (by omega)
 rw[List.drop_zero] at g1
 rw[p51]
 have hii:i < us.length:=(List.getElem?_eq_some_iff.1 hi).1
 have hn:AL (Nc r c us) (i*1)=some (Pj (cellL r c t)):=by
  rw[BZ,Nat.mul_one,show Nc r c us=us.map fun t=>Pj (cellL r c t) from Cc _ _,List.getElem?_map,hi];rfl
 show bb (an (Nat.blt i (len us)) true) (oo (AL (Nc r c us) (i*1)) none fun v5490=>(oo (Bj 1 v5490) none fun s5492=>(Gt (Bp n) L L (sl f x) (0:Int) s5492 (Int.ofNat (Sl.n s5492)) (0:Int)))) none=_
 rw[show Nat.blt i (len us)=true from by rw[blt_eq,AV];simpa using hii,show an true true=true from rfl,Ak,hn,Ac]
 exact g1
theorem Ahl {c:Nat} (h0:c≠0) (hc:c < 65536):Aj .u16 (Int.sub (.ofNat 0) (.ofNat c)) = .ofNat (65536 - c):=by
 rw[IM,IntKind.wrap_u16]
 show ((0:Int) - (c:Int)) % 65536=((65536 - c:Nat):Int)
 omega
theorem Ahm {c:Nat} (h0:c≠0) (hc:c < 65536):Aj .u16 (Int.sub (.ofNat c) 1) = .ofNat (c - 1):=by
 rw[IM,IntKind.wrap_u16]
 show ((c:Int) - 1) % 65536=((c - 1:Nat):Int)
 omega
theorem and_neg {m k:Nat} (hc:2 ^ (k+1)*m+2 ^ k < 65536):(2 ^ (k+1)*m+2 ^ k) &&& (65536 - (2 ^ (k+1)*m+2 ^ k))=2 ^ k:=by
 have h0:1≤2 ^ k:=Nat.one_le_two_pow
 apply Nat.eq_of_testBit_eq
 intro j
 have e:65536 - (2 ^ (k+1)*m+2 ^ k)=2 ^ 16 - ((2 ^ (k+1)*m+2 ^ k - 1)+1):=by omega
 rw[Nat.testBit_and,e,Nat.testBit_two_pow_sub_succ (by omega),Wu,UD,Nat.testBit_two_pow]
 by_cases hj:j < k+1
 ·rw[if_pos hj,if_pos hj]
  have hk16:k < 16:=(Nat.pow_lt_pow_iff_right (a:=2) (by omega)).1 (by omega:2 ^ k < 2 ^ 16)
  by_cases ek:j=k
  ·subst ek;simp[hk16]
  ·simp[ek,show ¬ k=j from fun h=>ek h.symm]
 ·rw[if_neg hj,if_neg hj,decide_eq_false (by omega:¬ k=j)]
  cases m.testBit (j - (k+1)) <;> simp
theorem lH (m k:Nat):(2 ^ (k+1)*m+2 ^ k) &&& (2 ^ (k+1)*m+2 ^ k - 1)=2 ^ (k+1)*m:=by
 apply Nat.eq_of_testBit_eq
 intro j
 rw[Nat.testBit_and,Wu,UD,Nat.testBit_two_pow_mul]
 by_cases hj:j < k+1
 ·rw[if_pos hj,if_pos hj,decide_eq_false (by omega:¬ j ≥ k+1)]
  by_cases ek:j=k
  ·subst ek;simp
  ·rw[decide_eq_false ek];rfl
 ·rw[if_neg hj,if_neg hj,decide_eq_true (by omega:j ≥ k+1)]
  cases m.testBit (j - (k+1)) <;> rfl
theorem iB {n m k:Nat} (hk:k < n):Gu n (2 ^ (k+1)*m+2 ^ k)=k::Gu n (2 ^ (k+1)*m):=by
 have h1:(Gu n (2 ^ (k+1)*m+2 ^ k)).Pairwise (· < ·):=List.pairwise_lt_range.filter _
 have h2:(Gu n (2 ^ (k+1)*m)).Pairwise (· < ·):=List.pairwise_lt_range.filter _
 have hb:∀ j,(2 ^ (k+1)*m).testBit j=true→k+1≤j:=fun j h=>by
  rw[Nat.testBit_two_pow_mul] at h
  by_cases hj:k+1≤j
  ·exact hj
  ·rw[decide_eq_false (by omega:¬ j ≥ k+1)] at h;cases h
 have h3:(k::Gu n (2 ^ (k+1)*m)).Pairwise (· < ·):=List.pairwise_cons.2 ⟨fun j hj=>by
  unfold Gu at hj
  have:=hb j (List.mem_filter.1 hj).2
  omega,h2⟩
 refine List.Perm.eq_of_pairwise (le:=(· < ·)) (fun a b _ _ h1 h2=>absurd h1 (by omega)) h1 h3 ((List.perm_ext_iff_of_nodup (Gw h1) (Gw h3)).2 fun j=>?_)
 unfold Gu
 rw[List.mem_cons,List.mem_filter,List.mem_filter,List.mem_range,UD,Nat.testBit_two_pow_mul]
 by_cases hj:j < k+1
 ·rw[if_pos hj,decide_eq_false (by omega:¬ j ≥ k+1)]
  simp
  intro h;omega
 ·rw[if_neg hj,decide_eq_true (by omega:j ≥ k+1)]
  simp
  intro h;omega
theorem AiR (k:Nat) (args:List Value):Bp (k+1) 47 args=m47 (Bp k) L args:=by kernel_rfl
noncomputable def tz (e:Nat):Option Value:=(oo (EA (G6 .u32 (Aj .u32 (Int.mul (Aj .u32 (.ofNat e)) (125613361:Int))) 27)) none fun k10163=>(bb (Nat.blt k10163 32) (oo (AL QH (0+k10163*1)) none fun v10166=>(oo (Bi .u8 v10166) none fun x10168=>(some (Value.int .i64 (Aj .i64 x10168))))) none))
noncomputable def tzB (k:Nat):Bool:=oo (tz (Nat.pow 2 k)) false fun v=>oo (Bi .i64 v) false fun x=>Bd x (.ofNat k)
theorem Xc:Au tzB (upN 16)=true:=by kernel_rfl
theorem Abc {k:Nat} (hk:k < 16):tz (2 ^ k)=some (I (.ofNat k)):=by
 have h:=Xc
 rw[Bh,List.all_eq_true] at h
 have h:=h k (by rw[OH];exact List.mem_range.2 hk)
 have h:oo (tz (2 ^ k)) false (fun v=>oo (Bi .i64 v) false fun x=>Bd x (.ofNat k))=true:=h
 cases e:tz (2 ^ k) with
 | none=>rw[e] at h;cases h
 | some v =>
  rw[e,Ac] at h
  cases e2:Bi .i64 v with
  | none=>rw[e2] at h;cases h
  | some x =>
   rw[e2,Ac,Dn] at h
   rw[Eh e2,of_decide_eq_true h]
theorem iC (n:Nat) {m k:Nat} (hc:2 ^ (k+1)*m+2 ^ k < 65536):Bp (n+1) 47 [.int .u16 (.ofNat (2 ^ (k+1)*m+2 ^ k))]=some (I (.ofNat k)):=by
 have h0:1≤2 ^ k:=Nat.one_le_two_pow
 have hk16:k < 16:=(Nat.pow_lt_pow_iff_right (a:=2) (by omega)).1 (by omega:2 ^ k < 2 ^ 16)
 have ha:=and_neg hc
 rw[AiR]
 show jC (Bp n) L (.ofNat (2 ^ (k+1)*m+2 ^ k))=_
 generalize 2 ^ (k+1)*m+2 ^ k=c at *
 unfold jC
 have hz:Bd (Int.ofNat c) 0=false:=by
  rw[Dn];exact decide_eq_false fun e=>by have:Int.ofNat c=Int.ofNat 0:=e;have:=Int.ofNat.inj this;rw[this] at ha;simp at ha;omega
 have hc0:c≠0:=fun e=>by rw[e] at ha;simp at ha;omega
 rw[hz,AA,Ahl hc0 hc,gZ hc (by omega),ha]
 exact Abc hk16
theorem lI {m k:Nat} (hc:2 ^ (k+1)*m+2 ^ k < 65536):Np .u16 (.ofNat (2 ^ (k+1)*m+2 ^ k)) (Aj .u16 (Int.sub (.ofNat (2 ^ (k+1)*m+2 ^ k)) (1:Int))) = .ofNat (2 ^ (k+1)*m):=by
 have h0:1≤2 ^ k:=Nat.one_le_two_pow
 rw[Ahm (by omega) hc,gZ hc (by omega),lH]
theorem Ahn {c k:Nat} (hc:c < 65536) (hk:k < 16):Bd (Np .u16 (G6 .u16 (.ofNat c) k) (1:Int)) (1:Int)=c.testBit k:=by
 have e1:G6 .u16 (.ofNat c) k = .ofNat (c / 2 ^ k):=by
  show Int.ofNat (Nat.div c (Nat.pow 2 (Nat.min k 16)))=_
  rw[show Nat.min k 16=k from Nat.min_eq_left (by omega)];rfl
 rw[e1,show (1:Int) = .ofNat 1 from rfl,gZ (Nat.lt_of_le_of_lt (Nat.div_le_self _ _) hc) (by omega),FN,Nat.testBit_eq_decide_div_mod_eq,Nat.and_one_is_mod]
 by_cases h:c / 2 ^ k % 2=1
 ·rw[h];rfl
 ·rw[decide_eq_false h]
  have:c / 2 ^ k % 2=0:=by omega
  rw[this];rfl
end Go.BkQ
set_option maxRecDepth 100000
set_option maxHeartbeats 4000000
namespace Go.BkQ
open Go Go.Sp Go.BkMM Go.BkH
def lJ:List Int→Nat
 | []=>2
 | _::_=>0
noncomputable def slN (l:List Int):Sl:=⟨l.length,lJ l,l.map I⟩
theorem WN (k:Nat) (args:List Value):Bp (k+1) 10420 args=Oz (Bp k) L args:=by kernel_rfl
theorem WM (k:Nat) (args:List Value):Bp (k+1) 10610 args=Oy (Bp k) L args:=by kernel_rfl
theorem WL (k:Nat) (args:List Value):Bp (k+1) 10410 args=Ox (Bp k) L args:=by kernel_rfl
theorem WO (k:Nat) (args:List Value):Bp (k+1) 10440 args=OA (Bp k) L args:=by kernel_rfl
theorem Uj (k:Nat) (args:List Value):Bp (k+1) 10400 args=LU (Bp k) L args:=by kernel_rfl
theorem q20 (k:Nat) (args:List Value):Bp (k+1) 20 args=m20 (Bp k) L args:=by kernel_rfl
theorem AiS (k:Nat) (args:List Value):Bp (k+1) 46 args=m46 (Bp k) L args:=by kernel_rfl
theorem Abd (n:Nat) {c k:Nat} (hc:c < 65536) (hk:k < 16):Bp (n+1) 10420 [I (.ofNat k),.pointer (some ⟨1,0,none⟩),.agg ⟨[.int .u16 (.ofNat c)]⟩]=some (.tuple ⟨[.bool (c.testBit k),.agg ⟨[.int .u16 (.ofNat c)]⟩]⟩):=by
 rw[WN]
 show K5 (Bp n) L (.ofNat k) (.ofNat c)=_
 unfold K5
 rw[Cx,Ac,Ahn hc hk]
theorem O1 (n M:Nat) {c:Nat} (hc:c < 65536) (l:List Nat) (hl:∀ k∈l,k < 16) (hl2:l.length < 1000):∀ (d w i:Nat),i+d=l.length→d < w →
 ∃ z:Int,Hz (Bp (n+1)) M w (slN (ints l)) (.ofNat l.length) (.ofNat i) (.ofNat c)=some (.tuple ⟨[I z,.agg ⟨[.int .u16 (.ofNat c)]⟩]⟩)∧nt (AY z 0)=Oi c (l.drop i)
 | _,0,_,_,h=>by omega
 | 0, w + 1, i, hd, _ => by
  refine⟨-1,?_,?_⟩
  ·show Hy (Bp (n+1)) M (Hz (Bp (n+1)) M w) (slN (ints l)) (.ofNat l.length) (.ofNat i) (.ofNat c)=_
   unfold Hy
   simp only[G5 (show ¬ i < l.length from by omega),AA]
   rfl
  ·rw[List.drop_eq_nil_of_le (by omega)];rfl
 | d + 1, w + 1, i, hd, hw => by
  have h1:i < l.length:=by omega
  have hn:(slN (ints l)).n=l.length:=by show (ints l).length=_;simp[ints]
  have hg:AL (slN (ints l)).cs (i*1)=some (I (.ofNat l[i])):=by
   show AL ((ints l).map I) (i*1)=_
   rw[BZ,Nat.mul_one];simp[ints,h1]
  have hb:=Abd n hc (hl _ (List.getElem_mem h1))
  have e:Oi c (l.drop i)=(c.testBit l[i] || Oi c (l.drop (i+1))):=by
   rw[List.drop_eq_getElem_cons h1];rfl
  obtain⟨z,ih1,ih2⟩:=O1 n M hc l hl hl2 d w (i+1) (by omega) (by omega)
  show ∃ z:Int,Hy (Bp (n+1)) M (Hz (Bp (n+1)) M w) (slN (ints l)) (.ofNat l.length) (.ofNat i) (.ofNat c)=_∧_
  unfold Hy
  simp only[I8 h1,Ak,Cx,Ac,hn,FY h1,hg,BP,hb,FW,Dj,EG,BU,RL,show ∀ q:Int,Bi .u16 (.int .u16 q)=some q from fun _=>rfl,DC i (by omega),e]
  cases c.testBit l[i] with
  | true=>exact⟨.ofNat i,rfl,rfl⟩
  | false =>
   refine⟨z,?_,by rw[ih2];rfl⟩
   rw[AA];exact ih1
theorem Abe (n:Nat) {c:Nat} (hc:c < 65536) (l:List Nat) (hl:∀ k∈l,k < 16) (hl2:l.length < 1000):Bp (n+3) 10410 [Sl.v 1 (slN (ints l)),.func (.func 42) ⟨[]⟩ ⟨[.pointer (some ⟨1,0,none⟩)]⟩,.agg ⟨[.int .u16 (.ofNat c)]⟩]=some (.tuple ⟨[.bool (Oi c l),.agg ⟨[.int .u16 (.ofNat c)]⟩]⟩):=by
 obtain⟨z,h1,h2⟩:=O1 n L hc l hl hl2 l.length L 0 (by omega) (by show _ < 1000000;omega)
 rw[List.drop_zero] at h2
 have h3:Bp (n+2) 10610 [Sl.v 1 (slN (ints l)),.func (.func 42) ⟨[]⟩ ⟨[.pointer (some ⟨1,0,none⟩)]⟩,.agg ⟨[.int .u16 (.ofNat c)]⟩]=some (.tuple ⟨[I z,.agg ⟨[.int .u16 (.ofNat c)]⟩]⟩):=by
  rw[WM]
  have hn:(slN (ints l)).n=l.length:=by show (ints l).length=_;simp[ints]
  show Hz (Bp (n+1)) L L (slN (ints l)) (Int.ofNat (slN (ints l)).n) 0 (.ofNat c)=_
  rw[hn];exact h1
 rw[WL]
 show K4 (Bp (n+2)) L (slN (ints l)) (.ofNat c)=_
 unfold K4
 simp only[h3,Ac,FW,Dj,EG,BP,RL,show ∀ q:Int,Bi .u16 (.int .u16 q)=some q from fun _=>rfl,h2]
def MF:Option (List Int)→Int
 | none=>64
 | some b=>.ofNat b.length
noncomputable def K3:Option (List Int)→Sl
 | none=>⟨0,2,[]⟩
 | some b=>slN b
noncomputable def Aho:Value:=(.func (.func 40) ⟨[]⟩ ⟨[.pointer (some ⟨1,0,none⟩),.pointer (some ⟨2,0,none⟩),.pointer (some ⟨3,0,none⟩),.pointer (some ⟨4,0,none⟩),.pointer (some ⟨5,0,none⟩)]⟩)
noncomputable def objs (r c k f g:Nat) (us:List Nat) (x:List Int) (st:Option (List Int)):List Value:=[.agg ⟨[Cv 0 (Eo r c k f us)]⟩,.agg ⟨[S g x]⟩,.agg ⟨[I (MF st)]⟩,.agg ⟨[Sl.v 1 (K3 st)]⟩,.agg ⟨[Aho]⟩]
noncomputable def UF (r c k f g:Nat) (us:List Nat) (x:List Int) (l:List Nat) (i:Nat) (st:Option (List Int)):List Value:=[Sl.v 1 (slN (ints l)),I (.ofNat i),.pointer (some ⟨1,0,none⟩),.pointer (some ⟨2,0,none⟩),.pointer (some ⟨3,0,none⟩),.pointer (some ⟨4,0,none⟩),.pointer (some ⟨5,0,none⟩)]++objs r c k f g us x st
noncomputable def Kh (r c k f g:Nat) (us:List Nat) (x:List Int) (st:Option (List Int)):Value:=.tuple ⟨.tuple ⟨[]⟩::objs r c k f g us x st⟩
theorem iD (pu:Af) (r c k f g:Nat) (us:List Nat) (x:List Int) (l:List Nat) (i:Nat) (st:Option (List Int)):LU pu L (UF r c k f g us x l i st)=Gp pu L L (slN (ints l)) (.ofNat i) 0 (Eo r c k f us) (sl g x) (MF st) (K3 st):=rfl
theorem Yp (r c k f:Nat) (us:List Nat):AL (Eo r c k f us) (0+0+3)=some (Sl.v 1 ⟨len us,f,Fh us⟩):=rfl
theorem Abf (n:Nat) (l:List Int):Bp (n+1) 46 [Sl.v 1 (slN l)]=some (Sl.v 1 (KY 1 (slN l))):=by
 rw[AiS]
 show jA (Bp n) L (slN l)=_
 unfold jA
 cases l with
 | nil=>rfl
 | cons a l=>rfl
theorem Yq (l:List Int):(KY 1 (slN l)).n=l.length∧(KY 1 (slN l)).cs=l.map I∧Dp (Nat.beq (KY 1 (slN l)).fl 1) (Nat.beq (KY 1 (slN l)).fl 2)=true:=by
 cases l with
 | nil=>exact⟨rfl,rfl,rfl⟩
 | cons a l =>
  refine⟨rfl,?_,rfl⟩
  show Aq (((a::l).length - 0)*1) (Am (0*1) ((a::l).map I))=_
  rw[Cg,Bz,Nat.zero_mul,List.drop_zero,Nat.sub_zero,Nat.mul_one,List.take_of_length_le (by simp)]
theorem lK (l:List Nat):(⟨len (ints l),bb (MQ (ints l)) 2 0,AP DL (CY (ints l))⟩:Sl)=slN (own l):=by
 have h1:len (ints l)=(own l).length:=by rw[AV,Pb];simp[ints]
 have h2:bb (MQ (ints l)) 2 0=lJ (own l):=by
  cases l with
  | nil=>rw[show own []=[] from List.mergeSort_nil];rfl
  | cons a l =>
   have h:=Pb (a::l)
   cases e:own (a::l) with
   | nil=>rw[e] at h;simp at h
   | cons b m=>rfl
 rw[h1,h2,Cc];rfl
theorem ZO (l:List Int):CG (Bi .i64) (l.map I)=some l:=by
 induction l with
 | nil=>rfl
 | cons a l ih =>
  show oo (some a) none (fun b=>oo (CG (Bi .i64) (l.map I)) none fun bs=>some (b::bs))=_
  rw[ih];rfl
section
variable {r c k f g:Nat} {us:List Nat} {x:List Int}
noncomputable def K9 (r c:Nat) (x:List Int) (us:List Nat):List Nat:=us.map fun t=>bM x (cellL r c t)
theorem iE {i:Nat} (hi:i < us.length):(K9 r c x us).drop i=bM x (cellL r c us[i])::(K9 r c x us).drop (i+1):=by
 unfold K9
 rw[List.drop_eq_getElem_cons (by simpa using hi)];simp
theorem Abg (hg:(r,c,us)∈A7) {i:Nat} (hi:i < us.length):bM x (cellL r c us[i]) < 2 ^ (r*c):=by
 have:=gX x (cellL r c us[i])
 rwa [((BO hg).row _ (List.getElem_mem hi)).2.1] at this
theorem Abh (n M:Nat) (hg:(r,c,us)∈A7) (l:List Nat) (hl:l.length≤8) (st:Option (List Int)) :
 Gn (Bp (n+4)) M (slN (ints l)) (.ofNat us.length) 0 (Eo r c k f us) (sl g x) (MF st) (K3 st)=some (Kh r c k f g us x (upd Jf st (own l))):=by
 have e1:Bp (n+4) 10440 [Sl.v 1 (slN (ints l))]=some (.tuple ⟨[.func (.func 64) ⟨[]⟩ ⟨[.pointer (some ⟨1,0,none⟩)]⟩,.agg ⟨[Sl.v 1 (slN (ints l))]⟩]⟩):=by
  rw[WO];rfl
 have e2:CG (Bi .i64) (slN (ints l)).cs=some (ints l):=ZO _
 have hll:len (ints l)=l.length:=by rw[AV];simp[ints]
 have e3:an (Nat.beq (len (ints l)) (slN (ints l)).n) (Nat.ble (len (ints l)) 1000000)=true:=by
  rw[hll,show (slN (ints l)).n=l.length from by show (ints l).length=_;simp[ints],show Nat.beq l.length l.length=true from by simp,show Nat.ble l.length 1000000=true from Nat.ble_eq_true_of_le (by omega)];rfl
 have ho:=Pb l
 have hon:(slN (own l)).n=(own l).length:=rfl
 have fin:∀ b:Bool,Jj (Bp (n+4)) M (slN (own l)) b 0 (Eo r c k f us) (sl g x) (MF st) (K3 st)=some (Kh r c k f g us x (if b then some (own l) else st)):=fun b=>by
  cases b <;> rfl
 unfold Gn
 simp only[Yp,Ac,Dc,FN,show Nat.beq us.length (len us)=true from by rw[AV];simp,Ak,e1,FW,Dj,EG,show Om 64 0 (.func (.func 64) ⟨[]⟩ ⟨[.pointer (some ⟨1,0,none⟩)]⟩)=some [.pointer (some ⟨1,0,none⟩)] from rfl,show MK (.pointer (some ⟨1,0,none⟩)) 1 0=true from rfl,RL,e2,e3,lK,hon,fin]
 try rw[show len (ints l)=(own l).length from by rw[hll,ho]]
 cases st with
 | none =>
  rw[show AY (Int.ofNat (own l).length) (MF none)=true from I8 (show (own l).length < 64 from by omega),Ak]
  rfl
 | some b =>
  show bb (AY (Int.ofNat (own l).length) (Int.ofNat b.length)) _ (bb (Bd (Int.ofNat (own l).length) (Int.ofNat b.length)) (oo (Bp (n+4) 45 [Sl.v 1 (slN (own l)),Sl.v 1 (slN b)]) none _) _)=some (Kh r c k f g us x (if (own l).length < b.length∨((own l).length=b.length∧Jf (own l) b=true) then some (own l) else some b))
  rw[Co,FN]
  have W:∀ h:(own l).length < b.length∨((own l).length=b.length∧Jf (own l) b=true),some (Kh r c k f g us x (some (own l)))=some (Kh r c k f g us x (if (own l).length < b.length∨((own l).length=b.length∧Jf (own l) b=true) then some (own l) else some b)):=fun h=>by rw[if_pos h]
  have V:∀ h:¬ ((own l).length < b.length∨((own l).length=b.length∧Jf (own l) b=true)),some (Kh r c k f g us x (some b))=some (Kh r c k f g us x (if (own l).length < b.length∨((own l).length=b.length∧Jf (own l) b=true) then some (own l) else some b)):=fun h=>by rw[if_neg h]
  by_cases h1:(own l).length < b.length
  ·rw[decide_eq_true h1,Ak];exact W (Or.inl h1)
  ·rw[decide_eq_false h1,AA]
   by_cases h2:(own l).length=b.length
   ·have h4:Bp (n+4) 45 [Sl.v 1 (slN (own l)),Sl.v 1 (slN b)]=some (I (cmpL (own l) b)):=Qw (n+1) _ _ h2 (by omega)
    rw[show Nat.beq (own l).length b.length=true from by rw[h2];simp,Ak,h4,Ac,BP,Ac,Ym]
    cases h3:Jf (own l) b with
    | true=>rw[h3] at W;exact W (Or.inr ⟨h2,rfl⟩)
    | false=>rw[h3] at V;exact V (fun h=>by rcases h with h | ⟨_,h⟩;exact h1 h;cases h)
   ·rw[show Nat.beq (own l).length b.length=false from Bool.eq_false_iff.2 fun h=>h2 (Nat.eq_of_beq_eq_true h),AA];exact V (fun h=>by rcases h with h | ⟨h,_⟩;exact h1 h;exact h2 h)
end
end Go.BkQ
set_option maxRecDepth 100000
set_option maxHeartbeats 4000000
namespace Go.BkQ
open Go Go.Sp Go.BkMM Go.BkH
theorem Xd (n:Nat):Gu n 0=[]:=by unfold Gu;simp
theorem lL (l:List Nat) (k:Nat):(⟨(KY 1 (slN (ints l))).n+1,0,Aq (((KY 1 (slN (ints l))).n+1)*1) (Am 0 (Br (KY 1 (slN (ints l))).cs [I (.ofNat k)]))⟩:Sl)=slN (ints (l++[k]))∧an (Nat.ble (0+((KY 1 (slN (ints l))).n+1)*1) (len (Br (KY 1 (slN (ints l))).cs ([I (.ofNat k)]:List Value)))) (Au Ah (Aq (((KY 1 (slN (ints l))).n+1)*1) (Am 0 (Br (KY 1 (slN (ints l))).cs ([I (.ofNat k)]:List Value)))))=true:=by
 obtain⟨h1,h2,_⟩:=Yq (ints l)
 have hl:(ints l).length=l.length:=by simp[ints]
 have e1:Br ((ints l).map I) [I (.ofNat k)]=(ints (l++[k])).map I:=by rw[BH];simp[ints]
 have e2:Aq ((l.length+1)*1) (Am 0 ((ints (l++[k])).map I))=(ints (l++[k])).map I:=by
  rw[Cg,Bz,List.drop_zero,Nat.mul_one,List.take_of_length_le (by simp[ints])]
 rw[h1,h2,hl,e1,e2]
 constructor
 ·have e3:(ints (l++[k])).length=l.length+1:=by simp[ints]
  have e4:lJ (ints (l++[k]))=0:=by
   cases h:ints (l++[k]) with
   | nil=>rw[h] at e3;simp at e3
   | cons a m=>rfl
  unfold slN
  rw[e3,e4]
 ·have e5:Nat.ble (0+(l.length+1)*1) (len ((ints (l++[k])).map I))=true:=Nat.ble_eq_true_of_le (by rw[AV];simp[ints])
  rw[e5,Bh]
  show (((ints (l++[k])).map I).all Ah)=true
  rw[List.all_eq_true]
  intro v hv
  obtain⟨z,_,rfl⟩:=List.mem_map.1 hv
  rfl
section
variable {r c k f g:Nat} {us:List Nat} {x:List Int}
def pF (r c k f g:Nat) (us:List Nat) (x:List Int) (N d:Nat):Prop:=∀ (i:Nat) (l:List Nat) (st:Option (List Int)),i+d=us.length→l.length≤i→(∀ k∈l,k < 16) →
 Bp N 10400 (UF r c k f g us x l i st)=some (Kh r c k f g us x (Kb Jf (r*c) ((K9 r c x us).drop i) l st))
theorem Sb (N M:Nat) {d i:Nat} (hg:(r,c,us)∈A7) (hS:pF r c k f g us x (N+1) d) (hi:i+1+d=us.length) (l:List Nat) (hl:l.length≤i) (hl16:∀ k∈l,k < 16):∀ (w e:Nat) (st:Option (List Int)),e < 2 ^ (r*c)→(Gu (r*c) e).length < w →
 KS (Bp (N+1)) M w (slN (ints l)) (.ofNat i) (.ofNat e) 0 (Eo r c k f us) (sl g x) (MF st) (K3 st)=some (Kh r c k f g us x ((Gu (r*c) e).foldl (fun st b=>Kb Jf (r*c) ((K9 r c x us).drop (i+1)) (l++[b]) st) st))
 | 0,_,_,_,h=>by omega
 | w + 1, e, st, he, hw => by
  have hp:=BO hg
  have hrc:r*c≤16:=Nat.mul_le_mul hp.r4 hp.c4
  have h8:us.length≤8:=hp.len8
  have he16:e < 65536:=Nat.lt_of_lt_of_le he (Nat.pow_le_pow_right (n:=2) (by omega) hrc)
  show KJ (Bp (N+1)) M (KS (Bp (N+1)) M w) (slN (ints l)) (.ofNat i) (.ofNat e) 0 (Eo r c k f us) (sl g x) (MF st) (K3 st)=_
  by_cases h0:e=0
  ·subst h0
   rw[Xd];rfl
  ·obtain⟨m,b,rfl⟩:=gW h0
   have hb:b < r*c:=(Nat.pow_lt_pow_iff_right (a:=2) (by omega)).1 (by omega:2 ^ b < 2 ^ (r*c))
   have hbits:=iB (m:=m) hb
   rw[hbits] at hw ⊢
   have hz:Bd (Int.ofNat (2 ^ (b+1)*m+2 ^ b)) 0=false:=by
    rw[show (0:Int) = .ofNat 0 from rfl,FN]
    exact Bool.eq_false_iff.2 fun h=>h0 (Nat.eq_of_beq_eq_true h)
   obtain⟨a1,a2⟩:=lL l b
   obtain⟨c1,c2,c3⟩:=Yq (ints l)
   have hroom:EQ ((KY 1 (slN (ints l))).n+1) 8=true:=by
    rw[c1,show (ints l).length=l.length from by simp[ints]]
    have:l.length≤8:=by omega
    generalize l.length=q at this
    have:q=0∨q=1∨q=2∨q=3∨q=4∨q=5∨q=6∨q=7∨q=8:=by omega
    rcases this with rfl | rfl | rfl | rfl | rfl | rfl | rfl | rfl | rfl <;> rfl
   have hcall:=hS (i+1) (l++[b]) st (by omega) (by simp;omega) (fun a ha=>by
    rcases List.mem_append.1 ha with ha | ha
    ·exact hl16 a ha
    ·rw[List.mem_singleton.1 ha];omega)
   have ih:=Sb N M hg hS hi l hl hl16 w (2 ^ (b+1)*m) (Kb Jf (r*c) ((K9 r c x us).drop (i+1)) (l++[b]) st) (Nat.lt_of_le_of_lt (Nat.le_add_right _ _) he) (by rw[List.length_cons] at hw;omega)
   rw[List.foldl_cons,←ih]
   unfold UF objs at hcall
   unfold KJ
   rw[hz,show nt false=true from rfl,Ak,Abf,Ac,Dc,Ac,iC N he16,Ac,BP,Ac,c3,hroom,show an true true=true from rfl,Ak,a2,Ak,a1,DC i (by omega)]
   refine Eq.trans (congrArg (fun q=>oo q none _) hcall) ?_
   rw[lI he16]
   rfl
theorem OL (hg:(r,c,us)∈A7) (hx:x.length=r*c):∀ (d N i w:Nat) (l:List Nat) (st:Option (List Int)),d+4≤N→i+d=us.length→d < w→l.length≤i→(∀ k∈l,k < 16) →
 Gp (Bp N) L w (slN (ints l)) (.ofNat i) 0 (Eo r c k f us) (sl g x) (MF st) (K3 st)=some (Kh r c k f g us x (Kb Jf (r*c) ((K9 r c x us).drop i) l st))
 | _,_,_,0,_,_,_,_,h,_,_=>by omega
 | 0, N, i, w + 1, l, st, hN, hi, _, hl, hl16 => by
  obtain⟨N,rfl⟩:∃ N',N=N'+4:=⟨N - 4,by omega⟩
  have h8:us.length≤8:=(BO hg).len8
  have hii:i=us.length:=by omega
  subst hii
  show Hw (Bp (N+4)) L (Gp (Bp (N+4)) L w) (slN (ints l)) (.ofNat us.length) 0 (Eo r c k f us) (sl g x) (MF st) (K3 st)=_
  unfold Hw
  rw[Yp,Ac,Dc,Ac,show AY (Int.ofNat us.length) (Int.ofNat (Sl.n (⟨len us,f,Fh us⟩:Sl)))=false from by rw[Co];exact decide_eq_false (by show ¬ us.length < len us;rw[AV];omega),AA,Abh N L hg l (by omega) st]
  rw[show (K9 r c x us).drop us.length=[] from List.drop_eq_nil_of_le (by unfold K9;simp)]
  rfl
 | d + 1, N, i, w + 1, l, st, hN, hi, hw, hl, hl16 => by
  obtain⟨N,rfl⟩:∃ N',N=N'+1:=⟨N - 1,by omega⟩
  have hp:=BO hg
  have hrc:r*c≤16:=Nat.mul_le_mul hp.r4 hp.c4
  have h8:us.length≤8:=hp.len8
  have hiu:i < us.length:=by omega
  have hS:pF r c k f g us x (N+1) d:=fun i l st h1 h2 h3=>by
   rw[Uj,iD]
   exact OL hg hx d N i L l st (by omega) h1 (by show _ < 1000000;omega) h2 h3
  have ih:=OL hg hx d (N+1) (i+1) w l st (by omega) (by omega) (by omega) (by omega) hl16
  have hch:Bp (N+1) 36 [Cv 0 (Eo r c k f us),Sl.v 1 (sl g x),I (.ofNat i)]=some (.int .u16 (.ofNat (bM x (cellL r c us[i])))):=Ww N g f hg (List.getElem?_eq_getElem hiu) hx
  have hcin:=Abg (x:=x) hg hiu
  have hc16:bM x (cellL r c us[i]) < 65536:=Nat.lt_of_lt_of_le hcin (Nat.pow_le_pow_right (n:=2) (by omega) hrc)
  rw[iE hiu]
  generalize bM x (cellL r c us[i])=e at *
  show Hw (Bp (N+1)) L (Gp (Bp (N+1)) L w) (slN (ints l)) (.ofNat i) 0 (Eo r c k f us) (sl g x) (MF st) (K3 st)=_
  unfold Hw Kb
  rw[Yp,Ac,Dc,Ac,show AY (Int.ofNat i) (Int.ofNat (Sl.n (⟨len us,f,Fh us⟩:Sl)))=true from by rw[Co];exact decide_eq_true (by show i < len us;rw[AV];omega),Ak,hch,Ac,show Bi .u16 (.int .u16 (.ofNat e))=some (.ofNat e) from rfl,Ac,show (0:Int) = .ofNat 0 from rfl,FN]
  have skip:Jv (Bp (N+1)) L (Gp (Bp (N+1)) L w) (slN (ints l)) (.ofNat i) false 0 (Eo r c k f us) (sl g x) (MF st) (K3 st)=some (Kh r c k f g us x (Kb Jf (r*c) ((K9 r c x us).drop (i+1)) l st)):=by
   unfold Jv
   rw[AA,DC i (by omega)]
   exact ih
  by_cases h0:e=0
  ·rw[if_pos (.inl h0),h0]
   exact skip
  ·rw[show Nat.beq e 0=false from Bool.eq_false_iff.2 fun h=>h0 (Nat.eq_of_beq_eq_true h),show nt false=true from rfl,Ak]
   obtain⟨N',rfl⟩:∃ N',N=N'+2:=⟨N - 2,by omega⟩
   rw[Abe N' hc16 l hl16 (by omega)]
   cases hh:Oi e l with
   | true=>rw[if_pos (.inr rfl)];exact skip
   | false =>
    rw[if_neg (fun h=>by rcases h with h | h;exact h0 h;cases h)]
    show Gn (Bp (N'+2+1)) L (slN (ints l)) (.ofNat i) 0 (Eo r c k f us) (sl g x) (MF st) (K3 st)=_
    have hln:(slN (ints l)).n=l.length:=by show (ints l).length=_;simp[ints]
    have hbl := Sb (k := k) (f := f) (g := g) (N' + 2) L hg hS (by omega) l hl hl16 L e st hcin (by
     have:(Gu (r*c) e).length≤r*c:=by unfold Gu;exact Nat.le_trans (List.length_filter_le _ _) (by simp)
     show _ < 1000000;omega)
    unfold Gn
    rw[Yp,Ac,Dc,Ac,show Bd (Int.ofNat i) (Int.ofNat (Sl.n (⟨len us,f,Fh us⟩:Sl)))=false from by rw[FN];exact Bool.eq_false_iff.2 fun h=>by have:=Nat.eq_of_beq_eq_true h;rw[show (Sl.n (⟨len us,f,Fh us⟩:Sl))=len us from rfl,AV] at this;omega,AA,hln]
    cases st with
    | none =>
     rw[show Bd (Int.ofNat l.length) (MF none)=false from by rw[show MF none = .ofNat 64 from rfl,FN];exact Bool.eq_false_iff.2 fun h=>by have:=Nat.eq_of_beq_eq_true h;omega,AA,hch,Ac,if_neg (fun h=>by obtain⟨b,hb,_⟩:=h;cases hb)]
     exact hbl
    | some b =>
     rw[show MF (some b) = .ofNat b.length from rfl,FN]
     by_cases hf:l.length=b.length
     ·rw[if_pos ⟨b,rfl,hf⟩,show Nat.beq l.length b.length=true from by rw[hf];simp,Ak];rfl
     ·rw[if_neg (fun h=>by obtain⟨q,hq,hh⟩:=h;injection hq with hq;rw[hq] at hf;exact hf hh),show Nat.beq l.length b.length=false from Bool.eq_false_iff.2 fun h=>hf (Nat.eq_of_beq_eq_true h),AA,hch,Ac]
      exact hbl
theorem AiT (hg:(r,c,us)∈A7) (hx:x.length=r*c) (n:Nat):Bp (n+13) 10400 (UF r c k f g us x [] 0 none)=some (Kh r c k f g us x (Kb Jf (r*c) (K9 r c x us) [] none)):=by
 have h8:us.length≤8:=(BO hg).len8
 rw[Uj,iD]
 have:=OL (k:=k) (f:=f) (g:=g) hg hx us.length (n+12) 0 L [] none (by omega) (by omega) (by show _ < 1000000;omega) (by simp) (by simp)
 rw[List.drop_zero] at this
 exact this
end
end Go.BkQ
set_option maxRecDepth 100000
set_option maxHeartbeats 4000000
namespace Go.BkQ
open Go Go.Sp Go.BkMM Go.BkH
theorem iF:nt (Bd (0:Int) 0)=false:=rfl
theorem pG (n f g:Nat) {r c k:Nat} {us:List Nat} {x:List Int} (hg:(r,c,us)∈A7) (hk:k=1∨k=2∨k=3∨k=4) (hR:Je r c k x):Bp (n+8) 14 [Gy r c k f us,S g x]=some (.tuple ⟨[SR (LZ r c x us),I 0]⟩):=by
 have h1:=Ke n f g hg hk hR
 have h2:=Aa8 n f g (k:=k) hg hR.1 (List.length_pos_of_mem (Ws hg))
 rw[p20]
 show iW (Bp (n+7)) L (.ofNat r) (.ofNat c) (.ofNat k) ⟨len us,f,Fh us⟩ (sl g x)=_
 have h1':Bp (n+7) 32 [.agg ⟨[I (.ofNat r),I (.ofNat c),I (.ofNat k),Sl.v 1 ⟨len us,f,Fh us⟩]⟩,(Sl.v 1 (Sl.mk 1 0 (Aq (1*1) (Am 0 ([(Sl.v 1 (sl g x))]:List Value)))))]=some (.tuple ⟨[Cv 0 (Eo r c k f us),I 0]⟩):=h1
 have h2':Bp (n+7) 35 [Cv 0 (Eo r c k f us),Sl.v 1 (sl g x)]=some (Sl.v 1 ⟨(LZ r c x us).length,0,RW (LZ r c x us)⟩):=h2
 unfold iW
 simp only[h1',Ac,FW,Dj,EG,UA,NA,Ak,BP,iF,AA,h2',Dc]
 rfl
theorem Yr (n f g:Nat) {r c k:Nat} {us:List Nat} {x:List Int} (hg:(r,c,us)∈A7) (hk:k=1∨k=2∨k=3∨k=4) (hR:Je r c k x):Bp (n+8) 15 [Gy r c k f us,S g x]=some (.tuple ⟨[S 0 (Fb r c x us),I 0]⟩):=by
 have h1:=Ke n f g hg hk hR
 rw[p15]
 show iX (Bp (n+7)) L (.ofNat r) (.ofNat c) (.ofNat k) ⟨len us,f,Fh us⟩ (sl g x)=_
 have h1':Bp (n+7) 32 [.agg ⟨[I (.ofNat r),I (.ofNat c),I (.ofNat k),Sl.v 1 ⟨len us,f,Fh us⟩]⟩,(Sl.v 1 (Sl.mk 1 0 (Aq (1*1) (Am 0 ([(Sl.v 1 (sl g x))]:List Value)))))]=some (.tuple ⟨[Cv 0 (Eo r c k f us),I 0]⟩):=h1
 have h2:=L6 (n+6) L f g (k:=k) hg hR.1 us L 0 0 [] List.drop_zero (by have:=(BO hg).len8;show _ < 1000000;omega) (Nat.le_refl _) rfl rfl
 unfold iX
 simp only[h1',Ac,FW,Dj,EG,UA,NA,Ak,BP,iF,AA,show AL (Eo r c k f us) (0+0+3)=some (Sl.v 1 ⟨len us,f,Fh us⟩) from rfl,Dc]
 exact h2
theorem Yt:iU Jf:=⟨O9,fun h1 h2=>JO h1 h2,fun h1 h2 h3=>Nh h1 h2 h3⟩
theorem Yu (n f g:Nat) {r c k:Nat} {us:List Nat} {x:List Int} (hg:(r,c,us)∈A7) (hk:k=1∨k=2∨k=3∨k=4) (hR:Je r c k x):∃ H,ZM Jf (r*c) (K9 r c x us) H∧Bp (n+14) 20 [Gy r c k f us,S g x]=some (.tuple ⟨[Sl.v 1 (slN (ints H)),I 0]⟩):=by
 obtain⟨H,h1,h2⟩:=ZN Yt (n:=r*c) (C:=K9 r c x us) (fun e he=>by
  unfold K9 at he
  obtain⟨t,ht,rfl⟩:=List.mem_map.1 he
  have:=gX x (cellL r c t)
  rwa [((BO hg).row t ht).2.1] at this)
 refine⟨H,h2,?_⟩
 have h3:=Ke (n+6) f g hg hk hR
 have h4:=AiT (k:=k) (f:=f) (g:=g) hg hR.1 n
 rw[h1] at h4
 have h3':Bp (n+13) 32 [.agg ⟨[I (.ofNat r),I (.ofNat c),I (.ofNat k),Sl.v 1 ⟨len us,f,Fh us⟩]⟩,(Sl.v 1 (Sl.mk 1 0 (Aq (1*1) (Am 0 ([(Sl.v 1 (sl g x))]:List Value)))))]=some (.tuple ⟨[Cv 0 (Eo r c k f us),I 0]⟩):=h3
 rw[q20]
 show iY (Bp (n+13)) L (.ofNat r) (.ofNat c) (.ofNat k) ⟨len us,f,Fh us⟩ (sl g x)=_
 unfold iY
 simp only[h3',Ac,FW,Dj,EG,UA,NA,Ak,BP,iF,AA]
 refine Eq.trans (congrArg (fun q=>oo q none _) h4) ?_
 rfl
end Go.BkQ
set_option maxRecDepth 100000
set_option maxHeartbeats 4000000
namespace Go.BkQ
open Go Go.Sp Go.BkMM
theorem iG:∀ {a b:List Nat},eqL a b=true→a=b
 | [],[],_=>rfl
 | [],_::_,h=>by cases h
 | _::_,[],h=>by cases h
 | x :: a, y :: b, h => by
  obtain⟨h1,h2⟩:=Av (show an (Nat.beq x y) (eqL a b)=true from h)
  rw[Nat.eq_of_beq_eq_true h1,iG h2]
def four:List Nat:=[1,2,3,4]
def Wx:List (Nat×Nat×Nat):=four.flatMap fun r=>four.flatMap fun c=>four.map fun k=>(r,c,k)
noncomputable def UG (x:Nat→Int) (k:Nat) (l:List Nat):List Value:=AP (fun i=>I (Int.tmod (Aj .i64 (x i)) (.ofNat k))) l
theorem ZP (pu : Af) (y0 y1 y2 y3 : Int) (x : Nat → Int) (s : Sl) : AP (fun p : Nat × Nat × Nat => UX pu L L 0 0 (Aj .i64 (Int.mul (.ofNat p.1) (.ofNat p.2.1))) 0 [.int .u8 y0, .int .u8 y1, .int .u8 y2, .int .u8 y3, .int .u8 (x 0), .int .u8 (x 1), .int .u8 (x 2), .int .u8 (x 3), .int .u8 (x 4), .int .u8 (x 5), .int .u8 (x 6), .int .u8 (x 7), .int .u8 (x 8), .int .u8 (x 9), .int .u8 (x 10), .int .u8 (x 11), .int .u8 (x 12), .int .u8 (x 13), .int .u8 (x 14), .int .u8 (x 15)] 0 0 0 (.ofNat p.1) (.ofNat p.2.1) (.ofNat p.2.2) s []) Wx
 = AP (fun p:Nat×Nat×Nat=>some (.tuple ⟨[.agg ⟨[I (.ofNat p.1),I (.ofNat p.2.1),I (.ofNat p.2.2),Sl.v 1 s]⟩,Sl.v 1 ⟨p.1*p.2.1,0,UG x p.2.2 (upN (p.1*p.2.1))⟩]⟩)) Wx:=by kernel_rfl
def Ahp:List (List Nat):=[[0],[0,2],[0,4],[0,5],[0,2,4,5],[0,1,2,3],[0,6],[0,7],[0,2,6,7],[0,1,2,3,4,5,6,7]]
noncomputable def ZQ:List Value:=AP (fun us=>Sl.v 1 ⟨len us,0,Fh us⟩) Ahp
noncomputable def Yv (g:Nat):List Nat:=oo (AL Ahp g) [] fun us=>us
theorem iH:AP (fun g=>AL ZQ (0+g*1)) (upN 10)=AP (fun g=>some (Sl.v 1 ⟨len (Yv g),0,Fh (Yv g)⟩)) (upN 10):=by kernel_rfl
noncomputable def iI:Bool:=Au (fun r=>Au (fun c=>Au (fun g=>AaR r c (Yv g)) (upN (bb (Nat.beq r c) 10 5))) four) four
theorem Sc:iI=true:=by kernel_rfl
theorem Sd {r c:Nat} {us:List Nat} (h:AaR r c us=true):(r,c,us)∈A7:=by
 unfold AaR at h
 revert h
 generalize A7=g
 intro h
 induction g with
 | nil=>cases h
 | cons p l ih =>
  rcases Ug (show Dp (an (Nat.beq p.1 r) (an (Nat.beq p.2.1 c) (eqL p.2.2 us))) (List.rec (motive:=fun _=>Bool) false (fun p _ ih=>Dp (an (Nat.beq p.1 r) (an (Nat.beq p.2.1 c) (eqL p.2.2 us))) ih) l)=true from h) with h | h
  ·obtain⟨h1,h⟩:=Av h
   obtain⟨h2,h3⟩:=Av h
   obtain⟨p1,p2,p3⟩:=p
   rw[show p1=r from Nat.eq_of_beq_eq_true h1,show p2=c from Nat.eq_of_beq_eq_true h2,show p3=us from iG h3]
   exact List.mem_cons_self
  ·exact List.mem_cons_of_mem _ (ih h)
noncomputable def a4 (y:Int):Int:=Aj .i64 (Int.add 1 (Int.tmod (Aj .i64 y) 4))
noncomputable def a3 (y:Int):Int:=Aj .i64 (Int.add 1 (Int.tmod (Aj .i64 y) 3))
theorem ZR (n:Nat) (y0 y1 y2 y3:Int) (x:Nat→Int):Bp (n+1) 9 [.agg ⟨[.int .u8 y0,.int .u8 y1,.int .u8 y2,.int .u8 y3,.int .u8 (x 0),.int .u8 (x 1),.int .u8 (x 2),.int .u8 (x 3),.int .u8 (x 4),.int .u8 (x 5),.int .u8 (x 6),.int .u8 (x 7),.int .u8 (x 8),.int .u8 (x 9),.int .u8 (x 10),.int .u8 (x 11),.int .u8 (x 12),.int .u8 (x 13),.int .u8 (x 14),.int .u8 (x 15)]⟩,I 4,I 3]=bb (Bd (a4 y0) (a4 y1)) (QJ (Bp n) L 10 21 10 [.int .u8 y0,.int .u8 y1,.int .u8 y2,.int .u8 y3,.int .u8 (x 0),.int .u8 (x 1),.int .u8 (x 2),.int .u8 (x 3),.int .u8 (x 4),.int .u8 (x 5),.int .u8 (x 6),.int .u8 (x 7),.int .u8 (x 8),.int .u8 (x 9),.int .u8 (x 10),.int .u8 (x 11),.int .u8 (x 12),.int .u8 (x 13),.int .u8 (x 14),.int .u8 (x 15)] 0 0 0 (a4 y0) (a4 y1) (a3 y2) ZQ) (QJ (Bp n) L 10 21 5 [.int .u8 y0,.int .u8 y1,.int .u8 y2,.int .u8 y3,.int .u8 (x 0),.int .u8 (x 1),.int .u8 (x 2),.int .u8 (x 3),.int .u8 (x 4),.int .u8 (x 5),.int .u8 (x 6),.int .u8 (x 7),.int .u8 (x 8),.int .u8 (x 9),.int .u8 (x 10),.int .u8 (x 11),.int .u8 (x 12),.int .u8 (x 13),.int .u8 (x 14),.int .u8 (x 15)] 0 0 0 (a4 y0) (a4 y1) (a3 y2) ZQ):=by kernel_rfl
theorem lM (pu:Af) (y0 y1 y2 y3 R C K lim:Int) (x:Nat→Int) {G:Nat} {us:List Nat} (h1:nt (Bd lim 0)=true) (h2:Int.tmod (Aj .i64 y3) lim = .ofNat G) (h3:G < 10) (h4:AL ZQ (0+G*1)=some (Sl.v 1 ⟨len us,0,Fh us⟩)) :
 QJ pu L 10 21 lim [.int .u8 y0,.int .u8 y1,.int .u8 y2,.int .u8 y3,.int .u8 (x 0),.int .u8 (x 1),.int .u8 (x 2),.int .u8 (x 3),.int .u8 (x 4),.int .u8 (x 5),.int .u8 (x 6),.int .u8 (x 7),.int .u8 (x 8),.int .u8 (x 9),.int .u8 (x 10),.int .u8 (x 11),.int .u8 (x 12),.int .u8 (x 13),.int .u8 (x 14),.int .u8 (x 15)] 0 0 0 R C K ZQ=UX pu L L 0 0 (Aj .i64 (Int.mul R C)) 0 [.int .u8 y0,.int .u8 y1,.int .u8 y2,.int .u8 y3,.int .u8 (x 0),.int .u8 (x 1),.int .u8 (x 2),.int .u8 (x 3),.int .u8 (x 4),.int .u8 (x 5),.int .u8 (x 6),.int .u8 (x 7),.int .u8 (x 8),.int .u8 (x 9),.int .u8 (x 10),.int .u8 (x 11),.int .u8 (x 12),.int .u8 (x 13),.int .u8 (x 14),.int .u8 (x 15)] 0 0 0 R C K ⟨len us,0,Fh us⟩ []:=by
 have e3:AL ([.int .u8 y0,.int .u8 y1,.int .u8 y2,.int .u8 y3,.int .u8 (x 0),.int .u8 (x 1),.int .u8 (x 2),.int .u8 (x 3),.int .u8 (x 4),.int .u8 (x 5),.int .u8 (x 6),.int .u8 (x 7),.int .u8 (x 8),.int .u8 (x 9),.int .u8 (x 10),.int .u8 (x 11),.int .u8 (x 12),.int .u8 (x 13),.int .u8 (x 14),.int .u8 (x 15)]:List Value) 3=some (.int .u8 y3):=rfl
 have ec:Au Ah ([.int .u8 y0,.int .u8 y1,.int .u8 y2,.int .u8 y3,.int .u8 (x 0),.int .u8 (x 1),.int .u8 (x 2),.int .u8 (x 3),.int .u8 (x 4),.int .u8 (x 5),.int .u8 (x 6),.int .u8 (x 7),.int .u8 (x 8),.int .u8 (x 9),.int .u8 (x 10),.int .u8 (x 11),.int .u8 (x 12),.int .u8 (x 13),.int .u8 (x 14),.int .u8 (x 15)]:List Value)=true:=rfl
 unfold QJ
 simp only[e3,ec,show Bi .u8 (.int .u8 y3)=some y3 from rfl,h1,Ak,h2,Cx,Ac,FY h3,h4,Dc]
theorem ZT {y:Int} (h:0≤y∧y < 256):Aj .i64 y=y:=by
 obtain⟨m,rfl⟩:=Int.eq_ofNat_of_zero_le h.1
 exact Oe _ (by omega) (by omega)
theorem Kc {y:Int} (h:0≤y∧y < 256) {m:Nat} (hm:0 < m):∃ A,A < m∧Int.tmod (Aj .i64 y) (.ofNat m) = .ofNat A:=by
 rw[ZT h]
 obtain⟨a,rfl⟩:=Int.eq_ofNat_of_zero_le h.1
 exact⟨a % m,Nat.mod_lt _ hm,rfl⟩
theorem Ahq {y:Int} (h:0≤y∧y < 256):∃ A,(A=1∨A=2∨A=3)∧a3 y = .ofNat A:=by
 obtain⟨A,hA,e⟩:=Kc h (m:=3) (by omega)
 refine⟨A+1,by omega,?_⟩
 unfold a3
 rw[show (3:Int) = .ofNat 3 from rfl,e]
 obtain rfl | rfl | rfl:A=0∨A=1∨A=2:=by omega
 all_goals rfl
theorem pI {y:Int} (h:0≤y∧y < 256):∃ A,A∈four∧a4 y = .ofNat A:=by
 obtain⟨A,hA,e⟩:=Kc h (m:=4) (by omega)
 refine⟨A+1,?_,?_⟩
 ·obtain rfl | rfl | rfl | rfl:A=0∨A=1∨A=2∨A=3:=by omega
  all_goals simp[four]
 ·unfold a4
  rw[show (4:Int) = .ofNat 4 from rfl,e]
  obtain rfl | rfl | rfl | rfl:A=0∨A=1∨A=2∨A=3:=by omega
  all_goals rfl
theorem bI {r c k:Nat} (hr:r∈four) (hc:c∈four) (hk:k∈four):(r,c,k)∈Wx:=by
 unfold Wx
 exact List.mem_flatMap.2 ⟨r,hr,List.mem_flatMap.2 ⟨c,hc,List.mem_map.2 ⟨k,hk,rfl⟩⟩⟩
theorem Abi {k:Nat} (h:k∈four):k=1∨k=2∨k=3∨k=4:=by simpa [four] using h
theorem lN (n:Nat) (y0 y1 y2 y3:Int) (x:Nat→Int) (h0:0≤y0∧y0 < 256) (h1:0≤y1∧y1 < 256) (h2:0≤y2∧y2 < 256) (h3:0≤y3∧y3 < 256) (hx:∀ i,0≤x i∧x i < 256) :
 ∃ r c k us X,Bp (n+1) 9 [.agg ⟨[.int .u8 y0,.int .u8 y1,.int .u8 y2,.int .u8 y3,.int .u8 (x 0),.int .u8 (x 1),.int .u8 (x 2),.int .u8 (x 3),.int .u8 (x 4),.int .u8 (x 5),.int .u8 (x 6),.int .u8 (x 7),.int .u8 (x 8),.int .u8 (x 9),.int .u8 (x 10),.int .u8 (x 11),.int .u8 (x 12),.int .u8 (x 13),.int .u8 (x 14),.int .u8 (x 15)]⟩,I 4,I 3]=some (.tuple ⟨[Gy r c k 0 us,S 0 X]⟩)∧(r,c,us)∈A7∧(r,c,[0])∈A7∧(k=1∨k=2∨k=3)∧Je r c k X:=by
 obtain⟨r,hr,er⟩:=pI h0
 obtain⟨c,hc,ec⟩:=pI h1
 obtain⟨k,hk3,ek⟩:=Ahq h2
 have hk:k∈four:=by rcases hk3 with rfl | rfl | rfl <;> simp[four]
 have hg0:(r,c,[0])∈A7:=by
  have h:=Sc
  unfold iI at h
  rw[Bh,List.all_eq_true] at h
  have h:=h r hr
  rw[Bh,List.all_eq_true] at h
  have h:=h c hc
  rw[Bh,List.all_eq_true] at h
  exact Sd (h 0 (by rw[OH,List.mem_range];cases Nat.beq r c <;> decide))
 have key:∀ (lim:Nat),0 < lim→lim≤10→lim=bb (Nat.beq r c) 10 5→∃ us,(r,c,us)∈A7∧QJ (Bp n) L 10 21 (.ofNat lim) [.int .u8 y0,.int .u8 y1,.int .u8 y2,.int .u8 y3,.int .u8 (x 0),.int .u8 (x 1),.int .u8 (x 2),.int .u8 (x 3),.int .u8 (x 4),.int .u8 (x 5),.int .u8 (x 6),.int .u8 (x 7),.int .u8 (x 8),.int .u8 (x 9),.int .u8 (x 10),.int .u8 (x 11),.int .u8 (x 12),.int .u8 (x 13),.int .u8 (x 14),.int .u8 (x 15)] 0 0 0 (.ofNat r) (.ofNat c) (.ofNat k) ZQ=UX (Bp n) L L 0 0 (Aj .i64 (Int.mul (.ofNat r) (.ofNat c))) 0 [.int .u8 y0,.int .u8 y1,.int .u8 y2,.int .u8 y3,.int .u8 (x 0),.int .u8 (x 1),.int .u8 (x 2),.int .u8 (x 3),.int .u8 (x 4),.int .u8 (x 5),.int .u8 (x 6),.int .u8 (x 7),.int .u8 (x 8),.int .u8 (x 9),.int .u8 (x 10),.int .u8 (x 11),.int .u8 (x 12),.int .u8 (x 13),.int .u8 (x 14),.int .u8 (x 15)] 0 0 0 (.ofNat r) (.ofNat c) (.ofNat k) ⟨len us,0,Fh us⟩ []:=by
  intro lim hl hl2 hlim
  obtain⟨G,hG,eG⟩:=Kc h3 hl
  refine⟨Yv G,?_,?_⟩
  ·have h:=Sc
   unfold iI at h
   rw[Bh,List.all_eq_true] at h
   have h:=h r hr
   rw[Bh,List.all_eq_true] at h
   have h:=h c hc
   rw[Bh,List.all_eq_true] at h
   exact Sd (h G (by rw[OH,List.mem_range,←hlim];exact hG))
  ·refine lM (Bp n) y0 y1 y2 y3 _ _ _ (.ofNat lim) x (G:=G) ?_ eG (by omega) (JN iH G (by rw[OH,List.mem_range];omega))
   rw[Dn,decide_eq_false (by show ¬ Int.ofNat lim=Int.ofNat 0;exact fun e=>by have:=Int.ofNat.inj e;omega)];rfl
 have run:=fun us:List Nat=>JN (ZP (Bp n) y0 y1 y2 y3 x ⟨len us,0,Fh us⟩) (r,c,k) (bI hr hc hk)
 have fin:∀ us:List Nat,(r,c,us)∈A7→∃ r' c' k' us' X,some (Value.tuple ⟨[.agg ⟨[I (.ofNat r),I (.ofNat c),I (.ofNat k),Sl.v 1 ⟨len us,0,Fh us⟩]⟩,Sl.v 1 ⟨r*c,0,UG x k (upN (r*c))⟩]⟩)=some (.tuple ⟨[Gy r' c' k' 0 us',S 0 X]⟩)∧(r',c',us')∈A7∧(r',c',[0])∈A7∧(k'=1∨k'=2∨k'=3)∧Je r' c' k' X:=by
  intro us hg
  refine⟨r,c,k,us,(List.range (r*c)).map fun i=>Int.tmod (Aj .i64 (x i)) (.ofNat k),?_,hg,hg0,hk3,?_,?_⟩
  ·unfold UG
   rw[Cc,OH]
   show some (Value.tuple ⟨[_,Sl.v 1 ⟨r*c,0,_⟩]⟩)=some (Value.tuple ⟨[_,Sl.v 1 ⟨((List.range (r*c)).map fun i=>Int.tmod (Aj .i64 (x i)) (.ofNat k)).length,0,((List.range (r*c)).map fun i=>Int.tmod (Aj .i64 (x i)) (.ofNat k)).map I⟩]⟩)
   rw[List.length_map,List.length_range,List.map_map];rfl
  ·simp
  ·intro z hz
   obtain⟨i,_,rfl⟩:=List.mem_map.1 hz
   obtain⟨A,hA,e⟩:=Kc (hx i) (m:=k) (by have:=Abi hk;omega)
   rw[e]
   exact⟨Int.natCast_nonneg A,Int.ofNat_lt.2 hA⟩
 rw[ZR,er,ec,ek,Dn]
 by_cases e:r=c
 ·subst e
  rw[decide_eq_true rfl,Ak]
  obtain⟨us,hg,e1⟩:=key 10 (by omega) (by omega) (by rw[show Nat.beq r r=true from by simp];rfl)
  rw[show (10:Int) = .ofNat 10 from rfl,e1]
  have h:=run us
  rw[show UX (Bp n) L L 0 0 (Aj .i64 (Int.mul (.ofNat r) (.ofNat r))) 0 [.int .u8 y0,.int .u8 y1,.int .u8 y2,.int .u8 y3,.int .u8 (x 0),.int .u8 (x 1),.int .u8 (x 2),.int .u8 (x 3),.int .u8 (x 4),.int .u8 (x 5),.int .u8 (x 6),.int .u8 (x 7),.int .u8 (x 8),.int .u8 (x 9),.int .u8 (x 10),.int .u8 (x 11),.int .u8 (x 12),.int .u8 (x 13),.int .u8 (x 14),.int .u8 (x 15)] 0 0 0 (.ofNat r) (.ofNat r) (.ofNat k) ⟨len us,0,Fh us⟩ []=_ from h]
  exact fin us hg
 ·rw[decide_eq_false fun h=>e (Int.ofNat.inj h),AA]
  obtain⟨us,hg,e1⟩:=key 5 (by omega) (by omega) (by rw[show Nat.beq r c=false from by cases h:Nat.beq r c with | false=>rfl | true=>exact absurd (Nat.eq_of_beq_eq_true h) e];rfl)
  rw[show (5:Int) = .ofNat 5 from rfl,e1]
  have h:=run us
  rw[show UX (Bp n) L L 0 0 (Aj .i64 (Int.mul (.ofNat r) (.ofNat c))) 0 [.int .u8 y0,.int .u8 y1,.int .u8 y2,.int .u8 y3,.int .u8 (x 0),.int .u8 (x 1),.int .u8 (x 2),.int .u8 (x 3),.int .u8 (x 4),.int .u8 (x 5),.int .u8 (x 6),.int .u8 (x 7),.int .u8 (x 8),.int .u8 (x 9),.int .u8 (x 10),.int .u8 (x 11),.int .u8 (x 12),.int .u8 (x 13),.int .u8 (x 14),.int .u8 (x 15)] 0 0 0 (.ofNat r) (.ofNat c) (.ofNat k) ⟨len us,0,Fh us⟩ []=_ from h]
  exact fin us hg
end Go.BkQ
set_option maxRecDepth 100000
set_option maxHeartbeats 4000000
namespace Go.BkQ
open Go Go.Sp Go.BkMM
noncomputable section
def Ahr:List (Nat×Nat×Nat×Nat):=[(1,1,0,1),(1,1,1,1),(1,1,2,1),(1,1,3,1),(1,1,4,1),(1,1,5,1),(1,1,6,1),(1,1,7,1),(1,2,0,2),(1,2,2,1),(1,2,4,1),(1,2,5,2),(1,3,0,3),(1,3,2,2),(1,3,4,2),(1,3,5,3),(1,4,0,4),(1,4,2,2),(1,4,4,2),(1,4,5,4),(2,1,0,2),(2,1,2,1),(2,1,4,2),(2,1,5,1),(2,2,0,4),(2,2,1,1),(2,2,2,2),(2,2,3,1),(2,2,4,2),(2,2,5,2),(2,2,6,3),(2,2,7,3),(2,3,0,6),(2,3,2,3),(2,3,4,4),(2,3,5,3),(2,4,0,8),(2,4,2,4),(2,4,4,4),(2,4,5,4),(3,1,0,3),(3,1,2,2),(3,1,4,3),(3,1,5,2),(3,2,0,6),(3,2,2,3),(3,2,4,3),(3,2,5,4),(3,3,0,9),(3,3,1,3),(3,3,2,5),(3,3,3,3),(3,3,4,6),(3,3,5,6),(3,3,6,6),(3,3,7,6),(3,4,0,12),(3,4,2,6),(3,4,4,6),(3,4,5,8),(4,1,0,4),(4,1,2,2),(4,1,4,4),(4,1,5,2),(4,2,0,8),(4,2,2,4),(4,2,4,4),(4,2,5,4),(4,3,0,12),(4,3,2,6),(4,3,4,8),(4,3,5,6),(4,4,0,16),(4,4,1,4),(4,4,2,8),(4,4,3,4),(4,4,4,8),(4,4,5,8),(4,4,6,10),(4,4,7,10)]
def Ov (r c t:Nat):Nat:=List.rec (motive:=fun _=>Nat) 0 (fun p _ ih=>bb (an (Nat.beq p.1 r) (an (Nat.beq p.2.1 c) (Nat.beq p.2.2.1 t))) p.2.2.2 ih) Ahr
def Yw (k:Nat) (F:Nat→Nat→List Nat→Nat→Nat→Option Value):List (List (Option Value)):=AP (fun p:Nat×Nat×List Nat=>(List.rec (motive:=fun _=>Nat→List (Option Value)) (fun _=>[]) (fun t _ ih j=>F p.1 p.2.1 p.2.2 j t::ih (Nat.succ j)) p.2.2:Nat→List (Option Value)) 0) A7
end
theorem iJ:Au (fun p:Nat×Nat×List Nat=>Au (fun t=>an (Nat.ble (Ov p.1 p.2.1 t) (p.1*p.2.1)) (Dp (nt (Nat.beq t 0)) (Nat.beq (Ov p.1 p.2.1 t) (p.1*p.2.1)))) p.2.2) A7=true:=by kernel_rfl
theorem bJ (n f k:Nat) (hk:k=1∨k=2∨k=3∨k=4):Yw k (fun r c us j _=>Bp (n+2) 50 [QR r c k f us,I (.ofNat j)])=Yw k (fun r c _ _ t=>some (I (.ofNat (Nat.pow k (Ov r c t))))):=by
 rcases hk with rfl | rfl | rfl | rfl <;> kernel_rfl
theorem iK {k:Nat} {F G:Nat→Nat→List Nat→Nat→Nat→Option Value} (h:Yw k F=Yw k G) {r c j t:Nat} {us:List Nat} (hg:(r,c,us)∈A7) (hj:us[j]?=some t):F r c us j t=G r c us j t:=by
 have h1:=JN h (r,c,us) hg
 have key:∀ (l:List Nat) (i j:Nat),(List.rec (motive:=fun _=>Nat→List (Option Value)) (fun _=>[]) (fun t _ ih j=>F r c us j t::ih (Nat.succ j)) l:Nat→List (Option Value)) i=(List.rec (motive:=fun _=>Nat→List (Option Value)) (fun _=>[]) (fun t _ ih j=>G r c us j t::ih (Nat.succ j)) l:Nat→List (Option Value)) i→l[j]?=some t→F r c us (i+j) t=G r c us (i+j) t:=by
  intro l
  induction l with
  | nil=>intro i j _ hj;cases hj
  | cons x l ih =>
   intro i j h hj
   injection h with h2 h3
   cases j with
   | zero=>injection hj with hj;subst hj;exact h2
   | succ j =>
    have:=ih (i+1) j h3 (by simpa using hj)
    rwa [show i+1+j=i+(j+1) by omega] at this
 have:=key us 0 j h1 hj
 rwa [Nat.zero_add] at this
theorem Yx {r c t:Nat} {us:List Nat} (hg:(r,c,us)∈A7) (ht:t∈us):Ov r c t≤r*c∧(t=0→Ov r c t=r*c):=by
 have h:=iJ
 rw[Bh,List.all_eq_true] at h
 have h:=h _ hg
 rw[Bh,List.all_eq_true] at h
 obtain⟨h1,h2⟩:=Av (h t ht)
 refine⟨Nat.le_of_ble_eq_true h1,fun e=>?_⟩
 subst e
 rcases Ug h2 with h2 | h2
 ·cases h2
 ·exact Nat.eq_of_beq_eq_true h2
theorem iL (n f:Nat) {r c k j t:Nat} {us:List Nat} (hk:k=1∨k=2∨k=3∨k=4) (hg:(r,c,us)∈A7) (hj:us[j]?=some t):Bp (n+2) 50 [Cv 0 (Eo r c k f us),I (.ofNat j)]=some (I (.ofNat (k ^ Ov r c t))):=iK (bJ n f k hk) hg hj
end Go.BkQ
set_option maxRecDepth 100000
set_option maxHeartbeats 4000000
namespace Go.BkQ
open Go Go.Sp Go.BkMM
theorem q23 (k:Nat) (args:List Value):Bp (k+1) 23 args=m23 (Bp k) L args:=by kernel_rfl
theorem Ahs {a b:Nat} (h:a+b < 9223372036854775807):Aj .i64 (Int.add (.ofNat a) (.ofNat b)) = .ofNat (a+b):=by
 show Aj .i64 ((a+b:Nat):Int)=_
 rw[Oe _ (by omega) (by omega)];rfl
theorem Aht {a b:Nat} (h:a*b < 9223372036854775807):Aj .i64 (Int.mul (.ofNat a) (.ofNat b)) = .ofNat (a*b):=by
 show Aj .i64 ((a*b:Nat):Int)=_
 generalize a*b=q at *
 rw[Oe _ (by omega) (by omega)];rfl
theorem Ahu {a b:Nat} (ha:a < 9223372036854775807):Aj .i64 (Int.tdiv (.ofNat a) (.ofNat b)) = .ofNat (a / b):=by
 have h:a / b≤a:=Nat.div_le_self a b
 rw[show Int.tdiv (.ofNat a) (.ofNat b)=((a / b:Nat):Int) from rfl]
 generalize a / b=q at *
 rw[Oe _ (by omega) (by omega)];rfl
def Jb (F:Nat→Nat):List Nat→Nat
 | []=>0
 | t::r=>F t+Jb F r
theorem UH {F:Nat→Nat} {b:Nat}:∀ {l:List Nat},(∀ t∈l,F t≤b)→Jb F l≤l.length*b
 | [],_=>by simp[Jb]
 | t :: r, h => by
  have:=UH (F:=F) (b:=b) (l:=r) fun x hx=>h x (by simp[hx])
  have:=h t (by simp)
  show F t+Jb F r≤(r.length+1)*b
  rw[Nat.succ_mul];omega
theorem Sg {F G:Nat→Nat}:∀ {l:List Nat},(∀ t∈l,F t≤G t)→Jb F l≤Jb G l
 | [],_=>Nat.le_refl _
 | t::r,h=>Nat.add_le_add (h t (by simp)) (Sg fun x hx=>h x (by simp[hx]))
theorem Wy (F:Nat→Nat):∀ (a b:List Nat),Jb F (a++b)=Jb F a+Jb F b
 | [],b=>by show Jb F b=0+Jb F b;omega
 | t::r,b=>by show F t+Jb F (r++b)=F t+Jb F r+Jb F b;rw[Wy F r b];omega
theorem Si (F:Nat→Nat) {l:List Nat} {i:Nat} (h:i < l.length):Jb F (l.take (i+1))=Jb F (l.take i)+F l[i]:=by
 rw[List.take_add_one,List.getElem?_eq_getElem h,Wy]
 rfl
theorem QE {r c:Nat} {us:List Nat} (hg:(r,c,us)∈A7):1≤us.length∧us.length≤8:=⟨List.length_pos_of_mem (Ws hg),(BO hg).len8⟩
noncomputable def Ow (r c k:Nat):Nat→Nat:=fun t=>k ^ Ov r c t
theorem AiU {r c k:Nat} {us:List Nat} (hk:k=1∨k=2∨k=3∨k=4) (hg:(r,c,us)∈A7):k ^ (r*c)≤4 ^ 16:=by
 have hp:=BO hg
 have hrc:r*c≤16:=Nat.mul_le_mul hp.r4 hp.c4
 exact Nat.le_trans (Nat.pow_le_pow_left (by omega) _) (Nat.pow_le_pow_right (by omega) hrc)
theorem Wz {r c k t:Nat} {us:List Nat} (hk:k=1∨k=2∨k=3∨k=4) (hg:(r,c,us)∈A7) (ht:t∈us):Ow r c k t≤k ^ (r*c):=Nat.pow_le_pow_right (by omega) (Yx hg ht).1
theorem Sj {r c k:Nat} {us:List Nat} (hk:k=1∨k=2∨k=3∨k=4) (hg:(r,c,us)∈A7) (i:Nat):Jb (Ow r c k) (us.take i)≤8*4 ^ 16:=by
 refine Nat.le_trans (UH (b:=4 ^ 16) fun t ht=>Nat.le_trans (Wz hk hg (List.mem_of_mem_take ht)) (AiU hk hg)) (Nat.mul_le_mul_right _ ?_)
 have:=(QE hg).2
 have:(us.take i).length≤us.length:=by simp;omega
 omega
theorem pJ (r c k f:Nat) (us:List Nat):AL (Eo r c k f us) (0+0+3)=some (Sl.v 1 ⟨len us,f,Fh us⟩):=rfl
noncomputable def OM (r c k:Nat) (us:List Nat):Nat:=Jb (Ow r c k) us / us.length
theorem QF (n M f:Nat) {r c k:Nat} {us:List Nat} (hk:k=1∨k=2∨k=3∨k=4) (hg:(r,c,us)∈A7):∀ (d w i:Nat),i+d=us.length→d < w →
 RO (Bp (n+2)) M w 0 (Eo r c k f us) (.ofNat (Jb (Ow r c k) (us.take i))) (.ofNat us.length) (.ofNat i)=some (.tuple ⟨[I (.ofNat (OM r c k us)),I 0]⟩)
 | _,0,_,_,h=>by omega
 | 0, w + 1, i, hd, _ => by
  obtain rfl:i=us.length:=by omega
  obtain⟨u1,u8⟩:=QE hg
  have hb:=Sj hk hg us.length
  rw[List.take_length] at hb ⊢
  show Pn (Bp (n+2)) M (RO (Bp (n+2)) M w) 0 (Eo r c k f us) (.ofNat (Jb (Ow r c k) us)) (.ofNat us.length) (.ofNat us.length)=_
  unfold Pn U0 OM
  have ne0:nt (Bd (Int.ofNat us.length) 0)=true:=by
   rw[Dn,decide_eq_false];· rfl
   intro e;have:(us.length:Int)=0:=e;omega
  simp only[Co,Nat.lt_irrefl,decide_false,AA,pJ,Ac,Dc,AV,ne0,Ak,Ahu (show Jb (Ow r c k) us < 9223372036854775807 by omega)]
 | d + 1, w + 1, i, hd, hw => by
  have hi:i < us.length:=by omega
  obtain⟨u1,u8⟩:=QE hg
  have hb:=Sj hk hg (i+1)
  rw[Si _ hi] at hb
  have h2:=iL n f hk hg (List.getElem?_eq_getElem hi)
  have ih:=QF n M f hk hg d w (i+1) (by omega) (by omega)
  rw[Si _ hi] at ih
  show Pn (Bp (n+2)) M (RO (Bp (n+2)) M w) 0 (Eo r c k f us) (.ofNat (Jb (Ow r c k) (us.take i))) (.ofNat us.length) (.ofNat i)=_
  unfold Pn
  simp only[Co,hi,decide_true,Ak,h2,Ac,BP,DC i (by omega)]
  rw[show k ^ Ov r c us[i]=Ow r c k us[i] from rfl,Ahs (by omega)]
  exact ih
theorem UI (n f:Nat) {r c k:Nat} {us:List Nat} (hk:k=1∨k=2∨k=3∨k=4) (hg:(r,c,us)∈A7):Bp (n+8) 23 [Gy r c k f us]=some (.tuple ⟨[I (.ofNat (OM r c k us)),I 0]⟩):=by
 have h1:=Yh (n+1) f hk hg
 have h2:=QF (n+5) L f hk hg us.length L 0 (by omega) (by have:=(QE hg).2;show _ < 1000000;omega)
 have h1':Bp (n+7) 49 [.agg ⟨[I (.ofNat r),I (.ofNat c),I (.ofNat k),Sl.v 1 ⟨len us,f,Fh us⟩]⟩]=some (.tuple ⟨[Cv 0 (Eo r c k f us),I 0]⟩):=h1
 rw[q23]
 show iZ (Bp (n+7)) L (.ofNat r) (.ofNat c) (.ofNat k) ⟨len us,f,Fh us⟩=_
 unfold iZ
 simp only[h1',Ac,FW,Dj,EG,UA,NA,Ak,BP,iF,AA,pJ,Dc]
 simp only[AV]
 exact h2
theorem iM {r c k:Nat} {us:List Nat}:OM r c k us≤OM r c (k+1) us:=Nat.div_le_div_right (Sg fun t _=>Nat.pow_le_pow_left (Nat.le_succ k) _)
theorem lQ {r c k:Nat} (hg:(r,c,[0])∈A7):OM r c k [0]=k ^ (r*c):=by
 show (k ^ Ov r c 0+0) / 1=_
 rw[(Yx hg (List.mem_singleton.2 rfl)).2 rfl,Nat.add_zero,Nat.div_one]
theorem lS {r c k:Nat} {us:List Nat} (hk:k=1∨k=2∨k=3∨k=4) (hg:(r,c,us)∈A7):OM r c k us≤k ^ (r*c):=by
 have h:=UH (F:=Ow r c k) (l:=us) fun t ht=>Wz hk hg ht
 unfold OM
 exact Nat.div_le_of_le_mul h
end Go.BkQ
