/- Made from wip. -/
import Derived.Test.YtenlanbdolnhhaaSpMovex
import Derived.Test.YtenlanbdolnhhaaSpObjx
import Derived.Test.YtenlanbdolnhhaaRgJPux
import Derived.KernelRfl

set_option maxRecDepth 100000
namespace Go.RgP
open Go Go.Sp

abbrev IV (z:Int):Value:=.int .i64 z
def entsF (ps:List (Nat×Nat)) (i:Nat):List Ent:=(match ps with | []=>[] | (d,c)::r=>⟨IV (Int.ofNat d),IV (Int.ofNat c),i⟩::entsF r (i+1))
def ents (ps:List (Nat×Nat)):List Ent:=entsF ps 0
def bump (d:Nat):List (Nat×Nat)→List (Nat×Nat)
 | []=>[(d,1)]
 | (k,c)::r=>bif Nat.beq d k then (k,c+1)::r else (k,c)::bump d r
def look (d:Nat):List (Nat×Nat)→Nat
 | []=>0
 | (k,c)::r=>bif Nat.beq d k then c else look d r
theorem entsF_len:∀ (ps:List (Nat×Nat)) (i:Nat),(entsF ps i).length=ps.length
 | [],_=>rfl
 | (d,c)::r,i=>by show (entsF r (i+1)).length+1=_;rw[entsF_len r];rfl
theorem ents_len (ps:List (Nat×Nat)):(ents ps).length=ps.length:=entsF_len ps 0
theorem entsF_mem:∀ {ps:List (Nat×Nat)} {i:Nat} {e:Ent},e∈entsF ps i→∃ j d c,ps[j]?=some (d,c)∧e=⟨IV (Int.ofNat d),IV (Int.ofNat c),i+j⟩
 | [],_,_,h=>by cases h
 | (d, c) :: r, i, e, h => by
  rcases List.mem_cons.1 h with rfl | h
  ·exact⟨0,d,c,rfl,rfl⟩
  ·obtain⟨j,d',c',h1,h2⟩:=entsF_mem h
   exact⟨j+1,d',c',h1,by rw[h2];congr 1;omega⟩
theorem entsF_closed:∀ (ps:List (Nat×Nat)) (i:Nat),allL entClosed (entsF ps i)=true
 | [],_=>rfl
 | (d, c) :: r, i => by
  have e:=entsF_closed r (i+1)
  show an (entClosed ⟨IV (Int.ofNat d),IV (Int.ofNat c),i⟩) (allL entClosed (entsF r (i+1)))=true
  rw[e];rfl
theorem ents_closed (ps:List (Nat×Nat)):allL entClosed (ents ps)=true:=entsF_closed ps 0
theorem entsF_old : ∀ (ps : List (Nat × Nat)) (i k : Nat), i + ps.length ≤ k → allL (fun e => Nat.blt (Ent.born e) k) (entsF ps i) = true
 | [],_,_,_=>rfl
 | (d, c) :: r, i, k, h => by
  have e:=entsF_old r (i+1) k (by simp at h;omega)
  show an (Nat.blt i k) (allL (fun e=>Nat.blt (Ent.born e) k) (entsF r (i+1)))=true
  rw[e,show Nat.blt i k=true from Nat.ble_eq_true_of_le (by simp at h;omega)];rfl
theorem ents_old (ps:List (Nat×Nat)):allL (fun e=>Nat.blt (Ent.born e) ps.length) (ents ps)=true:=entsF_old ps 0 _ (by omega)
def place (d:Nat):List (Nat×Nat)→Option (Nat×Nat)
 | []=>none
 | (k,c)::r=>bif Nat.beq d k then some (0,c) else (place d r).map fun p=>(p.1+1,p.2)
theorem keyEq_int (a b:Int):keyEq (IV a) (IV b)=some (ieq a b):=rfl
theorem ieq_nat (a b:Nat):ieq (Int.ofNat a) (Int.ofNat b)=Nat.beq a b:=rfl
theorem findE_entsF (d : Nat) : ∀ (ps : List (Nat × Nat)) (i j : Nat), findE (IV (Int.ofNat d)) (entsF ps i) j = some ((place d ps).map fun p => (j + p.1, IV (Int.ofNat p.2)))
 | [],_,_=>rfl
 | (k, c) :: r, i, j => by
  show oo (keyEq (IV (Int.ofNat d)) (IV (Int.ofNat k))) none (fun b=>bb b (some (some (j,IV (Int.ofNat c)))) (findE (IV (Int.ofNat d)) (entsF r (i+1)) (j+1)))=_
  rw[keyEq_int,oo_some,ieq_nat]
  show _=some (Option.map _ (bif Nat.beq d k then some (0,c) else (place d r).map fun p=>(p.1+1,p.2)))
  cases hb:Nat.beq d k with
  | true=>rw[bb_true];rfl
  | false =>
   rw[bb_false,findE_entsF d r (i+1) (j+1)]
   show some _=some (Option.map _ ((place d r).map fun p=>(p.1+1,p.2)))
   cases place d r with
   | none=>rfl
   | some p=>simp;omega
theorem findE_ents (d:Nat) (ps:List (Nat×Nat)):findE (IV (Int.ofNat d)) (ents ps) 0=some ((place d ps).map fun p=>(p.1,IV (Int.ofNat p.2))):=by
 unfold ents
 rw[findE_entsF]
 cases place d ps with
 | none=>rfl
 | some p=>simp
theorem place_look (d : Nat) : ∀ (ps : List (Nat × Nat)), look d ps = (match place d ps with | none => 0 | some p => p.2)
 | []=>rfl
 | (k, c) :: r => by
  show (bif Nat.beq d k then c else look d r)=(match (bif Nat.beq d k then some (0,c) else (place d r).map fun p=>(p.1+1,p.2)) with | none=>0 | some p=>p.2)
  cases Nat.beq d k with
  | true=>rfl
  | false =>
   show look d r=(match (place d r).map fun p=>(p.1+1,p.2) with | none=>0 | some p=>p.2)
   rw[place_look d r]
   cases place d r <;> rfl
theorem getE_ents (d:Nat) (ps:List (Nat×Nat)):getE ((place d ps).map fun p=>(p.1,IV (Int.ofNat p.2))) (IV 0)=IV (Int.ofNat (look d ps)):=by
 rw[place_look]
 cases place d ps <;> rfl
theorem bump_entsF (d : Nat) : ∀ (ps : List (Nat × Nat)) (i : Nat), entsF (bump d ps) i = (match place d ps with | none => entsF ps i ++ [⟨IV (Int.ofNat d), IV (Int.ofNat 1), i + ps.length⟩] | some p => modL (fun e => ⟨IV (Int.ofNat d), IV (Int.ofNat (p.2 + 1)), e.born⟩) p.1 (entsF ps i))
 | [],i=>by show [(⟨IV (Int.ofNat d),IV (Int.ofNat 1),i⟩:Ent)]=[]++[⟨_,_,i+0⟩];simp
 | (k, c) :: r, i => by
  show entsF (bif Nat.beq d k then (k,c+1)::r else (k,c)::bump d r) i=(match (bif Nat.beq d k then some (0,c) else (place d r).map fun p=>(p.1+1,p.2)) with | none=>entsF ((k,c)::r) i++[⟨IV (Int.ofNat d),IV (Int.ofNat 1),i+(r.length+1)⟩] | some p=>modL (fun e=>⟨IV (Int.ofNat d),IV (Int.ofNat (p.2+1)),e.born⟩) p.1 (entsF ((k,c)::r) i))
  cases hb:Nat.beq d k with
  | true =>
   obtain rfl:=Nat.eq_of_beq_eq_true hb
   rfl
  | false =>
   show (⟨IV (Int.ofNat k),IV (Int.ofNat c),i⟩:Ent)::entsF (bump d r) (i+1)=(match (place d r).map fun p=>(p.1+1,p.2) with | none=>entsF ((k,c)::r) i++[⟨IV (Int.ofNat d),IV (Int.ofNat 1),i+(r.length+1)⟩] | some p=>modL (fun e=>⟨IV (Int.ofNat d),IV (Int.ofNat (p.2+1)),e.born⟩) p.1 (entsF ((k,c)::r) i))
   rw[bump_entsF d r (i+1)]
   cases place d r with
   | none =>
    show _::(entsF r (i+1)++[(⟨_,_,i+1+r.length⟩:Ent)])=(_::entsF r (i+1))++[⟨_,_,i+(r.length+1)⟩]
    rw[show i+1+r.length=i+(r.length+1) by omega];rfl
   | some p=>rfl
theorem bump_len (d : Nat) : ∀ ps : List (Nat × Nat), (bump d ps).length = (match place d ps with | none => ps.length + 1 | some _ => ps.length)
 | []=>rfl
 | (k, c) :: r => by
  show (bif Nat.beq d k then (k,c+1)::r else (k,c)::bump d r).length=(match (bif Nat.beq d k then some (0,c) else (place d r).map fun p=>(p.1+1,p.2)) with | none=>r.length+1+1 | some _=>r.length+1)
  cases Nat.beq d k with
  | true=>rfl
  | false =>
   show (bump d r).length+1=(match (place d r).map fun p=>(p.1+1,p.2) with | none=>r.length+1+1 | some _=>r.length+1)
   rw[bump_len d r]
   cases place d r <;> rfl
theorem upd_bump (d : Nat) (ps : List (Nat × Nat)) : updE (IV (Int.ofNat d)) (IV (Int.ofNat (look d ps + 1))) ps.length (ents ps) ((place d ps).map fun p => (p.1, IV (Int.ofNat p.2))) = ents (bump d ps) ∧
 updC ps.length ((place d ps).map fun p=>(p.1,IV (Int.ofNat p.2)))=(bump d ps).length:=by
 have h1:=bump_entsF d ps 0
 have h2:=bump_len d ps
 have h3:=place_look d ps
 unfold ents updE updC
 cases hp:place d ps with
 | none =>
  rw[hp] at h1 h2 h3
  have h3:look d ps=0:=h3
  have h1:entsF (bump d ps) 0=entsF ps 0++[⟨IV (Int.ofNat d),IV (Int.ofNat 1),0+ps.length⟩]:=h1
  have h2:(bump d ps).length=ps.length+1:=h2
  constructor
  ·show appL (entsF ps 0) [⟨IV (Int.ofNat d),IV (Int.ofNat (look d ps+1)),ps.length⟩]=_
   rw[h1,h3,appL_eq];simp
  ·show ps.length+1=_
   rw[h2]
 | some p =>
  rw[hp] at h1 h2 h3
  have h3:look d ps=p.2:=h3
  have h1:entsF (bump d ps) 0=modL (fun e=>⟨IV (Int.ofNat d),IV (Int.ofNat (p.2+1)),e.born⟩) p.1 (entsF ps 0):=h1
  have h2:(bump d ps).length=ps.length:=h2
  constructor
  ·show modL (fun e=>⟨IV (Int.ofNat d),IV (Int.ofNat (look d ps+1)),e.born⟩) p.1 (entsF ps 0)=_
   rw[h1,h3]
  ·show ps.length=_
   rw[h2]
theorem findB_ents:∀ (ps:List (Nat×Nat)) (i j d c:Nat),ps[j]?=some (d,c)→findB (i+j) (entsF ps i)=some ⟨IV (Int.ofNat d),IV (Int.ofNat c),i+j⟩
 | [],_,_,_,_,h=>by simp at h
 | (k, c') :: r, i, j, d, c, h => by
  show bb (Nat.beq i (i+j)) (some (⟨IV (Int.ofNat k),IV (Int.ofNat c'),i⟩:Ent)) (findB (i+j) (entsF r (i+1)))=_
  cases j with
  | zero =>
   simp at h
   obtain⟨rfl,rfl⟩:=h
   rw[Nat.add_zero,Nat.beq_refl,bb_true]
  | succ j =>
   have:Nat.beq i (i+(j+1))=false:=by
    cases hb:Nat.beq i (i+(j+1)) with
    | false=>rfl
    | true=>have:=Nat.eq_of_beq_eq_true hb;omega
   have e:=findB_ents r (i+1) j d c (by simpa using h)
   rw[this,bb_false,show i+(j+1)=i+1+j by omega,e]
theorem lastN_snoc:∀ (l:List Nat) (a:Nat),lastN (appL l [a])=some a:=fun l a=>by rw[lastN_eq,appL_eq];simp
theorem entT_ents (ps:List (Nat×Nat)) (seen:List Nat) (j d c:Nat) (h:ps[j]?=some (d,c)):entT (ents ps) ps.length (appL seen [j]) ps.length=some (.tuple ⟨[IV (Int.ofNat d),IV (Int.ofNat c)]⟩):=by
 have e:=findB_ents ps 0 j d c h
 rw[Nat.zero_add] at e
 show oo (bb (Nat.beq ps.length ps.length) (oo (lastN (appL seen [j])) none fun s=>findB s (ents ps)) none) none (fun e=>some (Value.tuple ⟨[e.key,e.val]⟩))=_
 rw[Nat.beq_refl,bb_true,lastN_snoc,oo_some]
 show oo (findB j (entsF ps 0)) none _=_
 rw[e];rfl
def left (n:Nat) (seen:List Nat):List Nat:=(List.range n).filter fun i=>decide (i ∉ seen)
theorem left_mem {n i:Nat} {seen:List Nat}:i∈left n seen↔i < n∧i ∉ seen:=by unfold left;simp
theorem left_nodup (n:Nat) (seen:List Nat):(left n seen).Nodup:=List.Nodup.sublist List.filter_sublist List.nodup_range
theorem leftE_nil {ps:List (Nat×Nat)} {seen:List Nat} (h:leftE (ents ps) seen=[]):left ps.length seen=[]:=by
 cases hl:left ps.length seen with
 | nil=>rfl
 | cons i r =>
  exfalso
  have hi:i∈left ps.length seen:=by rw[hl];exact List.mem_cons_self
  obtain⟨h1,h2⟩:=left_mem.1 hi
  have key:∀ (qs:List (Nat×Nat)) (k j:Nat),j < qs.length→∃ e∈entsF qs k,e.born=k+j:=by
   intro qs
   induction qs with
   | nil=>intro k j hj;simp at hj
   | cons q qs ih =>
    intro k j hj
    obtain⟨d,c⟩:=q
    cases j with
    | zero=>exact⟨_,List.mem_cons_self,rfl⟩
    | succ j =>
     obtain⟨e,he,hb⟩:=ih (k+1) j (by simpa using hj)
     exact⟨e,List.mem_cons_of_mem _ he,by rw[hb];omega⟩
  obtain⟨e,he,hb⟩:=key ps 0 i h1
  have:e∈leftE (ents ps) seen:=leftE_mem.2 ⟨he,by rw[hb,Nat.zero_add];exact h2⟩
  rw[h] at this;cases this
theorem leftE_in {ps:List (Nat×Nat)} {seen:List Nat} {e:Ent} (h:e∈leftE (ents ps) seen):∃ d c,ps[e.born]?=some (d,c)∧e.born∈left ps.length seen:=by
 obtain⟨h1,h2⟩:=leftE_mem.1 h
 obtain⟨j,d,c,h3,h4⟩:=entsF_mem h1
 rw[Nat.zero_add] at h4
 have hb:e.born=j:=by rw[h4]
 rw[hb] at h2 ⊢
 exact⟨d,c,h3,left_mem.2 ⟨(List.getElem?_eq_some_iff.1 h3).1,h2⟩⟩
theorem left_snoc {n i:Nat} {seen:List Nat}:left n (appL seen [i])=(left n seen).filter fun j=>decide (j≠i):=by
 unfold left
 rw[List.filter_filter]
 congr 1
 funext j
 rw[appL_eq]
 simp
 by_cases h:j=i <;> simp[h]
theorem left_less {n i:Nat} {seen:List Nat} (h:i∈left n seen):(left n (appL seen [i])).length < (left n seen).length:=by
 rw[left_snoc]
 have hp:((left n seen).filter fun j=>decide (j≠i))≠left n seen:=fun e=>by
  have:=List.filter_eq_self.1 e i h
  simp at this
 exact Nat.lt_of_le_of_ne (List.filter_sublist).length_le fun h=>hp ((List.filter_sublist).eq_of_length h)
end Go.RgP
set_option maxRecDepth 100000
set_option maxHeartbeats 2000000
namespace Go.RgP
open Go Go.Sp
noncomputable def cl (z:Int) (p:Nat×Nat):Int:=bif Nat.blt 1 p.2 then (bif ieq z 0 then Int.ofNat p.1 else bif ilt (Int.ofNat p.1) z then Int.ofNat p.1 else z) else z
def pairAt (ps:List (Nat×Nat)) (i:Nat):Nat×Nat:=(ps[i]?).getD (0,0)
theorem cl_comm (z:Int) (p q:Nat×Nat) (hp:0 < p.1) (hq:0 < q.1):cl (cl z p) q=cl (cl z q) p:=by
 obtain⟨a,c⟩:=p
 obtain⟨b,d⟩:=q
 have ea:∀ x y:Int,ieq x y=decide (x=y):=fun x y=>by rw[ieq_eq];rfl
 have eb:∀ x y:Int,ilt x y=decide (x < y):=ilt_eq
 unfold cl
 simp only[ea,eb,Bool.cond_eq_ite,decide_eq_true_eq]
 have hp:0 < a:=hp
 have hq:0 < b:=hq
 have h1:(Int.ofNat a)=(a:Int):=rfl
 have h2:(Int.ofNat b)=(b:Int):=rfl
 rw[h1,h2]
 repeat' split
 all_goals first | rfl | omega
theorem ilt_nat (a b:Nat):ilt (Int.ofNat a) (Int.ofNat b)=Nat.blt a b:=by
 rw[ilt_eq]
 by_cases h:a < b
 ·rw[show Nat.blt a b=true from Nat.ble_eq_true_of_le h]
  exact decide_eq_true (Int.ofNat_lt.2 h)
 ·rw [show Nat.blt a b = false from by
   cases hx:Nat.blt a b with
   | false=>rfl
   | true=>exact absurd (Nat.le_of_ble_eq_true hx) h]
  exact decide_eq_false (fun hh=>h (Int.ofNat_lt.1 hh))
theorem perm_left {n i:Nat} {seen:List Nat} (h:i∈left n seen):(left n seen).Perm (i::left n (appL seen [i])):=by
 rw[left_snoc]
 have e:((left n seen).filter fun j=>decide (j≠i))=(left n seen).erase i:=by
  rw[(left_nodup n seen).erase_eq_filter]
  congr 1
  funext j
  by_cases hj:j=i <;> simp[hj]
 rw[e]
 exact List.perm_cons_erase h
theorem foldl_left {β:Type} {f:β→Nat→β} {n i:Nat} {seen:List Nat} (hc:∀ x∈left n seen,∀ y∈left n seen,∀ z,f (f z x) y=f (f z y) x) (h:i∈left n seen) (z:β) :
 (left n (appL seen [i])).foldl f (f z i)=(left n seen).foldl f z:=by
 have:=(perm_left h).foldl_eq' (f:=f) hc z
 rw[this];rfl
theorem left_all (n:Nat):left n []=List.range n:=by unfold left;simp
theorem foldl_range {β:Type} (f:β→Nat×Nat→β) (ps:List (Nat×Nat)) (z:β):(List.range ps.length).foldl (fun z i=>f z (pairAt ps i)) z=ps.foldl f z:=by
 have:(List.range ps.length).map (pairAt ps)=ps:=by
  apply List.ext_getElem
  ·simp
  ·intro i h1 h2;simp[pairAt,h2]
 rw[←List.foldl_map (f:=pairAt ps) (g:=f),this]
open Go.RgJM in
theorem clash_loop (pu:PureF) (n:Nat) {ps:List (Nat×Nat)} (hk:∀ p∈ps,0 < p.1):∀ (w:Nat) (seen:List Nat) (z:Int),(left ps.length seen).length < w →
 l76_1 pu n w z ps.length seen ps.length (ents ps) ps.length=some (.int .i64 ((left ps.length seen).foldl (fun z i=>cl z (pairAt ps i)) z))
 | 0,_,_,h=>by omega
 | w + 1, seen, z, h => by
  have hpos:∀ x∈left ps.length seen,0 < (pairAt ps x).1:=fun x hx=>by
   have hx:=(left_mem.1 hx).1
   have e:pairAt ps x=ps[x]:=by simp[pairAt,hx]
   rw[e];exact hk _ (List.getElem_mem hx)
  show b76_1 pu n (l76_1 pu n w) z ps.length seen ps.length (ents ps) ps.length=_
  unfold b76_1
  rw[ents_old,bb_true,show Nat.ble ps.length ps.length=true from Nat.ble_eq_true_of_le (Nat.le_refl _),bb_true,ents_closed]
  refine nxt_some (fun hl=>?_) fun e he=>?_
  ·rw[leftE_nil hl,bb_true];rfl
  ·obtain⟨d,c,h1,h2⟩:=leftE_in he
   have ep:pairAt ps e.born=(d,c):=by simp[pairAt,h1]
   rw[bb_true,entT_ents ps seen e.born d c h1,oo_some]
   have ih:=clash_loop pu n hk w (appL seen [e.born]) (cl z (d,c)) (by have:=left_less h2;omega)
   have fl:=foldl_left (f:=fun z i=>cl z (pairAt ps i)) (fun x hx y hy z=>cl_comm z _ _ (hpos x hx) (hpos y hy)) h2 z
   rw[ep] at fl
   rw[fl] at ih
   show bb (ilt 1 (Int.ofNat c)) (bb (ieq z 0) (m76_2 pu n (l76_1 pu n w) z (Int.ofNat d) true ps.length (appL seen [e.born]) ps.length (ents ps) ps.length) (m76_2 pu n (l76_1 pu n w) z (Int.ofNat d) (ilt (Int.ofNat d) z) ps.length (appL seen [e.born]) ps.length (ents ps) ps.length)) (m76_2 pu n (l76_1 pu n w) z (Int.ofNat d) false ps.length (appL seen [e.born]) ps.length (ents ps) ps.length)=_
   rw[←ih]
   have hb:=ilt_nat 1 c
   unfold m76_2 cl
   rw[show ilt (1:Int) (Int.ofNat c)=Nat.blt 1 c from hb,ents_closed]
   cases Nat.blt 1 c <;> cases ieq z 0 <;> cases ilt (Int.ofNat d) z <;> rfl
end Go.RgP
set_option maxRecDepth 100000
set_option maxHeartbeats 2000000
namespace Go.RgP
open Go Go.Sp Go.RgJM
def tv (n s:Nat):Value:=.agg ⟨[.int .i64 (Int.ofNat n),.int .u32 (Int.ofNat s)]⟩
noncomputable def hasB (s p:Nat):Bool:=ieq (aand .u32 (shrI .u32 (Int.ofNat s) p) 1) 1
noncomputable def markF (s:Nat):Nat→Nat→List Nat
 | 0,_=>[]
 | k+1,p=>bif hasB s p then p::markF s k (p+1) else markF s k (p+1)
noncomputable def marksN (n s:Nat):List Nat:=markF s n 0
def vL (l:List Nat):List Value:=l.map fun d=>IV (Int.ofNat d)
theorem vL_closed (l:List Nat):allL closed1 (vL l)=true:=by
 rw[allL_eq];unfold vL;rw[List.all_map];simp[Function.comp_def];intros;rfl
theorem vL_len (l:List Nat):(vL l).length=l.length:=by unfold vL;simp
theorem has_ok (pu:PureF) (L n s p:Nat):m91 pu L [tv n s,IV (Int.ofNat p)]=some (.bool (hasB s p)):=rfl
theorem on_ok (pu:PureF) (L n s:Nat) (x:Int) (hn:0 < n) (hn2:n < 1000) (hx:-1000 < x) (hx2:x < 1000):m62 pu L [tv n s,IV x]=some (IV (x % (n:Int))):=by
 show m62_ pu L (Int.ofNat n) (Int.ofNat s) x=_
 unfold m62_
 have e:ieq (Int.ofNat n) 0=false:=by rw[ieq_eq];simp;omega
 rw[e]
 show some (IV (Int.tmod (wrapF .i64 (Int.tmod x (n:Int)+(n:Int))) (n:Int)))=_
 have hp:(0:Int) < (n:Int):=by omega
 have h1:=Int.tmod_lt_of_pos x hp
 have h2:-(n:Int) < Int.tmod x n:=by
  have:=Int.lt_tmod_of_pos x hp;omega
 rw[wrapI _ (by omega) (by omega)]
 rw[Int.tmod_eq_emod_of_nonneg (by omega)]
 congr 2
 have h3:Int.tmod x (n:Int)+(n:Int)=x+(n:Int)*(1 - Int.tdiv x n):=by
  have:=Int.mul_tdiv_add_tmod x (n:Int)
  rw[Int.mul_sub];omega
 rw[h3,Int.add_mul_emod_self_left]
theorem marks_loop (pu:PureF) (L:Nat) {n s:Nat} (hn:n < 1000) (hp:∀ p,p < n→pu 91 [tv n s,IV (Int.ofNat p)]=some (.bool (hasB s p))):∀ (k w p c:Nat) (q:List Nat),k < w→p+k=n→q.length≤p→c / 2=q.length→c % 2=0 →
 l80_1 pu L w q.length c (Int.ofNat n) (Int.ofNat p) (Int.ofNat n) (Int.ofNat s) (vL q)=some (Sl.v 1 ⟨(q++markF s k p).length,0,vL (q++markF s k p)⟩)
 | k,0,_,_,_,h,_,_,_,_=>by omega
 | 0, w + 1, p, c, q, _, hk, _, _, _ => by
  show b80_1 pu L (l80_1 pu L w) q.length c (Int.ofNat n) (Int.ofNat p) (Int.ofNat n) (Int.ofNat s) (vL q)=_
  unfold b80_1
  rw[vL_closed,bb_true,ilt_nat,show Nat.blt p n=false from by rw[blt_eq];simp;omega,bb_false]
  unfold m80_0
  rw[vL_closed,bb_true]
  have e1:takeL (q.length*1) (dropL 0 (vL q))=vL q:=by
   rw[takeL_eq,dropL_eq,List.drop_zero,Nat.mul_one,←vL_len q,List.take_length]
  rw[e1,vL_closed,len_eq,vL_len,show Nat.ble (0+q.length*1) q.length=true from Nat.ble_eq_true_of_le (by omega)]
  show some (Sl.v 1 ⟨q.length,0,vL q⟩)=some (Sl.v 1 ⟨(q++[]).length,0,vL (q++[])⟩)
  rw[List.append_nil]
 | k + 1, w + 1, p, c, q, hw, hk, hq, hc, hc2 => by
  show b80_1 pu L (l80_1 pu L w) q.length c (Int.ofNat n) (Int.ofNat p) (Int.ofNat n) (Int.ofNat s) (vL q)=_
  unfold b80_1
  have hv:=hp p (by omega)
  rw[vL_closed,bb_true,ilt_nat,show Nat.blt p n=true from by rw[blt_eq];simp;omega,bb_true]
  have hv':pu 91 [.agg ⟨[.int .i64 (Int.ofNat n),.int .u32 (Int.ofNat s)]⟩,.int .i64 (Int.ofNat p)]=some (.bool (hasB s p)):=hv
  rw[hv',oo_some]
  show bb (hasB s p) _ _=_
  have hs:wrapF .i64 (Int.add (Int.ofNat p) 1)=Int.ofNat (p+1):=wrapS p (by omega)
  unfold markF
  cases hasB s p with
  | false =>
   rw[bb_false]
   unfold m80_2
   rw[vL_closed,bb_true,hs]
   exact marks_loop pu L hn hp k w (p+1) c q (by omega) (by omega) (by omega) hc hc2
  | true =>
   rw[bb_true]
   have e2:appL (dropL 0 (vL q)) [.int .i64 (Int.ofNat p)]=vL (q++[p]):=by
    rw[appL_eq,dropL_eq,List.drop_zero];unfold vL;rw[List.map_append];rfl
   have eg:growC 1 8 q.length c 1 (vL q)=true:=by
    unfold growC roomy
    rw[len_eq,vL_len,hc,hc2]
    rw[show Nat.ble ((4*(q.length+1)+4096)*8) 281474976710656=true from Nat.ble_eq_true_of_le (by omega),show Nat.ble (q.length+1) q.length=false from by rw[ble_eq];simp,show Nat.ble (0+q.length*1) q.length=true from Nat.ble_eq_true_of_le (by omega),show Nat.beq (0+q.length*1) q.length=true from by simp]
    rfl
   rw[eg,bb_true,e2,vL_closed,bb_true]
   unfold m80_2
   rw[vL_closed,bb_true,hs]
   have ih:=marks_loop pu L hn hp k w (p+1) (2*(q.length+1)+bb false 1 0) (q++[p]) (by omega) (by omega) (by simp;omega) (by simp) (by simp)
   rw[List.length_append] at ih
   show l80_1 pu L w (q.length+1) (2*(q.length+1)+bb false 1 0) (Int.ofNat n) (Int.ofNat (p+1)) (Int.ofNat n) (Int.ofNat s) (vL (q++[p]))=_
   rw[show [p].length=1 from rfl] at ih
   rw[ih]
   show some (Sl.v 1 ⟨(q++[p]++markF s k (p+1)).length,0,vL (q++[p]++markF s k (p+1))⟩)=some (Sl.v 1 ⟨(q++p::markF s k (p+1)).length,0,vL (q++p::markF s k (p+1))⟩)
   rw[List.append_assoc];rfl
theorem marks_ok (pu:PureF) {L n s:Nat} (hL:n < L) (hn:n < 1000) (hp:∀ p,p < n→pu 91 [tv n s,IV (Int.ofNat p)]=some (.bool (hasB s p))):m80 pu L [tv n s]=some (Sl.v 1 ⟨(marksN n s).length,0,vL (marksN n s)⟩):=
 marks_loop pu L hn hp n L 0 0 [] hL (by omega) (by simp) rfl rfl
end Go.RgP
set_option maxRecDepth 100000
set_option maxHeartbeats 2000000
namespace Go.RgP
open Go Go.Sp Go.RgJM
def keyN (n a b:Nat):Nat:=Nat.mod (Nat.add b (Nat.sub n a)) n
def cstep (n a:Nat) (ps:List (Nat×Nat)) (b:Nat):List (Nat×Nat):=bif Nat.beq a b then ps else bump (keyN n a b) ps
def cntL (n:Nat) (l:List Nat):List (Nat×Nat):=l.foldl (fun ps a=>l.foldl (cstep n a) ps) []
noncomputable def cntN (n s:Nat):List (Nat×Nat):=cntL n (marksN n s)
theorem look_bump (d d':Nat):∀ ps:List (Nat×Nat),look d' (bump d ps)≤look d' ps+1
 | []=>by show (bif Nat.beq d' d then 1 else 0)≤0+1;cases Nat.beq d' d <;> simp
 | (k, c) :: r => by
  show look d' (bif Nat.beq d k then (k,c+1)::r else (k,c)::bump d r)≤(bif Nat.beq d' k then c else look d' r)+1
  have ih:=look_bump d d' r
  cases Nat.beq d k with
  | true=>show (bif Nat.beq d' k then c+1 else look d' r)≤_;cases Nat.beq d' k <;> simp
  | false=>show (bif Nat.beq d' k then c else look d' (bump d r))≤_;cases Nat.beq d' k <;> simp <;> omega
theorem look_cstep (n a b d:Nat) (ps:List (Nat×Nat)):look d (cstep n a ps b)≤look d ps+1:=by
 unfold cstep
 cases Nat.beq a b with
 | true=>show look d ps≤_;omega
 | false=>exact look_bump _ _ _
theorem look_fold (n a d:Nat):∀ (r:List Nat) (ps:List (Nat×Nat)),look d (r.foldl (cstep n a) ps)≤look d ps+r.length
 | [],ps=>by show look d ps≤_;omega
 | b :: r, ps => by
  have h1:=look_fold n a d r (cstep n a ps b)
  have h2:=look_cstep n a b d ps
  show look d (r.foldl (cstep n a) (cstep n a ps b))≤look d ps+(r.length+1)
  omega
theorem key_eq {n a b:Nat} (ha:a < n):((b:Int) - (a:Int)) % (n:Int)=Int.ofNat (keyN n a b):=by
 show _=((((b+(n - a)) % n:Nat)):Int)
 rw[Int.natCast_emod,show ((b+(n - a):Nat):Int)=((b:Int) - (a:Int))+(n:Int)*1 by omega,Int.add_mul_emod_self_left]
theorem vL_get {l:List Nat} {i b:Nat} {r:List Nat} (h:l.drop i=b::r):nthL (vL l) (i*1)=some (IV (Int.ofNat b)):=by
 rw[nthL_eq,Nat.mul_one]
 have:l[i]?=some b:=by
  have:=congrArg List.head? h
  rw[List.head?_drop] at this;exact this
 unfold vL
 rw[List.getElem?_map,this];rfl
theorem drop_next {l:List Nat} {i b:Nat} {r:List Nat} (h:l.drop i=b::r):l.drop (i+1)=r∧i < l.length∧b∈l:=by
 refine⟨?_,?_,?_⟩
 ·rw[←List.drop_drop,h];rfl
 ·have:=congrArg List.length h
  simp at this;omega
 ·have:b∈l.drop i:=by rw[h];exact List.mem_cons_self
  exact List.mem_of_mem_drop this
variable (pu:PureF) (L:Nat)
theorem inner {n s:Nat} {l:List Nat} (hn:n < 900) (hl:∀ x∈l,x < n) (hon:∀ x:Int,-1000 < x→x < 1000→pu 62 [tv n s,IV x]=some (IV (x % (n:Int)))) (hl2:l.length < 1000)
 (ih0:Sl→Sl→Int→Int→Int→Int→List Ent→Nat→Option Value) (a:Nat) (ha:a < n) (S S2:Sl) (z1 z2:Int):∀ (r:List Nat) (w i m:Nat) (ps:List (Nat×Nat)),l.drop i=r→r.length < w→(∀ d,look d ps≤m)→m+r.length < 900000→i≤l.length →
 l10860_3 pu L ih0 w S (Int.ofNat a) S2 z1 z2 ⟨l.length, 0, vL l⟩ (Int.ofNat l.length) (Int.ofNat i) (Int.ofNat n) (Int.ofNat s) (ents ps) ps.length =
  m10860_2 pu L ih0 S S2 z1 z2 (Int.ofNat n) (Int.ofNat s) (ents (r.foldl (cstep n a) ps)) (r.foldl (cstep n a) ps).length
 | _,0,_,_,_,_,h,_,_,_=>by omega
 | [], w + 1, i, m, ps, hd, _, _, _, hi => by
  show b10860_3 pu L ih0 (l10860_3 pu L ih0 w) S (Int.ofNat a) S2 z1 z2 ⟨l.length,0,vL l⟩ (Int.ofNat l.length) (Int.ofNat i) (Int.ofNat n) (Int.ofNat s) (ents ps) ps.length=_
  have:l.length≤i:=List.drop_eq_nil_iff.1 hd
  unfold b10860_3
  rw[ents_closed,bb_true,ilt_nat,show Nat.blt i l.length=false from by rw[blt_eq];simp;omega]
  rfl
 | b :: r, w + 1, i, m, ps, hd, hw, hm, hm2, hi => by
  show b10860_3 pu L ih0 (l10860_3 pu L ih0 w) S (Int.ofNat a) S2 z1 z2 ⟨l.length,0,vL l⟩ (Int.ofNat l.length) (Int.ofNat i) (Int.ofNat n) (Int.ofNat s) (ents ps) ps.length=_
  obtain⟨hd2,hi2,hb⟩:=drop_next hd
  have hbn:=hl b hb
  have hr:(b::r).length=r.length+1:=rfl
  have hs:wrapF .i64 (Int.add (Int.ofNat i) 1)=Int.ofNat (i+1):=wrapS i (by omega)
  have hlt:Nat.blt i l.length=true:=by rw[blt_eq];simp;omega
  have ih:=inner hn hl hon hl2 ih0 a ha S S2 z1 z2 r w (i+1) (m+1) (cstep n a ps b) hd2 (by omega) (fun d=>by have:=look_cstep n a b d ps;have:=hm d;omega) (by omega) (by omega)
  unfold b10860_3
  rw[ents_closed,bb_true,ilt_nat,hlt,bb_true]
  show oo (toN (Int.ofNat i)) none _=_
  rw[show toN (Int.ofNat i)=some i from rfl,oo_some]
  show bb (an (Nat.blt i l.length) true) _ none=_
  rw[hlt,show an true true=true from rfl,bb_true]
  show oo (nthL (vL l) (i*1)) none _=_
  rw[vL_get hd,oo_some]
  show bb (nt (ieq (Int.ofNat a) (Int.ofNat b))) _ _=_
  rw[ieq_nat]
  show _=m10860_2 pu L ih0 S S2 z1 z2 (Int.ofNat n) (Int.ofNat s) (ents (r.foldl (cstep n a) (cstep n a ps b))) (r.foldl (cstep n a) (cstep n a ps b)).length
  rw[←ih]
  unfold cstep
  cases Nat.beq a b with
  | true =>
   show m10860_4 pu L ih0 (l10860_3 pu L ih0 w) S (Int.ofNat a) S2 z1 z2 ⟨l.length,0,vL l⟩ (Int.ofNat l.length) (Int.ofNat i) (Int.ofNat n) (Int.ofNat s) (ents ps) ps.length=_
   unfold m10860_4
   rw[ents_closed,bb_true,hs];rfl
  | false =>
   have hx:wrapF .i64 (Int.sub (Int.ofNat b) (Int.ofNat a))=(b:Int) - (a:Int):=by
    show wrapF .i64 ((b:Int) - (a:Int))=_
    exact wrapI _ (by omega) (by omega)
   have hv:pu 62 [.agg ⟨[.int .i64 (Int.ofNat n),.int .u32 (Int.ofNat s)]⟩,.int .i64 (wrapF .i64 (Int.sub (Int.ofNat b) (Int.ofNat a)))]=some (IV (Int.ofNat (keyN n a b))):=by
    rw[hx,←key_eq ha];exact hon _ (by omega) (by omega)
   show oo (pu 62 [.agg ⟨[.int .i64 (Int.ofNat n),.int .u32 (Int.ofNat s)]⟩,.int .i64 (wrapF .i64 (Int.sub (Int.ofNat b) (Int.ofNat a)))]) none _=_
   rw[hv,oo_some]
   show oo (findE (IV (Int.ofNat (keyN n a b))) (ents ps) 0) none (fun r638=>oo (toI .i64 (getE r638 (.int .i64 (0:Int)))) none fun x640=>(oo (findE (IV (Int.ofNat (keyN n a b))) (ents ps) 0) none fun r642=>(bb (allL entClosed (updE (IV (Int.ofNat (keyN n a b))) (.int .i64 (wrapF .i64 (Int.add x640 (1:Int)))) ps.length (ents ps) r642)) (m10860_4 pu L ih0 (l10860_3 pu L ih0 w) S (Int.ofNat a) S2 z1 z2 ⟨l.length,0,vL l⟩ (Int.ofNat l.length) (Int.ofNat i) (Int.ofNat n) (Int.ofNat s) (updE (IV (Int.ofNat (keyN n a b))) (.int .i64 (wrapF .i64 (Int.add x640 (1:Int)))) ps.length (ents ps) r642) (updC ps.length r642)) none)))=_
   rw[findE_ents,oo_some,getE_ents]
   show oo (some ((place (keyN n a b) ps).map fun p=>(p.1,IV (Int.ofNat p.2)))) none (fun r642=>(bb (allL entClosed (updE (IV (Int.ofNat (keyN n a b))) (.int .i64 (wrapF .i64 (Int.add (Int.ofNat (look (keyN n a b) ps)) (1:Int)))) ps.length (ents ps) r642)) (m10860_4 pu L ih0 (l10860_3 pu L ih0 w) S (Int.ofNat a) S2 z1 z2 ⟨l.length,0,vL l⟩ (Int.ofNat l.length) (Int.ofNat i) (Int.ofNat n) (Int.ofNat s) (updE (IV (Int.ofNat (keyN n a b))) (.int .i64 (wrapF .i64 (Int.add (Int.ofNat (look (keyN n a b) ps)) (1:Int)))) ps.length (ents ps) r642) (updC ps.length r642)) none))=_
   rw[oo_some,wrapS _ (by have:=hm (keyN n a b);omega),(upd_bump (keyN n a b) ps).1,(upd_bump (keyN n a b) ps).2,ents_closed,bb_true]
   unfold m10860_4
   rw[ents_closed,bb_true,hs];rfl
end Go.RgP
set_option maxRecDepth 100000
set_option maxHeartbeats 2000000
namespace Go.RgP
open Go Go.Sp Go.RgJM
noncomputable def mapVal (ps:List (Nat×Nat)):Value:=.tuple ⟨[.map (some 0),encO (.map (ents ps) ps.length)]⟩
variable (pu:PureF) (L:Nat)
theorem outer {n s:Nat} {l:List Nat} (hn:n < 900) (hl:∀ x∈l,x < n) (hon:∀ x:Int,-1000 < x→x < 1000→pu 62 [tv n s,IV x]=some (IV (x % (n:Int)))) (hl2:l.length < 100) (hL:l.length < L) :
 ∀ (r:List Nat) (w i m:Nat) (ps:List (Nat×Nat)),l.drop i=r→r.length < w→(∀ d,look d ps≤m)→m+(r.length+1)*100 < 900000→i≤l.length →
 l10860_1 pu L w ⟨l.length, 0, vL l⟩ ⟨l.length, 0, vL l⟩ (Int.ofNat l.length) (Int.ofNat i) (Int.ofNat n) (Int.ofNat s) (ents ps) ps.length =
  some (mapVal (r.foldl (fun ps a=>l.foldl (cstep n a) ps) ps))
 | _,0,_,_,_,_,h,_,_,_=>by omega
 | [], w + 1, i, m, ps, hd, _, _, _, hi => by
  show b10860_1 pu L (l10860_1 pu L w) ⟨l.length,0,vL l⟩ ⟨l.length,0,vL l⟩ (Int.ofNat l.length) (Int.ofNat i) (Int.ofNat n) (Int.ofNat s) (ents ps) ps.length=_
  have:l.length≤i:=List.drop_eq_nil_iff.1 hd
  unfold b10860_1
  rw[ents_closed,bb_true,ilt_nat,show Nat.blt i l.length=false from by rw[blt_eq];simp;omega,bb_false]
  unfold m10860_0
  rw[ents_closed];rfl
 | a :: r, w + 1, i, m, ps, hd, hw, hm, hm2, hi => by
  show b10860_1 pu L (l10860_1 pu L w) ⟨l.length,0,vL l⟩ ⟨l.length,0,vL l⟩ (Int.ofNat l.length) (Int.ofNat i) (Int.ofNat n) (Int.ofNat s) (ents ps) ps.length=_
  obtain⟨hd2,hi2,hb⟩:=drop_next hd
  have han:=hl a hb
  have hr:(a::r).length=r.length+1:=rfl
  have hs:wrapF .i64 (Int.add (Int.ofNat i) 1)=Int.ofNat (i+1):=wrapS i (by omega)
  have hlt:Nat.blt i l.length=true:=by rw[blt_eq];simp;omega
  have hin:=inner pu L hn hl hon (by omega) (l10860_1 pu L w) a han ⟨l.length,0,vL l⟩ ⟨l.length,0,vL l⟩ (Int.ofNat l.length) (Int.ofNat i) l L 0 m ps (by simp) hL hm (by omega) (by omega)
  have ih:=outer hn hl hon hl2 hL r w (i+1) (m+l.length) (l.foldl (cstep n a) ps) hd2 (by omega) (fun d=>by have:=look_fold n a d l ps;have:=hm d;omega) (by omega) (by omega)
  unfold b10860_1
  rw[ents_closed,bb_true,ilt_nat,hlt,bb_true]
  show oo (toN (Int.ofNat i)) none _=_
  rw[show toN (Int.ofNat i)=some i from rfl,oo_some]
  show bb (an (Nat.blt i l.length) true) _ none=_
  rw[hlt,show an true true=true from rfl,bb_true]
  show oo (nthL (vL l) (i*1)) none _=_
  rw[vL_get hd,oo_some]
  show l10860_3 pu L (l10860_1 pu L w) L ⟨l.length,0,vL l⟩ (Int.ofNat a) ⟨l.length,0,vL l⟩ (Int.ofNat l.length) (Int.ofNat i) ⟨l.length,0,vL l⟩ (Int.ofNat l.length) (Int.ofNat 0) (Int.ofNat n) (Int.ofNat s) (ents ps) ps.length=_
  rw[hin]
  unfold m10860_2
  rw[ents_closed,bb_true,hs]
  exact ih
theorem markF_len (s:Nat):∀ k p,(markF s k p).length≤k
 | 0,_=>Nat.le_refl 0
 | k + 1, p => by
  have:=markF_len s k (p+1)
  unfold markF
  cases hasB s p with
  | true=>show (markF s k (p+1)).length+1≤_;omega
  | false=>show (markF s k (p+1)).length≤_;omega
theorem markF_mem (s:Nat):∀ k p x,x∈markF s k p→x < p+k
 | 0,_,_,h=>by cases h
 | k + 1, p, x, h => by
  unfold markF at h
  cases hh:hasB s p with
  | true =>
   rw[hh] at h
   rcases List.mem_cons.1 h with rfl | h
   ·omega
   ·have:=markF_mem s k (p+1) x h;omega
  | false =>
   rw[hh] at h
   have:=markF_mem s k (p+1) x h;omega
theorem counts_ok {n s:Nat} (hn:n≤60) (hL:n < L) (hmarks:pu 80 [tv n s]=some (Sl.v 1 ⟨(marksN n s).length,0,vL (marksN n s)⟩)) (hon:∀ x:Int,-1000 < x→x < 1000→pu 62 [tv n s,IV x]=some (IV (x % (n:Int)))) :
 m10860 pu L [tv n s]=some (mapVal (cntN n s)):=by
 show m10860_ pu L (Int.ofNat n) (Int.ofNat s)=_
 have hlen:(marksN n s).length≤n:=markF_len s n 0
 unfold m10860_
 have hm:pu 80 [.agg ⟨[.int .i64 (Int.ofNat n),.int .u32 (Int.ofNat s)]⟩]=some (Sl.v 1 ⟨(marksN n s).length,0,vL (marksN n s)⟩):=hmarks
 rw[hm,oo_some]
 show l10860_1 pu L L ⟨(marksN n s).length,0,vL (marksN n s)⟩ ⟨(marksN n s).length,0,vL (marksN n s)⟩ (Int.ofNat (marksN n s).length) (Int.ofNat 0) (Int.ofNat n) (Int.ofNat s) (ents []) 0=_
 exact outer pu L (by omega) (fun x hx=>by have:=markF_mem s n 0 x hx;omega) hon (by omega) (by omega) (marksN n s) L 0 0 [] (by simp) (by omega) (fun _=>Nat.le_refl 0) (by omega) (by omega)
def good (n:Nat) (ps:List (Nat×Nat)):Prop:=(∀ p∈ps,0 < p.1∧p.1 < n)∧(ps.map Prod.fst).Nodup
theorem bump_keys (d:Nat):∀ (ps:List (Nat×Nat)) (x:Nat),x∈(bump d ps).map Prod.fst↔x=d∨x∈ps.map Prod.fst
 | [],x=>by show x∈[d]↔_;simp
 | (k, c) :: r, x => by
  show x∈(bif Nat.beq d k then (k,c+1)::r else (k,c)::bump d r).map Prod.fst↔_
  cases hb:Nat.beq d k with
  | true=>obtain rfl:=Nat.eq_of_beq_eq_true hb;simp
  | false =>
   show x∈k::(bump d r).map Prod.fst↔x=d∨x∈k::r.map Prod.fst
   rw[List.mem_cons,List.mem_cons,bump_keys d r x]
   constructor <;> rintro(h | h | h) <;> simp[h]
theorem bump_nodup (d:Nat):∀ (ps:List (Nat×Nat)),(ps.map Prod.fst).Nodup→((bump d ps).map Prod.fst).Nodup
 | [],_=>by show [d].Nodup;simp
 | (k, c) :: r, h => by
  show ((bif Nat.beq d k then (k,c+1)::r else (k,c)::bump d r).map Prod.fst).Nodup
  cases hb:Nat.beq d k with
  | true=>exact h
  | false =>
   have h:(k::r.map Prod.fst).Nodup:=h
   obtain⟨h1,h2⟩:=List.nodup_cons.1 h
   show (k::(bump d r).map Prod.fst).Nodup
   refine List.nodup_cons.2 ⟨fun hx=>?_,bump_nodup d r h2⟩
   rcases(bump_keys d r k).1 hx with rfl | hx
   ·simp at hb
   ·exact h1 hx
theorem bump_good {n d:Nat} {ps:List (Nat×Nat)} (h:good n ps) (hd:0 < d) (hd2:d < n):good n (bump d ps):=by
 refine⟨fun p hp=>?_,bump_nodup d ps h.2⟩
 rcases(bump_keys d ps p.1).1 (List.mem_map.2 ⟨p,hp,rfl⟩) with e | e
 ·rw[e];exact⟨hd,hd2⟩
 ·obtain⟨q,hq,e⟩:=List.mem_map.1 e
  rw[←e];exact h.1 q hq
theorem key_good {n a b:Nat} (ha:a < n) (hb:b < n) (hab:a≠b):0 < keyN n a b∧keyN n a b < n:=by
 show 0 < (b+(n - a)) % n∧(b+(n - a)) % n < n
 refine⟨?_,Nat.mod_lt _ (by omega)⟩
 by_cases h:a < b
 ·rw[show b+(n - a)=(b - a)+n by omega,Nat.add_mod_right,Nat.mod_eq_of_lt (by omega)];omega
 ·rw[Nat.mod_eq_of_lt (by omega)];omega
theorem cstep_good {n a b:Nat} {ps:List (Nat×Nat)} (h:good n ps) (ha:a < n) (hb:b < n):good n (cstep n a ps b):=by
 unfold cstep
 cases hx:Nat.beq a b with
 | true=>exact h
 | false =>
  have:=key_good ha hb (fun e=>by rw[e] at hx;simp at hx)
  exact bump_good h this.1 this.2
theorem fold_good {n a:Nat} (ha:a < n):∀ (r:List Nat) (ps:List (Nat×Nat)),(∀ x∈r,x < n)→good n ps→good n (r.foldl (cstep n a) ps)
 | [],_,_,h=>h
 | b::r,ps,hr,h=>fold_good ha r _ (fun x hx=>hr x (List.mem_cons_of_mem _ hx)) (cstep_good h ha (hr b List.mem_cons_self))
theorem fold_good2 {n : Nat} {l : List Nat} (hl : ∀ x ∈ l, x < n) : ∀ (r : List Nat) (ps : List (Nat × Nat)), (∀ x ∈ r, x < n) → good n ps → good n (r.foldl (fun ps a => l.foldl (cstep n a) ps) ps)
 | [],_,_,h=>h
 | a::r,ps,hr,h=>fold_good2 hl r _ (fun x hx=>hr x (List.mem_cons_of_mem _ hx)) (fold_good (hr a List.mem_cons_self) l ps hl h)
theorem cnt_good (n s:Nat):good n (cntN n s):=by
 have h:∀ x∈marksN n s,x < n:=fun x hx=>by have:=markF_mem s n 0 x hx;omega
 exact fold_good2 h (marksN n s) [] h ⟨fun p hp=>(by cases hp),List.nodup_nil⟩
noncomputable def clashN (n s:Nat):Int:=(cntN n s).foldl cl 0
theorem clash_ok {n s:Nat} (hL:(cntN n s).length < L) (hc:pu 10860 [tv n s]=some (mapVal (cntN n s))):m76 pu L [tv n s]=some (IV (clashN n s)):=by
 show m76_ pu L (Int.ofNat n) (Int.ofNat s)=_
 unfold m76_
 have hc':pu 10860 [.agg ⟨[.int .i64 (Int.ofNat n),.int .u32 (Int.ofNat s)]⟩]=some (mapVal (cntN n s)):=hc
 rw[hc',oo_some]
 show oo (vMapO (encO (.map (ents (cntN n s)) (cntN n s).length))) none _=_
 rw[vMapO_mk,oo_some]
 show bb (allL entClosed (ents (cntN n s))) (bb (allL entClosed (ents (cntN n s))) (l76_1 pu L L 0 (cntN n s).length [] (cntN n s).length (ents (cntN n s)) (cntN n s).length) none) none=_
 rw[ents_closed,bb_true,bb_true,clash_loop pu L (fun p hp=>((cnt_good n s).1 p hp).1) L [] 0 (by rw[left_all];simpa using hL),left_all,foldl_range cl]
 rfl
end Go.RgP
set_option maxRecDepth 100000
set_option maxHeartbeats 2000000
namespace Go.RgP
open Go Go.Sp Go.RgJM
def dstep (q:List Nat) (p:Nat×Nat):List Nat:=q.set (p.1 - 1) p.2
theorem setL_one {α:Type} (v:α):∀ (xs:List α) (i:Nat),i < xs.length→setL [v] i xs=xs.set i v
 | [],i,h=>by simp at h
 | x::xs,0,_=>rfl
 | x :: xs, i + 1, h => by
  show x::setL [v] i xs=x::xs.set i v
  rw[setL_one v xs i (by simpa using h)]
theorem vL_set (q:List Nat) (i c:Nat):(vL q).set i (IV (Int.ofNat c))=vL (q.set i c):=by
 unfold vL;rw[List.map_set]
theorem zero_vL:∀ k:Nat,zeroRow [.int .i64 0] k=vL (List.replicate k 0)
 | 0=>rfl
 | k + 1 => by
  show appL [.int .i64 0] (zeroRow [.int .i64 0] k)=_
  rw[zero_vL k,appL_eq];rfl
theorem dist_loop (pu:PureF) (L:Nat) {n:Nat} (hn:n < 1000) {ps:List (Nat×Nat)} (hk:good n ps) (c:Nat):∀ (w:Nat) (seen:List Nat) (q:List Nat),q.length=n - 1→(left ps.length seen).length < w →
 l74_1 pu L w (n - 1) c (vL q) ps.length seen ps.length (ents ps) ps.length=some (Sl.v 1 ⟨n - 1,0,vL ((left ps.length seen).foldl (fun z i=>dstep z (pairAt ps i)) q)⟩)
 | 0,_,_,_,h=>by omega
 | w + 1, seen, q, hq, h => by
  have hcomm:∀ x∈left ps.length seen,∀ y∈left ps.length seen,∀ z:List Nat,dstep (dstep z (pairAt ps x)) (pairAt ps y)=dstep (dstep z (pairAt ps y)) (pairAt ps x):=fun x hx y hy z=>by
   have hx:=(left_mem.1 hx).1
   have hy:=(left_mem.1 hy).1
   have ex:pairAt ps x=ps[x]:=by simp[pairAt,hx]
   have ey:pairAt ps y=ps[y]:=by simp[pairAt,hy]
   by_cases e:x=y
   ·rw[e]
   ·have hne : ps[x].1 ≠ ps[y].1 := fun h => by
     have hnd:=hk.2
     have hx':x < (ps.map Prod.fst).length:=by simpa using hx
     have hy':y < (ps.map Prod.fst).length:=by simpa using hy
     exact e ((List.getElem_inj (h₀:=hx') (h₁:=hy') hnd).1 (by simpa using h))
    have h1:=(hk.1 _ (List.getElem_mem hx)).1
    have h2:=(hk.1 _ (List.getElem_mem hy)).1
    rw[ex,ey]
    unfold dstep
    exact List.set_comm _ _ (by omega)
  show b74_1 pu L (l74_1 pu L w) (n - 1) c (vL q) ps.length seen ps.length (ents ps) ps.length=_
  unfold b74_1
  rw[ents_old,bb_true,show Nat.ble ps.length ps.length=true from Nat.ble_eq_true_of_le (Nat.le_refl _),bb_true,ents_closed]
  refine nxt_some (fun hl=>?_) fun e he=>?_
  ·rw[leftE_nil hl,vL_closed,bb_true,bb_true]
   unfold m74_0
   have e1:takeL ((n - 1)*1) (dropL 0 (vL q))=vL q:=by
    rw[takeL_eq,dropL_eq,List.drop_zero,Nat.mul_one,←hq,←vL_len q,List.take_length]
   rw[e1,vL_closed,bb_true,len_eq,vL_len,show Nat.ble (0+(n - 1)*1) q.length=true from Nat.ble_eq_true_of_le (by omega)]
   rfl
  ·obtain⟨d,k,h1,h2⟩:=leftE_in he
   obtain⟨hd,hd2⟩:=hk.1 (d,k) (List.mem_of_getElem? h1)
   have hd:0 < d:=hd
   have hd2:d < n:=hd2
   have ep:pairAt ps e.born=(d,k):=by simp[pairAt,h1]
   rw[vL_closed,bb_true,bb_true,entT_ents ps seen e.born d k h1,oo_some]
   have ih:=dist_loop pu L hn hk c w (appL seen [e.born]) (dstep q (d,k)) (by unfold dstep;rw[List.length_set];exact hq) (by have:=left_less h2;omega)
   have fl:=foldl_left (f:=fun z i=>dstep z (pairAt ps i)) hcomm h2 q
   rw[ep] at fl
   rw[fl] at ih
   have hw:wrapF .i64 (Int.sub (Int.ofNat d) 1)=Int.ofNat (d - 1):=by
    show wrapF .i64 ((d:Int) - 1)=((d - 1:Nat):Int)
    rw[wrapI _ (by omega) (by omega)];omega
   show oo (toN (wrapF .i64 (Int.sub (Int.ofNat d) 1))) none (fun k793=>(bb (an (Nat.blt k793 (n - 1)) true) (bb (an (Nat.ble ((0+k793*1)+1) (len (vL q))) true) (bb (allL closed1 (setL [IV (Int.ofNat k)] (0+k793*1) (vL q))) (l74_1 pu L w (n - 1) c (setL [IV (Int.ofNat k)] (0+k793*1) (vL q)) ps.length (appL seen [e.born]) ps.length (ents ps) ps.length) none) none) none))=_
   rw [hw, show toN (Int.ofNat (d - 1)) = some (d - 1) from rfl, oo_some, show Nat.blt (d - 1) (n - 1) = true from by rw [blt_eq]; simp; omega, len_eq, vL_len, hq,
    show Nat.ble (0+(d - 1)*1+1) (n - 1)=true from Nat.ble_eq_true_of_le (by omega),show an true true=true from rfl,bb_true,bb_true,
    show 0+(d - 1)*1=d - 1 by omega,setL_one _ _ _ (by rw[vL_len];omega),vL_set,vL_closed,bb_true]
   exact ih
noncomputable def distN (n s:Nat):List Nat:=(cntN n s).foldl dstep (List.replicate (n - 1) 0)
theorem dist_ok (pu:PureF) (L:Nat) {n s:Nat} (hn0:0 < n) (hn:n < 1000) (hL:(cntN n s).length < L) (hc:pu 10860 [tv n s]=some (mapVal (cntN n s))):m74 pu L [tv n s]=some (Sl.v 1 ⟨n - 1,0,vL (distN n s)⟩):=by
 show m74_ pu L (Int.ofNat n) (Int.ofNat s)=_
 unfold m74_
 have hc':pu 10860 [.agg ⟨[.int .i64 (Int.ofNat n),.int .u32 (Int.ofNat s)]⟩]=some (mapVal (cntN n s)):=hc
 have hw:wrapF .i64 (Int.sub (Int.ofNat n) 1)=Int.ofNat (n - 1):=by
  show wrapF .i64 ((n:Int) - 1)=((n - 1:Nat):Int)
  rw[wrapI _ (by omega) (by omega)];omega
 rw [hw, show toN (Int.ofNat (n - 1)) = some (n - 1) from rfl, oo_some, hc',
  show Nat.ble (n - 1) (n - 1)=true from Nat.ble_eq_true_of_le (Nat.le_refl _),show Nat.ble ((n - 1)*8) 1099511627776=true from Nat.ble_eq_true_of_le (by omega),
  show Nat.ble (n - 1) 1099511627776=true from Nat.ble_eq_true_of_le (by omega),show an true (an true (an true true))=true from rfl,bb_true,zero_vL,vL_closed,bb_true,oo_some]
 show oo (vMapO (encO (.map (ents (cntN n s)) (cntN n s).length))) none _=_
 rw[vMapO_mk,oo_some]
 show bb (allL entClosed (ents (cntN n s))) (bb (allL entClosed (ents (cntN n s))) (l74_1 pu L L (n - 1) _ (vL (List.replicate (n - 1) 0)) (cntN n s).length [] (cntN n s).length (ents (cntN n s)) (cntN n s).length) none) none=_
 rw[ents_closed,bb_true,bb_true,dist_loop pu L hn (cnt_good n s) _ L [] (List.replicate (n - 1) 0) (by simp) (by rw[left_all];simpa using hL),left_all,foldl_range dstep]
 rfl
noncomputable def perfN (n s:Nat):Bool:=bb (ieq (clashN n s) 0) (Nat.beq (cntN n s).length (n - 1)) false
theorem perf_ok (pu:PureF) (L:Nat) {n s:Nat} (hn0:0 < n) (hn:n < 1000) (hc:pu 10860 [tv n s]=some (mapVal (cntN n s))) (hq:pu 76 [tv n s]=some (IV (clashN n s))):m78 pu L [tv n s]=some (.bool (perfN n s)):=by
 show m78_ pu L (Int.ofNat n) (Int.ofNat s)=_
 unfold m78_ perfN
 have hc':pu 10860 [.agg ⟨[.int .i64 (Int.ofNat n),.int .u32 (Int.ofNat s)]⟩]=some (mapVal (cntN n s)):=hc
 have hq':pu 76 [.agg ⟨[.int .i64 (Int.ofNat n),.int .u32 (Int.ofNat s)]⟩]=some (IV (clashN n s)):=hq
 rw[hq',oo_some]
 show bb (ieq (clashN n s) 0) _ _=_
 cases ieq (clashN n s) 0 with
 | false=>rfl
 | true =>
  rw[bb_true,bb_true,hc',oo_some]
  show oo (vMapO (encO (.map (ents (cntN n s)) (cntN n s).length))) none _=_
  rw[vMapO_mk,oo_some]
  show bb (allL entClosed (ents (cntN n s))) (m78_0 pu L (ieq (Int.ofNat (len (ents (cntN n s)))) (wrapF .i64 (Int.sub (Int.ofNat n) 1)))) none=_
  have hw:wrapF .i64 (Int.sub (Int.ofNat n) 1)=Int.ofNat (n - 1):=by
   show wrapF .i64 ((n:Int) - 1)=((n - 1:Nat):Int)
   rw[wrapI _ (by omega) (by omega)];omega
  rw[ents_closed,bb_true,hw,ieq_nat,len_eq,ents_len];rfl
end Go.RgP
set_option maxRecDepth 100000
set_option maxHeartbeats 2000000
namespace Go.RgP
open Go Go.Sp Go.RgJM
theorem bump_le (d:Nat) (ps:List (Nat×Nat)):(bump d ps).length≤ps.length+1:=by
 rw[bump_len];split
 ·exact Nat.le_refl _
 ·exact Nat.le_succ _
theorem cstep_le (n a b:Nat) (ps:List (Nat×Nat)):(cstep n a ps b).length≤ps.length+1:=by
 unfold cstep
 cases Nat.beq a b with
 | true=>show ps.length≤_;omega
 | false=>exact bump_le _ _
theorem fold_le (n a:Nat):∀ (r:List Nat) (ps:List (Nat×Nat)),(r.foldl (cstep n a) ps).length≤ps.length+r.length
 | [],ps=>by show ps.length≤_;omega
 | b :: r, ps => by
  have h1:=fold_le n a r (cstep n a ps b)
  have h2:=cstep_le n a b ps
  show (r.foldl (cstep n a) (cstep n a ps b)).length≤ps.length+(r.length+1)
  omega
theorem fold2_le (n : Nat) (l : List Nat) (hl : l.length ≤ 60) : ∀ (r : List Nat) (ps : List (Nat × Nat)), (r.foldl (fun ps a => l.foldl (cstep n a) ps) ps).length ≤ ps.length + r.length * 60
 | [],ps=>by show ps.length≤_;omega
 | a :: r, ps => by
  have h1:=fold2_le n l hl r (l.foldl (cstep n a) ps)
  have h2:=fold_le n a l ps
  show (r.foldl (fun ps a=>l.foldl (cstep n a) ps) (l.foldl (cstep n a) ps)).length≤ps.length+(r.length+1)*60
  omega
theorem cnt_le {n s:Nat} (hn:n≤60):(cntN n s).length < L:=by
 have h1:(marksN n s).length≤n:=markF_len s n 0
 have h2:=fold2_le n (marksN n s) (by omega) (marksN n s) []
 have h3:(cntN n s).length≤0+(marksN n s).length*60:=h2
 show _ < 1000000
 omega
theorem p62 (k:Nat) (args:List Value):puN (k+1) 62 args=m62 (puN k) L args:=by kernel_rfl
theorem p91 (k:Nat) (args:List Value):puN (k+1) 91 args=m91 (puN k) L args:=by kernel_rfl
theorem p80 (k:Nat) (args:List Value):puN (k+1) 80 args=m80 (puN k) L args:=by kernel_rfl
theorem p10860 (k:Nat) (args:List Value):puN (k+1) 10860 args=m10860 (puN k) L args:=by kernel_rfl
theorem p76 (k:Nat) (args:List Value):puN (k+1) 76 args=m76 (puN k) L args:=by kernel_rfl
theorem p74 (k:Nat) (args:List Value):puN (k+1) 74 args=m74 (puN k) L args:=by kernel_rfl
theorem p78 (k:Nat) (args:List Value):puN (k+1) 78 args=m78 (puN k) L args:=by kernel_rfl
theorem pu_on (k:Nat) {n s:Nat} {x:Int} (hn:0 < n) (hn2:n≤60) (h1:-1000 < x) (h2:x < 1000):puN (k+1) 62 [tv n s,IV x]=some (IV (x % (n:Int))):=by
 rw[p62];exact on_ok (puN k) L n s x hn (by omega) h1 h2
theorem pu_has (k n s p:Nat):puN (k+1) 91 [tv n s,IV (Int.ofNat p)]=some (.bool (hasB s p)):=by
 rw[p91];exact has_ok (puN k) L n s p
theorem Lbig {n:Nat} (hn:n≤60):n < L:=by show n < 1000000;omega
theorem pu_marks (k:Nat) {n s:Nat} (hn2:n≤60):puN (k+2) 80 [tv n s]=some (Sl.v 1 ⟨(marksN n s).length,0,vL (marksN n s)⟩):=by
 rw[p80];exact marks_ok (puN (k+1)) (Lbig hn2) (by omega) fun p _=>pu_has k n s p
theorem pu_counts (k:Nat) {n s:Nat} (hn:0 < n) (hn2:n≤60):puN (k+3) 10860 [tv n s]=some (mapVal (cntN n s)):=by
 rw[p10860];exact counts_ok (puN (k+2)) L hn2 (Lbig hn2) (pu_marks k hn2) fun _ h1 h2=>pu_on (k+1) hn hn2 h1 h2
theorem pu_clash (k:Nat) {n s:Nat} (hn:0 < n) (hn2:n≤60):puN (k+4) 76 [tv n s]=some (IV (clashN n s)):=by
 rw[p76];exact clash_ok (puN (k+3)) L (cnt_le hn2) (pu_counts k hn hn2)
theorem pu_dist (k:Nat) {n s:Nat} (hn:0 < n) (hn2:n≤60):puN (k+4) 74 [tv n s]=some (Sl.v 1 ⟨n - 1,0,vL (distN n s)⟩):=by
 rw[p74];exact dist_ok (puN (k+3)) L hn (by omega) (cnt_le hn2) (pu_counts k hn hn2)
theorem pu_perf (k:Nat) {n s:Nat} (hn:0 < n) (hn2:n≤60):puN (k+5) 78 [tv n s]=some (.bool (perfN n s)):=by
 rw[p78];exact perf_ok (puN (k+4)) L hn (by omega) (pu_counts (k+1) hn hn2) (pu_clash k hn hn2)
end Go.RgP
set_option maxRecDepth 100000
set_option maxHeartbeats 0
namespace Go.RgP
open Go Go.Sp Go.RgJ Go.RgJM
noncomputable section
def onT {β:Type} (args:List Value) (k:Nat→Nat→Option β):Option β:=ll args none fun a r=>ll r (oo (vAgg a) none fun l=>ll l none fun v1 l=>ll l none fun v2 l=>ll l (oo (toI .i64 v1) none fun x=>oo (toI .u32 v2) none fun y=>oo (toN x) none fun n=>oo (toN y) none fun s=>bb (an (Nat.blt 0 n) (Nat.ble n 60)) (k n s) none) fun _ _=>none) fun _ _=>none
def orc76 (args:List Value):Option Value:=onT args fun n s=>some (IV (clashN n s))
def orc74 (args:List Value):Option Value:=onT args fun n s=>some (Sl.v 1 ⟨n - 1,0,vL (distN n s)⟩)
def orc78 (args:List Value):Option Value:=onT args fun n s=>some (.bool (perfN n s))
def pu0:PureF:=puN 30
def puV:PureF:=fun g=>bb (Nat.beq g 76) orc76 (bb (Nat.beq g 74) orc74 (bb (Nat.beq g 78) orc78 (pu0 g)))
end
theorem onT_inv {β:Type} {args:List Value} {k:Nat→Nat→Option β} {v:β} (h:onT args k=some v):∃ n s,args=[tv n s]∧0 < n∧n≤60∧k n s=some v:=by
 replace h:=ll_uncons h;obtain⟨a,r,rfl,h⟩:=h
 replace h:=ll_end h;obtain⟨rfl,h⟩:=h
 obtain⟨l,hl,h⟩:=oo_inv h
 replace h:=ll_uncons h;obtain⟨v1,l1,rfl,h⟩:=h
 replace h:=ll_uncons h;obtain⟨v2,l2,rfl,h⟩:=h
 replace h:=ll_end h;obtain⟨rfl,h⟩:=h
 obtain⟨x,hx,h⟩:=oo_inv h
 obtain⟨y,hy,h⟩:=oo_inv h
 obtain⟨n,hn,h⟩:=oo_inv h
 obtain⟨s,hs,h⟩:=oo_inv h
 obtain⟨hc,h⟩:=bb_inv h
 obtain⟨c1,c2⟩:=an_inv hc
 refine⟨n,s,?_,Nat.le_of_ble_eq_true c1,Nat.le_of_ble_eq_true c2,h⟩
 rw[vAgg_some hl,toI_some hx,toI_some hy,toN_some hn,toN_some hs];rfl
theorem or76 (args:List Value) (v:Value) (h:orc76 args=some v):pu0 76 args=some v:=by
 obtain⟨n,s,rfl,h1,h2,h⟩:=onT_inv h
 rw[←h];exact pu_clash 26 h1 h2
theorem or74 (args:List Value) (v:Value) (h:orc74 args=some v):pu0 74 args=some v:=by
 obtain⟨n,s,rfl,h1,h2,h⟩:=onT_inv h
 rw[←h];exact pu_dist 26 h1 h2
theorem or78 (args:List Value) (v:Value) (h:orc78 args=some v):pu0 78 args=some v:=by
 obtain⟨n,s,rfl,h1,h2,h⟩:=onT_inv h
 rw[←h];exact pu_perf 25 h1 h2
end Go.RgP
set_option maxRecDepth 100000
set_option maxHeartbeats 2000000
namespace Go.RgP
open Go Go.Sp Go.RgJM
def few (D:List Nat) (p:Nat×Nat):Bool:=Nat.ble p.2 (D[p.1 - 1]?.getD 0)
noncomputable def odd1 (s:Nat):Bool:=ieq (aand .u32 (Int.ofNat s) 1) 1
noncomputable def ableV (fl:Nat) (D:List Nat) (b:Bool):Value:=.tuple ⟨[.bool b,.agg ⟨[Sl.v 1 ⟨D.length,fl,vL D⟩]⟩]⟩
theorem able_loop (pu:PureF) (L n s fl:Nat) {D:List Nat} {ps:List (Nat×Nat)} (hD:D.length < 100) (hk:∀ p∈ps,0 < p.1∧p.1≤D.length):∀ (w:Nat) (seen:List Nat),(left ps.length seen).length < w →
 l10850_1 pu L w ⟨D.length,fl,vL D⟩ (Int.ofNat n) (Int.ofNat s) ps.length seen ps.length (ents ps) ps.length=some (ableV fl D (an ((left ps.length seen).all fun i=>few D (pairAt ps i)) (odd1 s)))
 | 0,_,h=>by omega
 | w + 1, seen, h => by
  show b10850_1 pu L (l10850_1 pu L w) ⟨D.length,fl,vL D⟩ (Int.ofNat n) (Int.ofNat s) ps.length seen ps.length (ents ps) ps.length=_
  unfold b10850_1
  rw[ents_old,bb_true,show Nat.ble ps.length ps.length=true from Nat.ble_eq_true_of_le (Nat.le_refl _),bb_true,ents_closed]
  refine nxt_some (fun hl=>?_) fun e he=>?_
  ·rw[leftE_nil hl,bb_true];rfl
  ·obtain⟨d,c,h1,h2⟩:=leftE_in he
   obtain⟨hd,hd2⟩:=hk (d,c) (List.mem_of_getElem? h1)
   have hd:0 < d:=hd
   have hd2:d≤D.length:=hd2
   have ep:pairAt ps e.born=(d,c):=by simp[pairAt,h1]
   have hall:((left ps.length seen).all fun i=>few D (pairAt ps i))=(few D (d,c) && ((left ps.length (appL seen [e.born])).all fun i=>few D (pairAt ps i))):=by
    rw[(perm_left h2).all_eq,List.all_cons,ep]
   rw[bb_true,entT_ents ps seen e.born d c h1,oo_some]
   have ih:=able_loop pu L n s fl hD hk w (appL seen [e.born]) (by have:=left_less h2;omega)
   have hw:wrapF .i64 (Int.sub (Int.ofNat d) 1)=Int.ofNat (d - 1):=by
    show wrapF .i64 ((d:Int) - 1)=((d - 1:Nat):Int)
    rw[wrapI _ (by omega) (by omega)];omega
   have hg:nthL (vL D) ((d - 1)*1)=some (IV (Int.ofNat (D[d - 1]?.getD 0))):=by
    rw[nthL_eq,Nat.mul_one];unfold vL
    rw[List.getElem?_map]
    have hlt:d - 1 < D.length:=by omega
    simp[hlt]
   show oo (toN (wrapF .i64 (Int.sub (Int.ofNat d) 1))) none (fun k7695=>(bb (an (Nat.blt k7695 D.length) true) (oo (nthL (vL D) (k7695*1)) none fun v7698=>(oo (toI .i64 v7698) none fun x7700=>(bb (ilt x7700 (Int.ofNat c)) (some (ableV fl D false)) (l10850_1 pu L w ⟨D.length,fl,vL D⟩ (Int.ofNat n) (Int.ofNat s) ps.length (appL seen [e.born]) ps.length (ents ps) ps.length)))) none))=_
   rw[hw,show toN (Int.ofNat (d - 1))=some (d - 1) from rfl,oo_some,show Nat.blt (d - 1) D.length=true from by rw[blt_eq];simp;omega,show an true true=true from rfl,bb_true,hg,oo_some]
   show bb (ilt (Int.ofNat (D[d - 1]?.getD 0)) (Int.ofNat c)) _ _=_
   rw[ilt_nat,ih,hall]
   unfold few
   show bb (Nat.blt (D[d - 1]?.getD 0) c) _ _=some (ableV fl D (an (Nat.ble c (D[d - 1]?.getD 0) && _) _))
   by_cases hc:c≤D[d - 1]?.getD 0
   ·rw[show Nat.blt (D[d - 1]?.getD 0) c=false from by rw[blt_eq];simp;omega,show Nat.ble c (D[d - 1]?.getD 0)=true from Nat.ble_eq_true_of_le hc];rfl
   ·rw[show Nat.blt (D[d - 1]?.getD 0) c=true from by rw[blt_eq];simp;omega,show Nat.ble c (D[d - 1]?.getD 0)=false from by rw[ble_eq];simp;omega];rfl
theorem all_range (f:Nat×Nat→Bool) (ps:List (Nat×Nat)):((List.range ps.length).all fun i=>f (pairAt ps i))=ps.all f:=by
 have:(List.range ps.length).map (pairAt ps)=ps:=by
  apply List.ext_getElem
  ·simp
  ·intro i h1 h2;simp[pairAt,h2]
 conv=>rhs;rw[←this]
 rw[List.all_map];rfl
theorem able_ok (pu:PureF) (L:Nat) {n s fl:Nat} {D:List Nat} (hD:D.length < 100) (hn:n≤D.length+1) (hL:(cntN n s).length < L) (hc:pu 10860 [tv n s]=some (mapVal (cntN n s))) :
 m10850_ pu L (Int.ofNat n) (Int.ofNat s) ⟨D.length,fl,vL D⟩=some (ableV fl D (an ((cntN n s).all (few D)) (odd1 s))):=by
 unfold m10850_
 have hc':pu 10860 [.agg ⟨[.int .i64 (Int.ofNat n),.int .u32 (Int.ofNat s)]⟩]=some (mapVal (cntN n s)):=hc
 rw[hc',oo_some]
 show oo (vMapO (encO (.map (ents (cntN n s)) (cntN n s).length))) none _=_
 rw[vMapO_mk,oo_some]
 show bb (allL entClosed (ents (cntN n s))) (bb (allL entClosed (ents (cntN n s))) (l10850_1 pu L L ⟨D.length,fl,vL D⟩ (Int.ofNat n) (Int.ofNat s) (cntN n s).length [] (cntN n s).length (ents (cntN n s)) (cntN n s).length) none) none=_
 rw[ents_closed,bb_true,bb_true,able_loop pu L n s fl hD (fun p hp=>by have:=(cnt_good n s).1 p hp;omega) L [] (by rw[left_all];simpa using hL),left_all,all_range (few D)]
end Go.RgP
set_option maxRecDepth 100000
set_option maxHeartbeats 0
namespace Go.RgP
open Go Go.Sp Go.RgJ Go.RgJM
noncomputable section
def natsO:List Value→Option (List Nat):=fun l=>List.rec (motive:=fun _=>Option (List Nat)) (some []) (fun v _ ih=>oo (toI .i64 v) none fun z=>oo (toN z) none fun n=>oo ih none fun r=>some (n::r)) l
def orcA (args : List Value) : Option Value := ll args none fun a0 r => ll r none fun a1 r => ll r none fun o0 r => ll r
 (onT [a0] fun n s => bb (isPt a1 0 0) (oo (vAgg o0) none fun l => ll l none fun v r => ll r (oo (toSl 1 v) none fun sl => oo (natsO sl.cs) none fun D =>
   bb (an (Nat.beq sl.n (len D)) (an (Nat.blt (len D) 60) (Nat.ble n (Nat.succ (len D))))) (some (ableV sl.fl D (an (allL (few D) (cntN n s)) (odd1 s)))) none) fun _ _=>none) none) fun _ _=>none
def puW:PureF:=fun g=>bb (Nat.beq g 10850) orcA (pu0 g)
def isR:FuncId→Bool:=fun g=>an (isP g) (nt (memN g [10,14,35,37,27,29,31,44]))
end
theorem natsO_some:∀ {cs:List Value} {D:List Nat},natsO cs=some D→cs=vL D
 | [],D,h=>by injection h with h;subst h;rfl
 | v :: cs, D, h => by
  replace h:oo (toI .i64 v) none (fun z=>oo (toN z) none fun n=>oo (natsO cs) none fun r=>some (n::r))=some D:=h
  obtain⟨z,hz,h⟩:=oo_inv h
  obtain⟨n,hn,h⟩:=oo_inv h
  obtain⟨r,hr,h⟩:=oo_inv h
  injection h with h;subst h
  rw[toI_some hz,toN_some hn,natsO_some hr];rfl
theorem orA (args:List Value) (v:Value) (h:orcA args=some v):pu0 10850 args=some v:=by
 replace h:=ll_uncons h;obtain⟨a0,r,rfl,h⟩:=h
 replace h:=ll_uncons h;obtain⟨a1,r,rfl,h⟩:=h
 replace h:=ll_uncons h;obtain⟨o0,r,rfl,h⟩:=h
 replace h:=ll_end h;obtain⟨rfl,h⟩:=h
 obtain⟨n,s,he,hn,hn2,h1⟩:=onT_inv h
 clear h
 injection he with he;subst he
 obtain⟨hp,h2⟩:=bb_inv h1
 clear h1
 obtain⟨l,hl,h⟩:=oo_inv h2
 clear h2
 replace h:=ll_uncons h;obtain⟨x,r,rfl,h⟩:=h
 replace h:=ll_end h;obtain⟨rfl,h⟩:=h
 obtain⟨sl,hs,h⟩:=oo_inv h
 obtain⟨D,hD,h⟩:=oo_inv h
 obtain⟨hc,h⟩:=bb_inv h
 obtain⟨c1,c2⟩:=an_inv hc
 obtain⟨c2,c3⟩:=an_inv c2
 have c1:sl.n=D.length:=by rw[←len_eq];exact Nat.eq_of_beq_eq_true c1
 have c2:D.length < 60:=by rw[len_eq,blt_eq] at c2;simpa using c2
 have c3:n≤D.length+1:=by have:=Nat.le_of_ble_eq_true c3;rw[len_eq] at this;exact this
 rw[vAgg_some hl,toSl_some hs]
 obtain⟨m,fl,cs⟩:=sl
 have c1:m=D.length:=c1
 have hD2:cs=vL D:=natsO_some hD
 clear hD hc
 subst c1;subst hD2
 have e:pu0 10850 [tv n s,a1,.agg ⟨[Sl.v 1 ⟨D.length,fl,vL D⟩]⟩]=bb (isPt a1 0 0) (m10850_ (puN 29) L (Int.ofNat n) (Int.ofNat s) ⟨D.length,fl,vL D⟩) none:=by kernel_rfl
 rw[e,hp,bb_true,←h,allL_eq]
 exact able_ok (puN 29) L (by omega) c3 (cnt_le hn2) (pu_counts 26 hn hn2)
end Go.RgP
set_option maxRecDepth 100000
set_option maxHeartbeats 2000000
namespace Go.RgP
open Go Go.Sp
theorem aand32 {a b:Nat} (ha:a < 4294967296) (hb:b < 4294967296):aand .u32 (Int.ofNat a) (Int.ofNat b)=Int.ofNat (a &&& b):=by
 show bb (an (Nat.ble a 4294967295) (Nat.ble b 4294967295)) (Int.ofNat (Nat.land a b)) _=_
 rw[Nat.ble_eq_true_of_le (show a≤4294967295 by omega),Nat.ble_eq_true_of_le (show b≤4294967295 by omega)];rfl
theorem aor32 {a b:Nat} (ha:a < 4294967296) (hb:b < 4294967296):aor .u32 (Int.ofNat a) (Int.ofNat b)=Int.ofNat (a ||| b):=by
 show bb (an (Nat.ble a 4294967295) (Nat.ble b 4294967295)) (Int.ofNat (Nat.lor a b)) _=_
 rw[Nat.ble_eq_true_of_le (show a≤4294967295 by omega),Nat.ble_eq_true_of_le (show b≤4294967295 by omega)];rfl
theorem shr32 {a:Nat} (ha:a < 4294967296) (p:Nat):shrI .u32 (Int.ofNat a) p=Int.ofNat (a / 2 ^ p):=by
 show Int.ofNat (a / 2 ^ (min p 32))=_
 by_cases h:p≤32
 ·rw[Nat.min_eq_left h]
 ·have h1:a / 2 ^ (min p 32)=0:=by rw[Nat.min_eq_right (by omega)];exact Nat.div_eq_of_lt (show a < 2 ^ 32 by omega)
  have h2:a / 2 ^ p=0:=Nat.div_eq_of_lt (Nat.lt_of_lt_of_le (show a < 2 ^ 32 by omega) (Nat.pow_le_pow_right (by omega) (show 32≤p by omega)))
  rw[h1,h2]
theorem wrap32 {a:Nat} (ha:a < 4294967296):wrapF .u32 (Int.ofNat a)=Int.ofNat a:=by
 show Int.ofNat (a % 4294967296)=_
 rw[Nat.mod_eq_of_lt ha]
theorem shl32 {k:Nat} (hk:k < 32):shlI .u32 (1:Int) k=Int.ofNat (2 ^ k):=by
 show wrapF .u32 (Int.ofNat (1*2 ^ (min k 32)))=_
 rw[Nat.one_mul,Nat.min_eq_left (by omega)]
 exact wrap32 (Nat.pow_lt_pow_right (by omega) hk)
theorem hasB_eq {s:Nat} (hs:s < 4294967296) (p:Nat):hasB s p=s.testBit p:=by
 unfold hasB
 have h2:s / 2 ^ p < 4294967296:=Nat.lt_of_le_of_lt (Nat.div_le_self _ _) hs
 rw[shr32 hs,show (1:Int)=Int.ofNat 1 from rfl,aand32 h2 (by omega),ieq_nat,Nat.and_one_is_mod,Nat.testBit_eq_decide_div_mod_eq]
 by_cases h:s / 2 ^ p % 2=1
 ·rw[h];simp
 ·have:s / 2 ^ p % 2=0:=by omega
  rw[this];simp;rfl
theorem mem_markF {s:Nat} (hs:s < 4294967296):∀ (k p x:Nat),x∈markF s k p↔p≤x∧x < p+k∧s.testBit x=true
 | 0,p,x=>by simp[markF];omega
 | k + 1, p, x => by
  have ih:=mem_markF hs k (p+1) x
  unfold markF
  rw[hasB_eq hs]
  cases hb:s.testBit p with
  | true =>
   show x∈p::markF s k (p+1)↔_
   rw[List.mem_cons,ih]
   constructor
   ·rintro(rfl | ⟨h1,h2,h3⟩)
    ·exact⟨Nat.le_refl _,by omega,hb⟩
    ·exact⟨by omega,by omega,h3⟩
   ·rintro⟨h1,h2,h3⟩
    by_cases h:x=p
    ·exact .inl h
    ·exact .inr ⟨by omega,by omega,h3⟩
  | false =>
   show x∈markF s k (p+1)↔_
   rw[ih]
   constructor
   ·rintro⟨h1,h2,h3⟩;exact⟨by omega,by omega,h3⟩
   ·rintro⟨h1,h2,h3⟩
    refine⟨?_,by omega,h3⟩
    by_cases h:x=p
    ·subst h;rw[hb] at h3;cases h3
    ·omega
theorem markF_sorted {s:Nat} (hs:s < 4294967296):∀ (k p:Nat),(markF s k p).Pairwise (· < ·)
 | 0,p=>by simp[markF]
 | k + 1, p => by
  have ih:=markF_sorted hs k (p+1)
  unfold markF
  cases hasB s p with
  | true =>
   show (p::markF s k (p+1)).Pairwise _
   exact List.pairwise_cons.2 ⟨fun x hx=>by have:=(mem_markF hs k (p+1) x).1 hx;omega,ih⟩
  | false=>exact ih
theorem mem_marks {n s x:Nat} (hs:s < 4294967296):x∈marksN n s↔x < n∧s.testBit x=true:=by
 unfold marksN;rw[mem_markF hs]
 exact⟨fun h=>⟨by omega,h.2.2⟩,fun h=>⟨by omega,by omega,h.2⟩⟩
theorem marks_sorted {n s:Nat} (hs:s < 4294967296):(marksN n s).Pairwise (· < ·):=markF_sorted hs n 0
theorem nodup_of_lt {l:List Nat} (h:l.Pairwise (· < ·)):l.Nodup:=h.imp fun hab=>by omega
theorem sorted_ext {l l':List Nat} (h:l.Pairwise (· < ·)) (h':l'.Pairwise (· < ·)) (hm:∀ x,x∈l↔x∈l'):l=l':=
 List.Perm.eq_of_pairwise (le:=(· < ·)) (fun a b _ _ h1 h2=>absurd h1 (by omega)) h h' ((List.perm_ext_iff_of_nodup (nodup_of_lt h) (nodup_of_lt h')).2 hm)
theorem marks_more {n m s:Nat} (hs:s < 4294967296) (h:s < 2 ^ n) (hm:n≤m):marksN m s=marksN n s:=by
 refine sorted_ext (marks_sorted hs) (marks_sorted hs) fun x=>?_
 rw[mem_marks hs,mem_marks hs]
 constructor
 ·rintro⟨_,h2⟩
  refine⟨?_,h2⟩
  by_cases hx:x < n
  ·exact hx
  ·have:s.testBit x=false:=Nat.testBit_lt_two_pow (Nat.lt_of_lt_of_le h (Nat.pow_le_pow_right (by omega) (by omega)))
   rw[this] at h2;cases h2
 ·rintro⟨h1,h2⟩;exact⟨by omega,h2⟩
def cntD (n:Nat) (l:List Nat) (d:Nat):Nat:=l.countP fun a=>decide ((a+d) % n∈l)
theorem beq_ne {a b:Nat} (h:a≠b):Nat.beq a b=false:=by
 cases hb:Nat.beq a b with
 | false=>rfl
 | true=>exact absurd (Nat.eq_of_beq_eq_true hb) h
theorem beq_dec (a b:Nat):Nat.beq a b=decide (a=b):=by
 by_cases h:a=b
 ·subst h;rw[Nat.beq_refl];simp
 ·rw[beq_ne h];simp[h]
theorem look_bumpE (d d':Nat):∀ ps:List (Nat×Nat),look d' (bump d ps)=look d' ps+(bif Nat.beq d d' then 1 else 0)
 | [] => by
  show (bif Nat.beq d' d then 1 else 0)=0+_
  rw[show Nat.beq d' d=Nat.beq d d' from by
   by_cases h:d=d'
   ·subst h;rfl
   ·rw[beq_ne h,beq_ne (Ne.symm h)]];omega
 | (k, c) :: r => by
  show look d' (bif Nat.beq d k then (k,c+1)::r else (k,c)::bump d r)=(bif Nat.beq d' k then c else look d' r)+_
  have ih:=look_bumpE d d' r
  cases hb:Nat.beq d k with
  | true =>
   obtain rfl:=Nat.eq_of_beq_eq_true hb
   show (bif Nat.beq d' d then c+1 else look d' r)=_
   cases h1:Nat.beq d' d with
   | true=>obtain rfl:=Nat.eq_of_beq_eq_true h1;rw[Nat.beq_refl];rfl
   | false =>
    have:Nat.beq d d'=false:=beq_ne fun e=>by subst e;rw[Nat.beq_refl] at h1;cases h1
    rw[this];rfl
  | false =>
   show (bif Nat.beq d' k then c else look d' (bump d r))=_
   cases h1:Nat.beq d' k with
   | true =>
    obtain rfl:=Nat.eq_of_beq_eq_true h1
    rw[hb];rfl
   | false=>exact ih
theorem look_cstepE (n a b d:Nat) (ps:List (Nat×Nat)):look d (cstep n a ps b)=look d ps+(bif (!Nat.beq a b && Nat.beq (keyN n a b) d) then 1 else 0):=by
 unfold cstep
 cases Nat.beq a b with
 | true=>rfl
 | false=>exact look_bumpE _ _ _
theorem look_foldE (n a d : Nat) : ∀ (r : List Nat) (ps : List (Nat × Nat)), look d (r.foldl (cstep n a) ps) = look d ps + r.countP fun b => !Nat.beq a b && Nat.beq (keyN n a b) d
 | [],ps=>rfl
 | b :: r, ps => by
  show look d (r.foldl (cstep n a) (cstep n a ps b))=_
  rw[look_foldE n a d r,look_cstepE,List.countP_cons]
  cases (!Nat.beq a b && Nat.beq (keyN n a b) d) <;> simp <;> omega
theorem countP_one {l:List Nat} (hl:l.Nodup) (c:Nat):(l.countP fun b=>decide (b=c))=if c∈l then 1 else 0:=by
 induction l with
 | nil=>rfl
 | cons x l ih =>
  have hx:=List.nodup_cons.1 hl
  rw[List.countP_cons,ih hx.2]
  by_cases h:x=c
  ·subst h;simp[hx.1]
  ·have hc:¬ c=x:=fun e=>h e.symm
   simp[h,hc]
theorem key_iff {n a b d:Nat} (ha:a < n) (hb:b < n) (hd:0 < d) (hd2:d < n):(!Nat.beq a b && Nat.beq (keyN n a b) d)=decide (b=(a+d) % n):=by
 have hk:keyN n a b=(b+(n - a)) % n:=rfl
 have e1:(b+(n - a)) % n=if a≤b then b - a else b+(n - a):=by
  split
  ·rw[show b+(n - a)=(b - a)+n by omega,Nat.add_mod_right,Nat.mod_eq_of_lt (by omega)]
  ·exact Nat.mod_eq_of_lt (by omega)
 have e2:(a+d) % n=if a+d < n then a+d else a+d - n:=by
  split
  ·exact Nat.mod_eq_of_lt (by assumption)
  ·rw[Nat.mod_eq_sub_mod (by omega),Nat.mod_eq_of_lt (by omega)]
 rw[hk,e1,e2,Bool.eq_iff_iff,beq_dec,beq_dec]
 by_cases h1:a≤b <;> by_cases h2:a+d < n <;> simp[h1,h2] <;> omega
theorem look_outer {n : Nat} {l : List Nat} (hl : l.Nodup) (hn : ∀ x ∈ l, x < n) {d : Nat} (hd : 0 < d) (hd2 : d < n) : ∀ (r : List Nat) (ps : List (Nat × Nat)), (∀ x ∈ r, x < n) → look d (r.foldl (fun ps a => l.foldl (cstep n a) ps) ps) = look d ps + r.countP fun a => decide ((a + d) % n ∈ l)
 | [],ps,_=>rfl
 | a :: r, ps, hr => by
  show look d (r.foldl (fun ps a=>l.foldl (cstep n a) ps) (l.foldl (cstep n a) ps))=_
  rw[look_outer hl hn hd hd2 r _ fun x hx=>hr x (List.mem_cons_of_mem _ hx),look_foldE,List.countP_cons]
  have ha:=hr a List.mem_cons_self
  have:(l.countP fun b=>!Nat.beq a b && Nat.beq (keyN n a b) d)=l.countP fun b=>decide (b=(a+d) % n):=by
   refine List.countP_congr fun b hb=>?_
   rw[key_iff ha (hn b hb) hd hd2]
  rw[this,countP_one hl]
  by_cases h:(a+d) % n∈l <;> simp[h] <;> omega
theorem look_cnt {n s d:Nat} (hs:s < 4294967296) (hd:0 < d) (hd2:d < n):look d (cntN n s)=cntD n (marksN n s) d:=by
 have h:=look_outer (nodup_of_lt (marks_sorted (n:=n) hs)) (fun x hx=>((mem_marks hs).1 hx).1) hd hd2 (marksN n s) [] fun x hx=>((mem_marks hs).1 hx).1
 unfold cntN cntL cntD
 rw[h];show 0+_=_;omega
end Go.RgP
set_option maxRecDepth 100000
set_option maxHeartbeats 2000000
namespace Go.RgP
open Go Go.Sp
theorem look_mem {d c:Nat}:∀ {ps:List (Nat×Nat)},(ps.map Prod.fst).Nodup→(d,c)∈ps→look d ps=c
 | (k, e) :: r, h, hm => by
  obtain⟨h1,h2⟩:=List.nodup_cons.1 (show (k::r.map Prod.fst).Nodup from h)
  show (bif Nat.beq d k then e else look d r)=c
  rcases List.mem_cons.1 hm with h3 | h3
  ·injection h3 with a b;subst a;subst b;rw[Nat.beq_refl];rfl
  ·have:d≠k:=fun e=>h1 (by subst e;exact List.mem_map.2 ⟨(d,c),h3,rfl⟩)
   rw[beq_ne this];exact look_mem h2 h3
theorem look_none {d:Nat}:∀ {ps:List (Nat×Nat)},d ∉ ps.map Prod.fst→look d ps=0
 | [],_=>rfl
 | (k, e) :: r, h => by
  show (bif Nat.beq d k then e else look d r)=0
  rw[beq_ne fun e=>h (by subst e;exact List.mem_cons_self)]
  exact look_none fun hm=>h (List.mem_cons_of_mem _ hm)
def dists (n:Nat) (l:List Nat):List Nat:=(List.range (n - 1)).map fun i=>cntD n l (i+1)
theorem dstep_fold {n:Nat}:∀ (ps:List (Nat×Nat)) (q:List Nat),q.length=n - 1→(∀ p∈ps,0 < p.1∧p.1 < n)→(ps.map Prod.fst).Nodup →
 (ps.foldl dstep q).length=n - 1∧∀ i,i < n - 1→(ps.foldl dstep q)[i]?=if i+1∈ps.map Prod.fst then some (look (i+1) ps) else q[i]?
 | [],q,hq,_,_=>⟨hq,fun i _=>by simp⟩
 | (k, c) :: r, q, hq, hk, hn => by
  obtain⟨h1,h2⟩:=List.nodup_cons.1 (show (k::r.map Prod.fst).Nodup from hn)
  obtain⟨hk1,hk2⟩:=hk (k,c) List.mem_cons_self
  have hk1:0 < k:=hk1
  have hk2:k < n:=hk2
  obtain⟨e1,e2⟩:=dstep_fold r (dstep q (k,c)) (by unfold dstep;simp[hq]) (fun p hp=>hk p (List.mem_cons_of_mem _ hp)) h2
  refine⟨e1,fun i hi=>?_⟩
  show (r.foldl dstep (dstep q (k,c)))[i]?=_
  rw[e2 i hi]
  show _=if i+1∈k::r.map Prod.fst then some (bif Nat.beq (i+1) k then c else look (i+1) r) else q[i]?
  by_cases h3:i+1=k
  ·subst h3
   rw[if_neg h1,Nat.beq_refl,if_pos List.mem_cons_self]
   unfold dstep
   simp[hq,hi]
  ·rw[beq_ne h3]
   by_cases h4:i+1∈r.map Prod.fst
   ·rw[if_pos h4,if_pos (List.mem_cons_of_mem _ h4)];rfl
   ·rw[if_neg h4,if_neg (fun e=>(List.mem_cons.1 e).elim h3 h4)]
    unfold dstep
    rw[List.getElem?_set]
    have:¬ k - 1=i:=by omega
    simp[this]
theorem distN_eq {n s:Nat} (hs:s < 4294967296):distN n s=dists n (marksN n s):=by
 obtain⟨g1,g2⟩:=cnt_good n s
 obtain⟨e1,e2⟩:=dstep_fold (n:=n) (cntN n s) (List.replicate (n - 1) 0) (by simp) g1 g2
 apply List.ext_getElem?
 intro i
 by_cases hi:i < n - 1
 ·show ((cntN n s).foldl dstep (List.replicate (n - 1) 0))[i]?=_
  rw[e2 i hi]
  have hr:(dists n (marksN n s))[i]?=some (cntD n (marksN n s) (i+1)):=by unfold dists;simp[hi]
  rw[hr,←look_cnt hs (by omega) (by omega)]
  split
  ·rfl
  ·rename_i h;rw[look_none h];simp[hi]
 ·have h1:(distN n s).length=n - 1:=e1
  have h2:(dists n (marksN n s)).length=n - 1:=by unfold dists;simp
  rw[List.getElem?_eq_none (by omega),List.getElem?_eq_none (by omega)]
end Go.RgP
set_option maxRecDepth 100000
set_option maxHeartbeats 2000000
namespace Go.RgP
open Go Go.Sp
theorem nodup_map_on {α β:Type} {f:α→β}:∀ {l:List α},l.Nodup→(∀ a∈l,∀ b∈l,f a=f b→a=b)→(l.map f).Nodup
 | [],_,_=>by simp
 | x :: l, h, hf => by
  obtain⟨h1,h2⟩:=List.nodup_cons.1 h
  refine List.nodup_cons.2 ⟨fun hm=>?_,nodup_map_on h2 fun a ha b hb=>hf a (List.mem_cons_of_mem _ ha) b (List.mem_cons_of_mem _ hb)⟩
  obtain⟨y,hy,he⟩:=List.mem_map.1 hm
  have:=hf y (List.mem_cons_of_mem _ hy) x List.mem_cons_self he
  subst this;exact h1 hy
theorem nodup_filter {α:Type} {p:α→Bool} {l:List α} (h:l.Nodup):(l.filter p).Nodup:=List.Nodup.sublist List.filter_sublist h
theorem mod_add {n a d:Nat} (ha:a < n) (hd:d < n):(a+d) % n=if a+d < n then a+d else a+d - n:=by
 split
 ·exact Nat.mod_eq_of_lt (by assumption)
 ·rw[Nat.mod_eq_sub_mod (by omega),Nat.mod_eq_of_lt (by omega)]
theorem add_back {n a d:Nat} (ha:a < n) (hd:0 < d) (hd2:d < n):((a+d) % n+(n - d)) % n=a:=by
 have h1:(a+d) % n < n:=Nat.mod_lt _ (by omega)
 rw[mod_add h1 (by omega),mod_add ha hd2]
 repeat' split
 all_goals omega
theorem back_add {n a d:Nat} (ha:a < n) (hd:0 < d) (hd2:d < n):((a+(n - d)) % n+d) % n=a:=by
 have:=add_back (n:=n) (a:=a) (d:=n - d) ha (by omega) (by omega)
 rw[show n - (n - d)=d by omega] at this;exact this
theorem cntD_sym {n:Nat} {l:List Nat} (hl:l.Nodup) (hn:∀ x∈l,x < n) {d:Nat} (hd:0 < d) (hd2:d < n):cntD n l (n - d)=cntD n l d:=by
 unfold cntD
 rw[List.countP_eq_length_filter,List.countP_eq_length_filter]
 have hp:((l.filter fun a=>decide ((a+d) % n∈l)).map fun a=>(a+d) % n).Perm (l.filter fun a=>decide ((a+(n - d)) % n∈l)):=by
  refine(List.perm_ext_iff_of_nodup (nodup_map_on (nodup_filter hl) fun a ha b hb e=>?_) (nodup_filter hl)).2 fun x=>?_
  ·have h1:=hn a (List.mem_filter.1 ha).1
   have h2:=hn b (List.mem_filter.1 hb).1
   have e:=congrArg (fun z=>(z+(n - d)) % n) e
   rw[add_back h1 hd hd2,add_back h2 hd hd2] at e;exact e
  ·rw[List.mem_filter,List.mem_map]
   constructor
   ·rintro⟨a,ha,rfl⟩
    obtain⟨h1,h2⟩:=List.mem_filter.1 ha
    refine⟨by simpa using h2,?_⟩
    rw[add_back (hn a h1) hd hd2];simpa using h1
   ·rintro⟨h1,h2⟩
    refine⟨(x+(n - d)) % n,List.mem_filter.2 ⟨by simpa using h2,?_⟩,back_add (hn x h1) hd hd2⟩
    rw[back_add (hn x h1) hd hd2];simpa using h1
 have:=hp.length_eq
 rw[List.length_map] at this;exact this.symm
theorem one_row {n:Nat} {l:List Nat} (hl:l.Nodup) (hn:∀ x∈l,x < n) {a:Nat} (ha:a∈l):((List.range (n - 1)).countP fun i=>decide ((a+(i+1)) % n∈l))=l.length - 1:=by
 have han:=hn a ha
 rw[List.countP_eq_length_filter]
 have hp:(((List.range (n - 1)).filter fun i=>decide ((a+(i+1)) % n∈l)).map fun i=>(a+(i+1)) % n).Perm (l.erase a):=by
  refine(List.perm_ext_iff_of_nodup (nodup_map_on (nodup_filter List.nodup_range) fun i hi j hj e=>?_) (hl.erase a)).2 fun x=>?_
  ·have h1:=List.mem_range.1 (List.mem_filter.1 hi).1
   have h2:=List.mem_range.1 (List.mem_filter.1 hj).1
   rw[mod_add han (by omega),mod_add han (by omega)] at e
   revert e
   repeat' split
   all_goals omega
  ·rw[hl.mem_erase_iff,List.mem_map]
   constructor
   ·rintro⟨i,hi,rfl⟩
    obtain⟨h1,h2⟩:=List.mem_filter.1 hi
    have h1:=List.mem_range.1 h1
    refine⟨?_,by simpa using h2⟩
    rw[mod_add han (by omega)]
    split <;> omega
   ·rintro⟨h1,h2⟩
    have hx:=hn x h2
    refine⟨keyN n a x - 1,List.mem_filter.2 ⟨?_,?_⟩,?_⟩
    all_goals
     obtain⟨k1,k2⟩:=key_good han hx (Ne.symm h1)
     have hk:=(key_iff han hx k1 k2)
     rw[beq_ne (Ne.symm h1),Nat.beq_refl] at hk
     have hk:x=(a+keyN n a x) % n:=of_decide_eq_true hk.symm
    ·exact List.mem_range.2 (by omega)
    ·rw[show keyN n a x - 1+1=keyN n a x by omega,←hk];simpa using h2
    ·rw[show keyN n a x - 1+1=keyN n a x by omega,←hk]
 have:=hp.length_eq
 rw[List.length_map,List.length_erase_of_mem ha] at this;exact this
theorem sum_ind {n : Nat} {L : List Nat} (hL : L.Nodup) (hn : ∀ x ∈ L, x < n) : ∀ (r : List Nat), (∀ x ∈ r, x ∈ L) → ((List.range (n - 1)).map fun i => r.countP fun a => decide ((a + (i + 1)) % n ∈ L)).sum = r.length * (L.length - 1)
 | [], _ => by
  have:∀ m:List Nat,(m.map fun _=>0).sum=0:=fun m=>by induction m with | nil=>rfl | cons x m ih=>simp[ih]
  simp[this]
 | a :: r, h => by
  have ih:=sum_ind hL hn r fun x hx=>h x (List.mem_cons_of_mem _ hx)
  have hrow:=one_row hL hn (h a List.mem_cons_self)
  have hg:∀ m:List Nat,(m.map fun i=>(a::r).countP fun a=>decide ((a+(i+1)) % n∈L)).sum=(m.map fun i=>r.countP fun a=>decide ((a+(i+1)) % n∈L)).sum+m.countP fun i=>decide ((a+(i+1)) % n∈L):=fun m=>by
   induction m with
   | nil=>rfl
   | cons i m ihm =>
    rw[List.map_cons,List.sum_cons,ihm,List.map_cons,List.sum_cons,List.countP_cons (l:=m),List.countP_cons (l:=r)]
    omega
  rw[hg,ih,hrow,List.length_cons,Nat.succ_mul]
theorem dists_sum {n:Nat} {l:List Nat} (hl:l.Nodup) (hn:∀ x∈l,x < n):(dists n l).sum=l.length*(l.length - 1):=sum_ind hl hn l fun _ h=>h
def setOf (f:Nat→Nat) (l:List Nat) (z:Nat):Nat:=l.foldl (fun z p=>z ||| 2 ^ f p) z
theorem setOf_bit (f : Nat → Nat) : ∀ (l : List Nat) (z q : Nat), (setOf f l z).testBit q = (z.testBit q || l.any fun p => decide (f p = q))
 | [],z,q=>by simp[setOf]
 | p :: l, z, q => by
  show (setOf f l (z ||| 2 ^ f p)).testBit q=_
  rw[setOf_bit f l,Nat.testBit_or,Nat.testBit_two_pow,List.any_cons,Bool.or_assoc]
theorem setOf_lt (f:Nat→Nat) {n:Nat} {l:List Nat} {z:Nat} (hz:z < 2 ^ n) (h:∀ p∈l,f p < n):setOf f l z < 2 ^ n:=by
 refine Nat.lt_pow_two_of_testBit _ fun i hi=>?_
 rw[setOf_bit,Nat.testBit_lt_two_pow (Nat.lt_of_lt_of_le hz (Nat.pow_le_pow_right (by omega) hi)),Bool.false_or,List.any_eq_false]
 intro p hp
 have:=h p hp
 simp;omega
def turnN (n s b:Nat):Nat:=(((s*2 ^ b) % 4294967296) ||| (s / 2 ^ (n - b))) &&& (2 ^ n - 1)
theorem turn_bit {n s b:Nat} (hn:n≤31) (hs:s < 2 ^ n) (hb:b < n) (q:Nat):(turnN n s b).testBit q=(decide (q < n) && s.testBit ((q+(n - b)) % n)):=by
 unfold turnN
 rw[Nat.testBit_and,Nat.testBit_two_pow_sub_one,Nat.testBit_or,show (4294967296:Nat)=2 ^ 32 from rfl,Nat.testBit_mod_two_pow,←Nat.shiftLeft_eq,Nat.testBit_shiftLeft,←Nat.shiftRight_eq_div_pow,Nat.testBit_shiftRight]
 by_cases hq:q < n
 ·have h32:q < 32:=by omega
  simp only[hq,h32,decide_true,Bool.true_and,Bool.and_true]
  by_cases h:b≤q
  ·have e1:(q+(n - b)) % n=q - b:=by rw[show q+(n - b)=(q - b)+n by omega,Nat.add_mod_right,Nat.mod_eq_of_lt (by omega)]
   have e2:s.testBit (n - b+q)=false:=Nat.testBit_lt_two_pow (Nat.lt_of_lt_of_le hs (Nat.pow_le_pow_right (by omega) (by omega)))
   rw[e1,e2];simp[h]
  ·have e1:(q+(n - b)) % n=n - b+q:=by rw[Nat.mod_eq_of_lt (by omega)];omega
   rw[e1];simp[h]
 ·simp[hq]
theorem turn_lt {n s b:Nat}:turnN n s b < 2 ^ n:=by
 unfold turnN
 rw[Nat.and_two_pow_sub_one_eq_mod]
 exact Nat.mod_lt _ (Nat.two_pow_pos n)
theorem set_ext {n a b:Nat} (ha:a < 2 ^ n) (hb:b < 2 ^ n) (h:∀ q,q < n→a.testBit q=b.testBit q):a=b:=by
 refine Nat.eq_of_testBit_eq fun q=>?_
 by_cases hq:q < n
 ·exact h q hq
 ·rw[Nat.testBit_lt_two_pow (Nat.lt_of_lt_of_le ha (Nat.pow_le_pow_right (by omega) (by omega))),Nat.testBit_lt_two_pow (Nat.lt_of_lt_of_le hb (Nat.pow_le_pow_right (by omega) (by omega)))]
theorem lt32 {n s:Nat} (hn:n≤31) (hs:s < 2 ^ n):s < 4294967296:=Nat.lt_of_lt_of_le hs (Nat.le_trans (Nat.pow_le_pow_right (by omega) hn) (by decide))
def plc (n:Nat) (x:Int):Nat:=(x % (n:Int)).toNat
theorem plc_lt {n:Nat} (hn:0 < n) (x:Int):plc n x < n:=by
 have h1:=Int.emod_nonneg x (show (n:Int)≠0 by omega)
 have h2:=Int.emod_lt_of_pos x (show (0:Int) < n by omega)
 unfold plc;omega
theorem plc_cast {n:Nat} (hn:0 < n) (x:Int):((plc n x:Nat):Int)=x % (n:Int):=by
 have h1:=Int.emod_nonneg x (show (n:Int)≠0 by omega)
 unfold plc;omega
theorem plc_nat {n:Nat} (a:Nat):plc n (a:Int)=a % n:=by
 unfold plc;rw[←Int.natCast_emod];rfl
theorem plc_add {n:Nat} (hn:0 < n) (x y:Int):plc n (x+y)=(plc n x+plc n y) % n:=by
 rw[←plc_nat (n:=n)]
 unfold plc
 congr 1
 have e1:(((x % (n:Int)).toNat:Nat):Int)=x % (n:Int):=plc_cast hn x
 have e2:(((y % (n:Int)).toNat:Nat):Int)=y % (n:Int):=plc_cast hn y
 rw[show (((x % (n:Int)).toNat+(y % (n:Int)).toNat:Nat):Int)=x % (n:Int)+y % (n:Int) by rw[Int.natCast_add,e1,e2]]
 rw[Int.emod_add_emod,Int.add_emod_emod]
theorem turn_moved {n s:Nat} (hn0:0 < n) (hn:n≤31) (hs:s < 2 ^ n) (by':Int):setOf (fun p=>plc n ((p:Int)+by')) (marksN n s) 0=turnN n s (plc n by'):=by
 have hs32:=lt32 hn hs
 have hb:=plc_lt hn0 by'
 refine set_ext (setOf_lt _ (Nat.two_pow_pos n) fun p _=>plc_lt hn0 _) turn_lt fun q hq=>?_
 rw[setOf_bit,Nat.zero_testBit,Bool.false_or,turn_bit hn hs hb,Bool.eq_iff_iff]
 simp only[List.any_eq_true,decide_eq_true_eq,Bool.and_eq_true]
 have hz:∀ p,p < n→plc n ((p:Int)+by')=(p+plc n by') % n:=fun p hp=>by rw[plc_add hn0,plc_nat,Nat.mod_eq_of_lt hp]
 constructor
 ·rintro⟨p,hp,rfl⟩
  obtain⟨h1,h2⟩:=(mem_marks hs32).1 hp
  refine⟨hq,?_⟩
  rw[hz p h1]
  by_cases h0:plc n by'=0
  ·rw[h0,Nat.add_zero,Nat.sub_zero,Nat.mod_eq_of_lt h1,Nat.add_mod_right,Nat.mod_eq_of_lt h1];exact h2
  ·rw[add_back h1 (by omega) hb];exact h2
 ·rintro⟨_,h2⟩
  have hm:(q+(n - plc n by')) % n < n:=Nat.mod_lt _ hn0
  refine⟨_,(mem_marks hs32).2 ⟨hm,h2⟩,?_⟩
  rw[hz _ hm]
  by_cases h0:plc n by'=0
  ·rw[h0,Nat.sub_zero,Nat.add_zero,Nat.add_mod_right,Nat.mod_mod,Nat.mod_eq_of_lt hq]
  ·exact back_add hq (by omega) hb
theorem common_cnt {n s:Nat} (hn:n≤31) (hs:s < 2 ^ n) {d:Nat} (hd:0 < d) (hd2:d < n) {m:Nat} (hm:n≤m):(marksN m (s &&& turnN n s d)).length=cntD n (marksN n s) d:=by
 have hs32:=lt32 hn hs
 have h2:s &&& turnN n s d < 2 ^ n:=Nat.lt_of_le_of_lt Nat.and_le_left hs
 have h232:=lt32 hn h2
 rw[marks_more h232 h2 hm]
 have hl:=marks_sorted (n:=n) hs32
 rw[←cntD_sym (nodup_of_lt hl) (fun x hx=>((mem_marks hs32).1 hx).1) hd hd2]
 unfold cntD
 rw[List.countP_eq_length_filter]
 congr 1
 refine sorted_ext (marks_sorted h232) (List.Pairwise.sublist List.filter_sublist hl) fun x=>?_
 rw[mem_marks h232,List.mem_filter,mem_marks hs32,Nat.testBit_and,turn_bit hn hs hd2]
 simp only[Bool.and_eq_true,decide_eq_true_eq,mem_marks hs32]
 have:(x+(n - d)) % n < n:=Nat.mod_lt _ (by omega)
 constructor
 ·rintro⟨h1,h2,_,h4⟩;exact⟨⟨h1,h2⟩,this,h4⟩
 ·rintro⟨⟨h1,h2⟩,_,h4⟩;exact⟨h1,h2,h1,h4⟩
end Go.RgP
