/- Made from wip. -/
import Derived.Test.YtenlanbdolnhhaaDoorSpMovex
import Derived.Test.YtenlanbdolnhhaaDoorSpObjx
import Derived.Test.YtenlanbdolnhhaaDoorRgQPux
import Derived.KernelRfl

set_option maxRecDepth 100000
namespace Go.RgP
open Go Go.Sp

abbrev IV (z:Int):Value:=.int .i64 z
def Eo (ps:List (Nat×Nat)) (i:Nat):List EO:=(match ps with | []=>[] | (d,c)::r=>⟨IV (Int.ofNat d),IV (Int.ofNat c),i⟩::Eo r (i+1))
def Bp (ps:List (Nat×Nat)):List EO:=Eo ps 0
def bump (d:Nat):List (Nat×Nat)→List (Nat×Nat)
 | []=>[(d,1)]
 | (k,c)::r=>bif Nat.beq d k then (k,c+1)::r else (k,c)::bump d r
def look (d:Nat):List (Nat×Nat)→Nat
 | []=>0
 | (k,c)::r=>bif Nat.beq d k then c else look d r
theorem QA:∀ (ps:List (Nat×Nat)) (i:Nat),(Eo ps i).length=ps.length
 | [],_=>rfl
 | (d,c)::r,i=>by show (Eo r (i+1)).length+1=_;rw[QA r];rfl
theorem ZL (ps:List (Nat×Nat)):(Bp ps).length=ps.length:=QA ps 0
theorem QB:∀ {ps:List (Nat×Nat)} {i:Nat} {e:EO},e∈Eo ps i→∃ j d c,ps[j]?=some (d,c)∧e=⟨IV (Int.ofNat d),IV (Int.ofNat c),i+j⟩
 | [],_,_,h=>by cases h
 | (d, c) :: r, i, e, h => by
  rcases List.mem_cons.1 h with rfl | h
  ·exact⟨0,d,c,rfl,rfl⟩
  ·obtain⟨j,d',c',h1,h2⟩:=QB h
   exact⟨j+1,d',c',h1,by rw[h2];congr 1;omega⟩
theorem MU:∀ (ps:List (Nat×Nat)) (i:Nat),Au F4 (Eo ps i)=true
 | [],_=>rfl
 | (d, c) :: r, i => by
  have e:=MU r (i+1)
  show an (F4 ⟨IV (Int.ofNat d),IV (Int.ofNat c),i⟩) (Au F4 (Eo r (i+1)))=true
  rw[e];rfl
theorem BO (ps:List (Nat×Nat)):Au F4 (Bp ps)=true:=MU ps 0
theorem QC : ∀ (ps : List (Nat × Nat)) (i k : Nat), i + ps.length ≤ k → Au (fun e => Nat.blt (EO.born e) k) (Eo ps i) = true
 | [],_,_,_=>rfl
 | (d, c) :: r, i, k, h => by
  have e:=QC r (i+1) k (by simp at h;omega)
  show an (Nat.blt i k) (Au (fun e=>Nat.blt (EO.born e) k) (Eo r (i+1)))=true
  rw[e,show Nat.blt i k=true from Nat.ble_eq_true_of_le (by simp at h;omega)];rfl
theorem O9 (ps:List (Nat×Nat)):Au (fun e=>Nat.blt (EO.born e) ps.length) (Bp ps)=true:=QC ps 0 _ (by omega)
def place (d:Nat):List (Nat×Nat)→Option (Nat×Nat)
 | []=>none
 | (k,c)::r=>bif Nat.beq d k then some (0,c) else (place d r).map fun p=>(p.1+1,p.2)
theorem Xf (a b:Int):IG (IV a) (IV b)=some (Bd a b):=rfl
theorem FK (a b:Nat):Bd (Int.ofNat a) (Int.ofNat b)=Nat.beq a b:=rfl
theorem OL (d : Nat) : ∀ (ps : List (Nat × Nat)) (i j : Nat), GD (IV (Int.ofNat d)) (Eo ps i) j = some ((place d ps).map fun p => (j + p.1, IV (Int.ofNat p.2)))
 | [],_,_=>rfl
 | (k, c) :: r, i, j => by
  show oo (IG (IV (Int.ofNat d)) (IV (Int.ofNat k))) none (fun b=>bb b (some (some (j,IV (Int.ofNat c)))) (GD (IV (Int.ofNat d)) (Eo r (i+1)) (j+1)))=_
  rw[Xf,Ac,FK]
  show _=some (Option.map _ (bif Nat.beq d k then some (0,c) else (place d r).map fun p=>(p.1+1,p.2)))
  cases hb:Nat.beq d k with
  | true=>rw[Ak];rfl
  | false =>
   rw[AA,OL d r (i+1) (j+1)]
   show some _=some (Option.map _ ((place d r).map fun p=>(p.1+1,p.2)))
   cases place d r with
   | none=>rfl
   | some p=>simp;omega
theorem UK (d:Nat) (ps:List (Nat×Nat)):GD (IV (Int.ofNat d)) (Bp ps) 0=some ((place d ps).map fun p=>(p.1,IV (Int.ofNat p.2))):=by
 unfold Bp
 rw[OL]
 cases place d ps with
 | none=>rfl
 | some p=>simp
theorem LY (d : Nat) : ∀ (ps : List (Nat × Nat)), look d ps = (match place d ps with | none => 0 | some p => p.2)
 | []=>rfl
 | (k, c) :: r => by
  show (bif Nat.beq d k then c else look d r)=(match (bif Nat.beq d k then some (0,c) else (place d r).map fun p=>(p.1+1,p.2)) with | none=>0 | some p=>p.2)
  cases Nat.beq d k with
  | true=>rfl
  | false =>
   show look d r=(match (place d r).map fun p=>(p.1+1,p.2) with | none=>0 | some p=>p.2)
   rw[LY d r]
   cases place d r <;> rfl
theorem XL (d:Nat) (ps:List (Nat×Nat)):Wd ((place d ps).map fun p=>(p.1,IV (Int.ofNat p.2))) (IV 0)=IV (Int.ofNat (look d ps)):=by
 rw[LY]
 cases place d ps <;> rfl
theorem Pb (d : Nat) : ∀ (ps : List (Nat × Nat)) (i : Nat), Eo (bump d ps) i = (match place d ps with | none => Eo ps i ++ [⟨IV (Int.ofNat d), IV (Int.ofNat 1), i + ps.length⟩] | some p => SS (fun e => ⟨IV (Int.ofNat d), IV (Int.ofNat (p.2 + 1)), e.born⟩) p.1 (Eo ps i))
 | [],i=>by show [(⟨IV (Int.ofNat d),IV (Int.ofNat 1),i⟩:EO)]=[]++[⟨_,_,i+0⟩];simp
 | (k, c) :: r, i => by
  show Eo (bif Nat.beq d k then (k,c+1)::r else (k,c)::bump d r) i=(match (bif Nat.beq d k then some (0,c) else (place d r).map fun p=>(p.1+1,p.2)) with | none=>Eo ((k,c)::r) i++[⟨IV (Int.ofNat d),IV (Int.ofNat 1),i+(r.length+1)⟩] | some p=>SS (fun e=>⟨IV (Int.ofNat d),IV (Int.ofNat (p.2+1)),e.born⟩) p.1 (Eo ((k,c)::r) i))
  cases hb:Nat.beq d k with
  | true =>
   obtain rfl:=Nat.eq_of_beq_eq_true hb
   rfl
  | false =>
   show (⟨IV (Int.ofNat k),IV (Int.ofNat c),i⟩:EO)::Eo (bump d r) (i+1)=(match (place d r).map fun p=>(p.1+1,p.2) with | none=>Eo ((k,c)::r) i++[⟨IV (Int.ofNat d),IV (Int.ofNat 1),i+(r.length+1)⟩] | some p=>SS (fun e=>⟨IV (Int.ofNat d),IV (Int.ofNat (p.2+1)),e.born⟩) p.1 (Eo ((k,c)::r) i))
   rw[Pb d r (i+1)]
   cases place d r with
   | none =>
    show _::(Eo r (i+1)++[(⟨_,_,i+1+r.length⟩:EO)])=(_::Eo r (i+1))++[⟨_,_,i+(r.length+1)⟩]
    rw[show i+1+r.length=i+(r.length+1) by omega];rfl
   | some p=>rfl
theorem Pe (d : Nat) : ∀ ps : List (Nat × Nat), (bump d ps).length = (match place d ps with | none => ps.length + 1 | some _ => ps.length)
 | []=>rfl
 | (k, c) :: r => by
  show (bif Nat.beq d k then (k,c+1)::r else (k,c)::bump d r).length=(match (bif Nat.beq d k then some (0,c) else (place d r).map fun p=>(p.1+1,p.2)) with | none=>r.length+1+1 | some _=>r.length+1)
  cases Nat.beq d k with
  | true=>rfl
  | false =>
   show (bump d r).length+1=(match (place d r).map fun p=>(p.1+1,p.2) with | none=>r.length+1+1 | some _=>r.length+1)
   rw[Pe d r]
   cases place d r <;> rfl
theorem Uj (d : Nat) (ps : List (Nat × Nat)) : Gr (IV (Int.ofNat d)) (IV (Int.ofNat (look d ps + 1))) ps.length (Bp ps) ((place d ps).map fun p => (p.1, IV (Int.ofNat p.2))) = Bp (bump d ps) ∧
 Ja ps.length ((place d ps).map fun p=>(p.1,IV (Int.ofNat p.2)))=(bump d ps).length:=by
 have h1:=Pb d ps 0
 have h2:=Pe d ps
 have h3:=LY d ps
 unfold Bp Gr Ja
 cases hp:place d ps with
 | none =>
  rw[hp] at h1 h2 h3
  have h3:look d ps=0:=h3
  have h1:Eo (bump d ps) 0=Eo ps 0++[⟨IV (Int.ofNat d),IV (Int.ofNat 1),0+ps.length⟩]:=h1
  have h2:(bump d ps).length=ps.length+1:=h2
  constructor
  ·show Br (Eo ps 0) [⟨IV (Int.ofNat d),IV (Int.ofNat (look d ps+1)),ps.length⟩]=_
   rw[h1,h3,BH];simp
  ·show ps.length+1=_
   rw[h2]
 | some p =>
  rw[hp] at h1 h2 h3
  have h3:look d ps=p.2:=h3
  have h1:Eo (bump d ps) 0=SS (fun e=>⟨IV (Int.ofNat d),IV (Int.ofNat (p.2+1)),e.born⟩) p.1 (Eo ps 0):=h1
  have h2:(bump d ps).length=ps.length:=h2
  constructor
  ·show SS (fun e=>⟨IV (Int.ofNat d),IV (Int.ofNat (look d ps+1)),e.born⟩) p.1 (Eo ps 0)=_
   rw[h1,h3]
  ·show ps.length=_
   rw[h2]
theorem Pf:∀ (ps:List (Nat×Nat)) (i j d c:Nat),ps[j]?=some (d,c)→Xl (i+j) (Eo ps i)=some ⟨IV (Int.ofNat d),IV (Int.ofNat c),i+j⟩
 | [],_,_,_,_,h=>by simp at h
 | (k, c') :: r, i, j, d, c, h => by
  show bb (Nat.beq i (i+j)) (some (⟨IV (Int.ofNat k),IV (Int.ofNat c'),i⟩:EO)) (Xl (i+j) (Eo r (i+1)))=_
  cases j with
  | zero =>
   simp at h
   obtain⟨rfl,rfl⟩:=h
   rw[Nat.add_zero,Nat.beq_refl,Ak]
  | succ j =>
   have:Nat.beq i (i+(j+1))=false:=by
    cases hb:Nat.beq i (i+(j+1)) with
    | false=>rfl
    | true=>have:=Nat.eq_of_beq_eq_true hb;omega
   have e:=Pf r (i+1) j d c (by simpa using h)
   rw[this,AA,show i+(j+1)=i+1+j by omega,e]
theorem UL:∀ (l:List Nat) (a:Nat),Xk (Br l [a])=some a:=fun l a=>by rw[Tm,BH];simp
theorem Oi (ps:List (Nat×Nat)) (seen:List Nat) (j d c:Nat) (h:ps[j]?=some (d,c)):bL (Bp ps) ps.length (Br seen [j]) ps.length=some (.tuple ⟨[IV (Int.ofNat d),IV (Int.ofNat c)]⟩):=by
 have e:=Pf ps 0 j d c h
 rw[Nat.zero_add] at e
 show oo (bb (Nat.beq ps.length ps.length) (oo (Xk (Br seen [j])) none fun s=>Xl s (Bp ps)) none) none (fun e=>some (Value.tuple ⟨[e.key,e.val]⟩))=_
 rw[Nat.beq_refl,Ak,UL,Ac]
 show oo (Xl j (Eo ps 0)) none _=_
 rw[e];rfl
def left (n:Nat) (seen:List Nat):List Nat:=(List.range n).filter fun i=>decide (i ∉ seen)
theorem KU {n i:Nat} {seen:List Nat}:i∈left n seen↔i < n∧i ∉ seen:=by unfold left;simp
theorem UM (n:Nat) (seen:List Nat):(left n seen).Nodup:=List.Nodup.sublist List.filter_sublist List.nodup_range
theorem Ov {ps:List (Nat×Nat)} {seen:List Nat} (h:IY (Bp ps) seen=[]):left ps.length seen=[]:=by
 cases hl:left ps.length seen with
 | nil=>rfl
 | cons i r =>
  exfalso
  have hi:i∈left ps.length seen:=by rw[hl];exact List.mem_cons_self
  obtain⟨h1,h2⟩:=KU.1 hi
  have key:∀ (qs:List (Nat×Nat)) (k j:Nat),j < qs.length→∃ e∈Eo qs k,e.born=k+j:=by
   intro qs
   induction qs with
   | nil=>intro k j hj;simp at hj
   | cons q qs ih =>
    intro k j hj
    obtain⟨d,c⟩:=q
    cases j with
    | zero=>exact⟨_,List.mem_cons_self,rfl⟩
    | succ j =>
     obtain⟨e,he,hb⟩:=ih (k+1) j (by simpa using hj)
     exact⟨e,List.mem_cons_of_mem _ he,by rw[hb];omega⟩
  obtain⟨e,he,hb⟩:=key ps 0 i h1
  have:e∈IY (Bp ps) seen:=Qe.2 ⟨he,by rw[hb,Nat.zero_add];exact h2⟩
  rw[h] at this;cases this
theorem Ph {ps:List (Nat×Nat)} {seen:List Nat} {e:EO} (h:e∈IY (Bp ps) seen):∃ d c,ps[e.born]?=some (d,c)∧e.born∈left ps.length seen:=by
 obtain⟨h1,h2⟩:=Qe.1 h
 obtain⟨j,d,c,h3,h4⟩:=QB h1
 rw[Nat.zero_add] at h4
 have hb:e.born=j:=by rw[h4]
 rw[hb] at h2 ⊢
 exact⟨d,c,h3,KU.2 ⟨(List.getElem?_eq_some_iff.1 h3).1,h2⟩⟩
theorem QE {n i:Nat} {seen:List Nat}:left n (Br seen [i])=(left n seen).filter fun j=>decide (j≠i):=by
 unfold left
 rw[List.filter_filter]
 congr 1
 funext j
 rw[BH]
 simp
 by_cases h:j=i <;> simp[h]
theorem Ow {n i:Nat} {seen:List Nat} (h:i∈left n seen):(left n (Br seen [i])).length < (left n seen).length:=by
 rw[QE]
 have hp:((left n seen).filter fun j=>decide (j≠i))≠left n seen:=fun e=>by
  have:=List.filter_eq_self.1 e i h
  simp at this
 exact Nat.lt_of_le_of_ne (List.filter_sublist).length_le fun h=>hp ((List.filter_sublist).eq_of_length h)
end Go.RgP
set_option maxRecDepth 100000
set_option maxHeartbeats 2000000
namespace Go.RgP
open Go Go.Sp
noncomputable def cl (z:Int) (p:Nat×Nat):Int:=bif Nat.blt 1 p.2 then (bif Bd z 0 then Int.ofNat p.1 else bif AY (Int.ofNat p.1) z then Int.ofNat p.1 else z) else z
def Dn (ps:List (Nat×Nat)) (i:Nat):Nat×Nat:=(ps[i]?).getD (0,0)
theorem fI (z:Int) (p q:Nat×Nat) (hp:0 < p.1) (hq:0 < q.1):cl (cl z p) q=cl (cl z q) p:=by
 obtain⟨a,c⟩:=p
 obtain⟨b,d⟩:=q
 have ea:∀ x y:Int,Bd x y=decide (x=y):=fun x y=>by rw[Lr];rfl
 have eb:∀ x y:Int,AY x y=decide (x < y):=JY
 unfold cl
 simp only[ea,eb,Bool.cond_eq_ite,decide_eq_true_eq]
 have hp:0 < a:=hp
 have hq:0 < b:=hq
 have h1:(Int.ofNat a)=(a:Int):=rfl
 have h2:(Int.ofNat b)=(b:Int):=rfl
 rw[h1,h2]
 repeat' split
 all_goals first | rfl | omega
theorem BB (a b:Nat):AY (Int.ofNat a) (Int.ofNat b)=Nat.blt a b:=by
 rw[JY]
 by_cases h:a < b
 ·rw[show Nat.blt a b=true from Nat.ble_eq_true_of_le h]
  exact decide_eq_true (Int.ofNat_lt.2 h)
 ·rw [show Nat.blt a b = false from by
   cases hx:Nat.blt a b with
   | false=>rfl
   | true=>exact absurd (Nat.le_of_ble_eq_true hx) h]
  exact decide_eq_false (fun hh=>h (Int.ofNat_lt.1 hh))
theorem QF {n i:Nat} {seen:List Nat} (h:i∈left n seen):(left n seen).Perm (i::left n (Br seen [i])):=by
 rw[QE]
 have e:((left n seen).filter fun j=>decide (j≠i))=(left n seen).erase i:=by
  rw[(UM n seen).erase_eq_filter]
  congr 1
  funext j
  by_cases hj:j=i <;> simp[hj]
 rw[e]
 exact List.perm_cons_erase h
theorem Pi {β:Type} {f:β→Nat→β} {n i:Nat} {seen:List Nat} (hc:∀ x∈left n seen,∀ y∈left n seen,∀ z,f (f z x) y=f (f z y) x) (h:i∈left n seen) (z:β) :
 (left n (Br seen [i])).foldl f (f z i)=(left n seen).foldl f z:=by
 have:=(QF h).foldl_eq' (f:=f) hc z
 rw[this];rfl
theorem Jw (n:Nat):left n []=List.range n:=by unfold left;simp
theorem OM {β:Type} (f:β→Nat×Nat→β) (ps:List (Nat×Nat)) (z:β):(List.range ps.length).foldl (fun z i=>f z (Dn ps i)) z=ps.foldl f z:=by
 have:(List.range ps.length).map (Dn ps)=ps:=by
  apply List.ext_getElem
  ·simp
  ·intro i h1 h2;simp[Dn,h2]
 rw[←List.foldl_map (f:=Dn ps) (g:=f),this]
open Go.RgQM in
theorem Pj (pu:Af) (n:Nat) {ps:List (Nat×Nat)} (hk:∀ p∈ps,0 < p.1):∀ (w:Nat) (seen:List Nat) (z:Int),(left ps.length seen).length < w →
 LW pu n w z ps.length seen ps.length (Bp ps) ps.length=some (.int .i64 ((left ps.length seen).foldl (fun z i=>cl z (Dn ps i)) z))
 | 0,_,_,h=>by omega
 | w + 1, seen, z, h => by
  have hpos:∀ x∈left ps.length seen,0 < (Dn ps x).1:=fun x hx=>by
   have hx:=(KU.1 hx).1
   have e:Dn ps x=ps[x]:=by simp[Dn,hx]
   rw[e];exact hk _ (List.getElem_mem hx)
  show Ud pu n (LW pu n w) z ps.length seen ps.length (Bp ps) ps.length=_
  unfold Ud
  rw[O9,Ak,show Nat.ble ps.length ps.length=true from Nat.ble_eq_true_of_le (Nat.le_refl _),Ak,BO]
  refine VV (fun hl=>?_) fun e he=>?_
  ·rw[Ov hl,Ak];rfl
  ·obtain⟨d,c,h1,h2⟩:=Ph he
   have ep:Dn ps e.born=(d,c):=by simp[Dn,h1]
   rw[Ak,Oi ps seen e.born d c h1,Ac]
   have ih:=Pj pu n hk w (Br seen [e.born]) (cl z (d,c)) (by have:=Ow h2;omega)
   have fl:=Pi (f:=fun z i=>cl z (Dn ps i)) (fun x hx y hy z=>fI z _ _ (hpos x hx) (hpos y hy)) h2 z
   rw[ep] at fl
   rw[fl] at ih
   show bb (AY 1 (Int.ofNat c)) (bb (Bd z 0) (MH pu n (LW pu n w) z (Int.ofNat d) true ps.length (Br seen [e.born]) ps.length (Bp ps) ps.length) (MH pu n (LW pu n w) z (Int.ofNat d) (AY (Int.ofNat d) z) ps.length (Br seen [e.born]) ps.length (Bp ps) ps.length)) (MH pu n (LW pu n w) z (Int.ofNat d) false ps.length (Br seen [e.born]) ps.length (Bp ps) ps.length)=_
   rw[←ih]
   have hb:=BB 1 c
   unfold MH cl
   rw[show AY (1:Int) (Int.ofNat c)=Nat.blt 1 c from hb,BO]
   cases Nat.blt 1 c <;> cases Bd z 0 <;> cases AY (Int.ofNat d) z <;> rfl
end Go.RgP
set_option maxRecDepth 100000
set_option maxHeartbeats 2000000
namespace Go.RgP
open Go Go.Sp Go.RgQM
def tv (n s:Nat):Value:=.agg ⟨[.int .i64 (Int.ofNat n),.int .u32 (Int.ofNat s)]⟩
noncomputable def hasB (s p:Nat):Bool:=Bd (Np .u32 (G6 .u32 (Int.ofNat s) p) 1) 1
noncomputable def Fp (s:Nat):Nat→Nat→List Nat
 | 0,_=>[]
 | k+1,p=>bif hasB s p then p::Fp s k (p+1) else Fp s k (p+1)
noncomputable def Ay (n s:Nat):List Nat:=Fp s n 0
def vL (l:List Nat):List Value:=l.map fun d=>IV (Int.ofNat d)
theorem C8 (l:List Nat):Au Ah (vL l)=true:=by
 rw[Bh];unfold vL;rw[List.all_map];simp[Function.comp_def];intros;rfl
theorem Je (l:List Nat):(vL l).length=l.length:=by unfold vL;simp
theorem uX (pu:Af) (L n s p:Nat):m32 pu L [tv n s,IV (Int.ofNat p)]=some (.bool (hasB s p)):=rfl
theorem Aev (pu:Af) (L n s:Nat) (x:Int) (hn:0 < n) (hn2:n < 1000) (hx:-1000 < x) (hx2:x < 1000):uF pu L [tv n s,IV x]=some (IV (x % (n:Int))):=by
 show Xc pu L (Int.ofNat n) (Int.ofNat s) x=_
 unfold Xc
 have e:Bd (Int.ofNat n) 0=false:=by rw[Lr];simp;omega
 rw[e]
 show some (IV (Int.tmod (Aj .i64 (Int.tmod x (n:Int)+(n:Int))) (n:Int)))=_
 have hp:(0:Int) < (n:Int):=by omega
 have h1:=Int.tmod_lt_of_pos x hp
 have h2:-(n:Int) < Int.tmod x n:=by
  have:=Int.lt_tmod_of_pos x hp;omega
 rw[Oe _ (by omega) (by omega)]
 rw[Int.tmod_eq_emod_of_nonneg (by omega)]
 congr 2
 have h3:Int.tmod x (n:Int)+(n:Int)=x+(n:Int)*(1 - Int.tdiv x n):=by
  have:=Int.mul_tdiv_add_tmod x (n:Int)
  rw[Int.mul_sub];omega
 rw[h3,Int.add_mul_emod_self_left]
theorem LZ (pu:Af) (L:Nat) {n s:Nat} (hn:n < 1000) (hp:∀ p,p < n→pu 32 [tv n s,IV (Int.ofNat p)]=some (.bool (hasB s p))):∀ (k w p c:Nat) (q:List Nat),k < w→p+k=n→q.length≤p→c / 2=q.length→c % 2=0 →
 OE pu L w q.length c (Int.ofNat n) (Int.ofNat p) (Int.ofNat n) (Int.ofNat s) (vL q)=some (Sl.v 1 ⟨(q++Fp s k p).length,0,vL (q++Fp s k p)⟩)
 | k,0,_,_,_,h,_,_,_,_=>by omega
 | 0, w + 1, p, c, q, _, hk, _, _, _ => by
  show OZ pu L (OE pu L w) q.length c (Int.ofNat n) (Int.ofNat p) (Int.ofNat n) (Int.ofNat s) (vL q)=_
  unfold OZ
  rw[C8,Ak,BB,show Nat.blt p n=false from by rw[blt_eq];simp;omega,AA]
  unfold TW
  rw[C8,Ak]
  have e1:Aq (q.length*1) (Am 0 (vL q))=vL q:=by
   rw[Cg,Bz,List.drop_zero,Nat.mul_one,←Je q,List.take_length]
  rw[e1,C8,AV,Je,show Nat.ble (0+q.length*1) q.length=true from Nat.ble_eq_true_of_le (by omega)]
  show some (Sl.v 1 ⟨q.length,0,vL q⟩)=some (Sl.v 1 ⟨(q++[]).length,0,vL (q++[])⟩)
  rw[List.append_nil]
 | k + 1, w + 1, p, c, q, hw, hk, hq, hc, hc2 => by
  show OZ pu L (OE pu L w) q.length c (Int.ofNat n) (Int.ofNat p) (Int.ofNat n) (Int.ofNat s) (vL q)=_
  unfold OZ
  have hv:=hp p (by omega)
  rw[C8,Ak,BB,show Nat.blt p n=true from by rw[blt_eq];simp;omega,Ak]
  have hv':pu 32 [.agg ⟨[.int .i64 (Int.ofNat n),.int .u32 (Int.ofNat s)]⟩,.int .i64 (Int.ofNat p)]=some (.bool (hasB s p)):=hv
  rw[hv',Ac]
  show bb (hasB s p) _ _=_
  have hs:Aj .i64 (Int.add (Int.ofNat p) 1)=Int.ofNat (p+1):=DC p (by omega)
  unfold Fp
  cases hasB s p with
  | false =>
   rw[AA]
   unfold Qu
   rw[C8,Ak,hs]
   exact LZ pu L hn hp k w (p+1) c q (by omega) (by omega) (by omega) hc hc2
  | true =>
   rw[Ak]
   have e2:Br (Am 0 (vL q)) [.int .i64 (Int.ofNat p)]=vL (q++[p]):=by
    rw[BH,Bz,List.drop_zero];unfold vL;rw[List.map_append];rfl
   have eg:GV 1 8 q.length c 1 (vL q)=true:=by
    unfold GV EQ
    rw[AV,Je,hc,hc2]
    rw[show Nat.ble ((4*(q.length+1)+4096)*8) 281474976710656=true from Nat.ble_eq_true_of_le (by omega),show Nat.ble (q.length+1) q.length=false from by rw[ble_eq];simp,show Nat.ble (0+q.length*1) q.length=true from Nat.ble_eq_true_of_le (by omega),show Nat.beq (0+q.length*1) q.length=true from by simp]
    rfl
   rw[eg,Ak,e2,C8,Ak]
   unfold Qu
   rw[C8,Ak,hs]
   have ih:=LZ pu L hn hp k w (p+1) (2*(q.length+1)+bb false 1 0) (q++[p]) (by omega) (by omega) (by simp;omega) (by simp) (by simp)
   rw[List.length_append] at ih
   show OE pu L w (q.length+1) (2*(q.length+1)+bb false 1 0) (Int.ofNat n) (Int.ofNat (p+1)) (Int.ofNat n) (Int.ofNat s) (vL (q++[p]))=_
   rw[show [p].length=1 from rfl] at ih
   rw[ih]
   show some (Sl.v 1 ⟨(q++[p]++Fp s k (p+1)).length,0,vL (q++[p]++Fp s k (p+1))⟩)=some (Sl.v 1 ⟨(q++p::Fp s k (p+1)).length,0,vL (q++p::Fp s k (p+1))⟩)
   rw[List.append_assoc];rfl
theorem ZM (pu:Af) {L n s:Nat} (hL:n < L) (hn:n < 1000) (hp:∀ p,p < n→pu 32 [tv n s,IV (Int.ofNat p)]=some (.bool (hasB s p))):wT pu L [tv n s]=some (Sl.v 1 ⟨(Ay n s).length,0,vL (Ay n s)⟩):=
 LZ pu L hn hp n L 0 0 [] hL (by omega) (by simp) rfl rfl
end Go.RgP
set_option maxRecDepth 100000
set_option maxHeartbeats 2000000
namespace Go.RgP
open Go Go.Sp Go.RgQM
def I8 (n a b:Nat):Nat:=Nat.mod (Nat.add b (Nat.sub n a)) n
def Dr (n a:Nat) (ps:List (Nat×Nat)) (b:Nat):List (Nat×Nat):=bif Nat.beq a b then ps else bump (I8 n a b) ps
def Aew (n:Nat) (l:List Nat):List (Nat×Nat):=l.foldl (fun ps a=>l.foldl (Dr n a) ps) []
noncomputable def DL (n s:Nat):List (Nat×Nat):=Aew n (Ay n s)
theorem QG (d d':Nat):∀ ps:List (Nat×Nat),look d' (bump d ps)≤look d' ps+1
 | []=>by show (bif Nat.beq d' d then 1 else 0)≤0+1;cases Nat.beq d' d <;> simp
 | (k, c) :: r => by
  show look d' (bif Nat.beq d k then (k,c+1)::r else (k,c)::bump d r)≤(bif Nat.beq d' k then c else look d' r)+1
  have ih:=QG d d' r
  cases Nat.beq d k with
  | true=>show (bif Nat.beq d' k then c+1 else look d' r)≤_;cases Nat.beq d' k <;> simp
  | false=>show (bif Nat.beq d' k then c else look d' (bump d r))≤_;cases Nat.beq d' k <;> simp <;> omega
theorem Pk (n a b d:Nat) (ps:List (Nat×Nat)):look d (Dr n a ps b)≤look d ps+1:=by
 unfold Dr
 cases Nat.beq a b with
 | true=>show look d ps≤_;omega
 | false=>exact QG _ _ _
theorem QJ (n a d:Nat):∀ (r:List Nat) (ps:List (Nat×Nat)),look d (r.foldl (Dr n a) ps)≤look d ps+r.length
 | [],ps=>by show look d ps≤_;omega
 | b :: r, ps => by
  have h1:=QJ n a d r (Dr n a ps b)
  have h2:=Pk n a b d ps
  show look d (r.foldl (Dr n a) (Dr n a ps b))≤look d ps+(r.length+1)
  omega
theorem uY {n a b:Nat} (ha:a < n):((b:Int) - (a:Int)) % (n:Int)=Int.ofNat (I8 n a b):=by
 show _=((((b+(n - a)) % n:Nat)):Int)
 rw[Int.natCast_emod,show ((b+(n - a):Nat):Int)=((b:Int) - (a:Int))+(n:Int)*1 by omega,Int.add_mul_emod_self_left]
theorem KV {l:List Nat} {i b:Nat} {r:List Nat} (h:l.drop i=b::r):AL (vL l) (i*1)=some (IV (Int.ofNat b)):=by
 rw[BZ,Nat.mul_one]
 have:l[i]?=some b:=by
  have:=congrArg List.head? h
  rw[List.head?_drop] at this;exact this
 unfold vL
 rw[List.getElem?_map,this];rfl
theorem FN {l:List Nat} {i b:Nat} {r:List Nat} (h:l.drop i=b::r):l.drop (i+1)=r∧i < l.length∧b∈l:=by
 refine⟨?_,?_,?_⟩
 ·rw[←List.drop_drop,h];rfl
 ·have:=congrArg List.length h
  simp at this;omega
 ·have:b∈l.drop i:=by rw[h];exact List.mem_cons_self
  exact List.mem_of_mem_drop this
variable (pu:Af) (L:Nat)
theorem nL {n s:Nat} {l:List Nat} (hn:n < 900) (hl:∀ x∈l,x < n) (hon:∀ x:Int,-1000 < x→x < 1000→pu 47 [tv n s,IV x]=some (IV (x % (n:Int)))) (hl2:l.length < 1000)
 (ih0:Sl→Sl→Int→Int→Int→Int→List EO→Nat→Option Value) (a:Nat) (ha:a < n) (S S2:Sl) (z1 z2:Int):∀ (r:List Nat) (w i m:Nat) (ps:List (Nat×Nat)),l.drop i=r→r.length < w→(∀ d,look d ps≤m)→m+r.length < 900000→i≤l.length →
 FL pu L ih0 w S (Int.ofNat a) S2 z1 z2 ⟨l.length, 0, vL l⟩ (Int.ofNat l.length) (Int.ofNat i) (Int.ofNat n) (Int.ofNat s) (Bp ps) ps.length =
  Ji pu L ih0 S S2 z1 z2 (Int.ofNat n) (Int.ofNat s) (Bp (r.foldl (Dr n a) ps)) (r.foldl (Dr n a) ps).length
 | _,0,_,_,_,_,h,_,_,_=>by omega
 | [], w + 1, i, m, ps, hd, _, _, _, hi => by
  show Iq pu L ih0 (FL pu L ih0 w) S (Int.ofNat a) S2 z1 z2 ⟨l.length,0,vL l⟩ (Int.ofNat l.length) (Int.ofNat i) (Int.ofNat n) (Int.ofNat s) (Bp ps) ps.length=_
  have:l.length≤i:=List.drop_eq_nil_iff.1 hd
  unfold Iq
  rw[BO,Ak,BB,show Nat.blt i l.length=false from by rw[blt_eq];simp;omega]
  rfl
 | b :: r, w + 1, i, m, ps, hd, hw, hm, hm2, hi => by
  show Iq pu L ih0 (FL pu L ih0 w) S (Int.ofNat a) S2 z1 z2 ⟨l.length,0,vL l⟩ (Int.ofNat l.length) (Int.ofNat i) (Int.ofNat n) (Int.ofNat s) (Bp ps) ps.length=_
  obtain⟨hd2,hi2,hb⟩:=FN hd
  have hbn:=hl b hb
  have hr:(b::r).length=r.length+1:=rfl
  have hs:Aj .i64 (Int.add (Int.ofNat i) 1)=Int.ofNat (i+1):=DC i (by omega)
  have hlt:Nat.blt i l.length=true:=by rw[blt_eq];simp;omega
  have ih:=nL hn hl hon hl2 ih0 a ha S S2 z1 z2 r w (i+1) (m+1) (Dr n a ps b) hd2 (by omega) (fun d=>by have:=Pk n a b d ps;have:=hm d;omega) (by omega) (by omega)
  unfold Iq
  rw[BO,Ak,BB,hlt,Ak]
  show oo (EA (Int.ofNat i)) none _=_
  rw[show EA (Int.ofNat i)=some i from rfl,Ac]
  show bb (an (Nat.blt i l.length) true) _ none=_
  rw[hlt,show an true true=true from rfl,Ak]
  show oo (AL (vL l) (i*1)) none _=_
  rw[KV hd,Ac]
  show bb (nt (Bd (Int.ofNat a) (Int.ofNat b))) _ _=_
  rw[FK]
  show _=Ji pu L ih0 S S2 z1 z2 (Int.ofNat n) (Int.ofNat s) (Bp (r.foldl (Dr n a) (Dr n a ps b))) (r.foldl (Dr n a) (Dr n a ps b)).length
  rw[←ih]
  unfold Dr
  cases Nat.beq a b with
  | true =>
   show Gu pu L ih0 (FL pu L ih0 w) S (Int.ofNat a) S2 z1 z2 ⟨l.length,0,vL l⟩ (Int.ofNat l.length) (Int.ofNat i) (Int.ofNat n) (Int.ofNat s) (Bp ps) ps.length=_
   unfold Gu
   rw[BO,Ak,hs];rfl
  | false =>
   have hx:Aj .i64 (Int.sub (Int.ofNat b) (Int.ofNat a))=(b:Int) - (a:Int):=by
    show Aj .i64 ((b:Int) - (a:Int))=_
    exact Oe _ (by omega) (by omega)
   have hv:pu 47 [.agg ⟨[.int .i64 (Int.ofNat n),.int .u32 (Int.ofNat s)]⟩,.int .i64 (Aj .i64 (Int.sub (Int.ofNat b) (Int.ofNat a)))]=some (IV (Int.ofNat (I8 n a b))):=by
    rw[hx,←uY ha];exact hon _ (by omega) (by omega)
   show oo (pu 47 [.agg ⟨[.int .i64 (Int.ofNat n),.int .u32 (Int.ofNat s)]⟩,.int .i64 (Aj .i64 (Int.sub (Int.ofNat b) (Int.ofNat a)))]) none _=_
   rw[hv,Ac]
   show oo (GD (IV (Int.ofNat (I8 n a b))) (Bp ps) 0) none (fun r638=>oo (Bi .i64 (Wd r638 (.int .i64 (0:Int)))) none fun x640=>(oo (GD (IV (Int.ofNat (I8 n a b))) (Bp ps) 0) none fun r642=>(bb (Au F4 (Gr (IV (Int.ofNat (I8 n a b))) (.int .i64 (Aj .i64 (Int.add x640 (1:Int)))) ps.length (Bp ps) r642)) (Gu pu L ih0 (FL pu L ih0 w) S (Int.ofNat a) S2 z1 z2 ⟨l.length,0,vL l⟩ (Int.ofNat l.length) (Int.ofNat i) (Int.ofNat n) (Int.ofNat s) (Gr (IV (Int.ofNat (I8 n a b))) (.int .i64 (Aj .i64 (Int.add x640 (1:Int)))) ps.length (Bp ps) r642) (Ja ps.length r642)) none)))=_
   rw[UK,Ac,XL]
   show oo (some ((place (I8 n a b) ps).map fun p=>(p.1,IV (Int.ofNat p.2)))) none (fun r642=>(bb (Au F4 (Gr (IV (Int.ofNat (I8 n a b))) (.int .i64 (Aj .i64 (Int.add (Int.ofNat (look (I8 n a b) ps)) (1:Int)))) ps.length (Bp ps) r642)) (Gu pu L ih0 (FL pu L ih0 w) S (Int.ofNat a) S2 z1 z2 ⟨l.length,0,vL l⟩ (Int.ofNat l.length) (Int.ofNat i) (Int.ofNat n) (Int.ofNat s) (Gr (IV (Int.ofNat (I8 n a b))) (.int .i64 (Aj .i64 (Int.add (Int.ofNat (look (I8 n a b) ps)) (1:Int)))) ps.length (Bp ps) r642) (Ja ps.length r642)) none))=_
   rw[Ac,DC _ (by have:=hm (I8 n a b);omega),(Uj (I8 n a b) ps).1,(Uj (I8 n a b) ps).2,BO,Ak]
   unfold Gu
   rw[BO,Ak,hs];rfl
end Go.RgP
set_option maxRecDepth 100000
set_option maxHeartbeats 2000000
namespace Go.RgP
open Go Go.Sp Go.RgQM
noncomputable def I9 (ps:List (Nat×Nat)):Value:=.tuple ⟨[.map (some 1),Ef (.map (Bp ps) ps.length)]⟩
variable (pu:Af) (L:Nat)
theorem nM {n s:Nat} {l:List Nat} (hn:n < 900) (hl:∀ x∈l,x < n) (hon:∀ x:Int,-1000 < x→x < 1000→pu 47 [tv n s,IV x]=some (IV (x % (n:Int)))) (hl2:l.length < 100) (hL:l.length < L) :
 ∀ (r:List Nat) (w i m:Nat) (ps:List (Nat×Nat)),l.drop i=r→r.length < w→(∀ d,look d ps≤m)→m+(r.length+1)*100 < 900000→i≤l.length →
 Fb pu L w ⟨l.length, 0, vL l⟩ ⟨l.length, 0, vL l⟩ (Int.ofNat l.length) (Int.ofNat i) (Int.ofNat n) (Int.ofNat s) (Bp ps) ps.length =
  some (I9 (r.foldl (fun ps a=>l.foldl (Dr n a) ps) ps))
 | _,0,_,_,_,_,h,_,_,_=>by omega
 | [], w + 1, i, m, ps, hd, _, _, _, hi => by
  show Ir pu L (Fb pu L w) ⟨l.length,0,vL l⟩ ⟨l.length,0,vL l⟩ (Int.ofNat l.length) (Int.ofNat i) (Int.ofNat n) (Int.ofNat s) (Bp ps) ps.length=_
  have:l.length≤i:=List.drop_eq_nil_iff.1 hd
  unfold Ir
  rw[BO,Ak,BB,show Nat.blt i l.length=false from by rw[blt_eq];simp;omega,AA]
  unfold KS
  rw[BO];rfl
 | a :: r, w + 1, i, m, ps, hd, hw, hm, hm2, hi => by
  show Ir pu L (Fb pu L w) ⟨l.length,0,vL l⟩ ⟨l.length,0,vL l⟩ (Int.ofNat l.length) (Int.ofNat i) (Int.ofNat n) (Int.ofNat s) (Bp ps) ps.length=_
  obtain⟨hd2,hi2,hb⟩:=FN hd
  have han:=hl a hb
  have hr:(a::r).length=r.length+1:=rfl
  have hs:Aj .i64 (Int.add (Int.ofNat i) 1)=Int.ofNat (i+1):=DC i (by omega)
  have hlt:Nat.blt i l.length=true:=by rw[blt_eq];simp;omega
  have hin:=nL pu L hn hl hon (by omega) (Fb pu L w) a han ⟨l.length,0,vL l⟩ ⟨l.length,0,vL l⟩ (Int.ofNat l.length) (Int.ofNat i) l L 0 m ps (by simp) hL hm (by omega) (by omega)
  have ih:=nM hn hl hon hl2 hL r w (i+1) (m+l.length) (l.foldl (Dr n a) ps) hd2 (by omega) (fun d=>by have:=QJ n a d l ps;have:=hm d;omega) (by omega) (by omega)
  unfold Ir
  rw[BO,Ak,BB,hlt,Ak]
  show oo (EA (Int.ofNat i)) none _=_
  rw[show EA (Int.ofNat i)=some i from rfl,Ac]
  show bb (an (Nat.blt i l.length) true) _ none=_
  rw[hlt,show an true true=true from rfl,Ak]
  show oo (AL (vL l) (i*1)) none _=_
  rw[KV hd,Ac]
  show FL pu L (Fb pu L w) L ⟨l.length,0,vL l⟩ (Int.ofNat a) ⟨l.length,0,vL l⟩ (Int.ofNat l.length) (Int.ofNat i) ⟨l.length,0,vL l⟩ (Int.ofNat l.length) (Int.ofNat 0) (Int.ofNat n) (Int.ofNat s) (Bp ps) ps.length=_
  rw[hin]
  unfold Ji
  rw[BO,Ak,hs]
  exact ih
theorem LK (s:Nat):∀ k p,(Fp s k p).length≤k
 | 0,_=>Nat.le_refl 0
 | k + 1, p => by
  have:=LK s k (p+1)
  unfold Fp
  cases hasB s p with
  | true=>show (Fp s k (p+1)).length+1≤_;omega
  | false=>show (Fp s k (p+1)).length≤_;omega
theorem LM (s:Nat):∀ k p x,x∈Fp s k p→x < p+k
 | 0,_,_,h=>by cases h
 | k + 1, p, x, h => by
  unfold Fp at h
  cases hh:hasB s p with
  | true =>
   rw[hh] at h
   rcases List.mem_cons.1 h with rfl | h
   ·omega
   ·have:=LM s k (p+1) x h;omega
  | false =>
   rw[hh] at h
   have:=LM s k (p+1) x h;omega
theorem XM {n s:Nat} (hn:n≤60) (hL:n < L) (hmarks:pu 46 [tv n s]=some (Sl.v 1 ⟨(Ay n s).length,0,vL (Ay n s)⟩)) (hon:∀ x:Int,-1000 < x→x < 1000→pu 47 [tv n s,IV x]=some (IV (x % (n:Int)))) :
 LX pu L [tv n s]=some (I9 (DL n s)):=by
 show K9 pu L (Int.ofNat n) (Int.ofNat s)=_
 have hlen:(Ay n s).length≤n:=LK s n 0
 unfold K9
 have hm:pu 46 [.agg ⟨[.int .i64 (Int.ofNat n),.int .u32 (Int.ofNat s)]⟩]=some (Sl.v 1 ⟨(Ay n s).length,0,vL (Ay n s)⟩):=hmarks
 rw[hm,Ac]
 show Fb pu L L ⟨(Ay n s).length,0,vL (Ay n s)⟩ ⟨(Ay n s).length,0,vL (Ay n s)⟩ (Int.ofNat (Ay n s).length) (Int.ofNat 0) (Int.ofNat n) (Int.ofNat s) (Bp []) 0=_
 exact nM pu L (by omega) (fun x hx=>by have:=LM s n 0 x hx;omega) hon (by omega) (by omega) (Ay n s) L 0 0 [] (by simp) (by omega) (fun _=>Nat.le_refl 0) (by omega) (by omega)
def good (n:Nat) (ps:List (Nat×Nat)):Prop:=(∀ p∈ps,0 < p.1∧p.1 < n)∧(ps.map Prod.fst).Nodup
theorem Oy (d:Nat):∀ (ps:List (Nat×Nat)) (x:Nat),x∈(bump d ps).map Prod.fst↔x=d∨x∈ps.map Prod.fst
 | [],x=>by show x∈[d]↔_;simp
 | (k, c) :: r, x => by
  show x∈(bif Nat.beq d k then (k,c+1)::r else (k,c)::bump d r).map Prod.fst↔_
  cases hb:Nat.beq d k with
  | true=>obtain rfl:=Nat.eq_of_beq_eq_true hb;simp
  | false =>
   show x∈k::(bump d r).map Prod.fst↔x=d∨x∈k::r.map Prod.fst
   rw[List.mem_cons,List.mem_cons,Oy d r x]
   constructor <;> rintro(h | h | h) <;> simp[h]
theorem Pm (d:Nat):∀ (ps:List (Nat×Nat)),(ps.map Prod.fst).Nodup→((bump d ps).map Prod.fst).Nodup
 | [],_=>by show [d].Nodup;simp
 | (k, c) :: r, h => by
  show ((bif Nat.beq d k then (k,c+1)::r else (k,c)::bump d r).map Prod.fst).Nodup
  cases hb:Nat.beq d k with
  | true=>exact h
  | false =>
   have h:(k::r.map Prod.fst).Nodup:=h
   obtain⟨h1,h2⟩:=List.nodup_cons.1 h
   show (k::(bump d r).map Prod.fst).Nodup
   refine List.nodup_cons.2 ⟨fun hx=>?_,Pm d r h2⟩
   rcases(Oy d r k).1 hx with rfl | hx
   ·simp at hb
   ·exact h1 hx
theorem XN {n d:Nat} {ps:List (Nat×Nat)} (h:good n ps) (hd:0 < d) (hd2:d < n):good n (bump d ps):=by
 refine⟨fun p hp=>?_,Pm d ps h.2⟩
 rcases(Oy d ps p.1).1 (List.mem_map.2 ⟨p,hp,rfl⟩) with e | e
 ·rw[e];exact⟨hd,hd2⟩
 ·obtain⟨q,hq,e⟩:=List.mem_map.1 e
  rw[←e];exact h.1 q hq
theorem ZN {n a b:Nat} (ha:a < n) (hb:b < n) (hab:a≠b):0 < I8 n a b∧I8 n a b < n:=by
 show 0 < (b+(n - a)) % n∧(b+(n - a)) % n < n
 refine⟨?_,Nat.mod_lt _ (by omega)⟩
 by_cases h:a < b
 ·rw[show b+(n - a)=(b - a)+n by omega,Nat.add_mod_right,Nat.mod_eq_of_lt (by omega)];omega
 ·rw[Nat.mod_eq_of_lt (by omega)];omega
theorem UN {n a b:Nat} {ps:List (Nat×Nat)} (h:good n ps) (ha:a < n) (hb:b < n):good n (Dr n a ps b):=by
 unfold Dr
 cases hx:Nat.beq a b with
 | true=>exact h
 | false =>
  have:=ZN ha hb (fun e=>by rw[e] at hx;simp at hx)
  exact XN h this.1 this.2
theorem QK {n a:Nat} (ha:a < n):∀ (r:List Nat) (ps:List (Nat×Nat)),(∀ x∈r,x < n)→good n ps→good n (r.foldl (Dr n a) ps)
 | [],_,_,h=>h
 | b::r,ps,hr,h=>QK ha r _ (fun x hx=>hr x (List.mem_cons_of_mem _ hx)) (UN h ha (hr b List.mem_cons_self))
theorem Pn {n : Nat} {l : List Nat} (hl : ∀ x ∈ l, x < n) : ∀ (r : List Nat) (ps : List (Nat × Nat)), (∀ x ∈ r, x < n) → good n ps → good n (r.foldl (fun ps a => l.foldl (Dr n a) ps) ps)
 | [],_,_,h=>h
 | a::r,ps,hr,h=>Pn hl r _ (fun x hx=>hr x (List.mem_cons_of_mem _ hx)) (QK (hr a List.mem_cons_self) l ps hl h)
theorem JN (n s:Nat):good n (DL n s):=by
 have h:∀ x∈Ay n s,x < n:=fun x hx=>by have:=LM s n 0 x hx;omega
 exact Pn h (Ay n s) [] h ⟨fun p hp=>(by cases hp),List.nodup_nil⟩
noncomputable def KW (n s:Nat):Int:=(DL n s).foldl cl 0
theorem ZO {n s:Nat} (hL:(DL n s).length < L) (hc:pu 10170 [tv n s]=some (I9 (DL n s))):wV pu L [tv n s]=some (IV (KW n s)):=by
 show eO pu L (Int.ofNat n) (Int.ofNat s)=_
 unfold eO
 have hc':pu 10170 [.agg ⟨[.int .i64 (Int.ofNat n),.int .u32 (Int.ofNat s)]⟩]=some (I9 (DL n s)):=hc
 rw[hc',Ac]
 show oo (Fj (Ef (.map (Bp (DL n s)) (DL n s).length))) none _=_
 rw[CX,Ac]
 show bb (Au F4 (Bp (DL n s))) (bb (Au F4 (Bp (DL n s))) (LW pu L L 0 (DL n s).length [] (DL n s).length (Bp (DL n s)) (DL n s).length) none) none=_
 rw[BO,Ak,Ak,Pj pu L (fun p hp=>((JN n s).1 p hp).1) L [] 0 (by rw[Jw];simpa using hL),Jw,OM cl]
 rfl
end Go.RgP
set_option maxRecDepth 100000
set_option maxHeartbeats 2000000
namespace Go.RgP
open Go Go.Sp Go.RgQM
def Gt (q:List Nat) (p:Nat×Nat):List Nat:=q.set (p.1 - 1) p.2
theorem Uk {α:Type} (v:α):∀ (xs:List α) (i:Nat),i < xs.length→BM [v] i xs=xs.set i v
 | [],i,h=>by simp at h
 | x::xs,0,_=>rfl
 | x :: xs, i + 1, h => by
  show x::BM [v] i xs=x::xs.set i v
  rw[Uk v xs i (by simpa using h)]
theorem uZ (q:List Nat) (i c:Nat):(vL q).set i (IV (Int.ofNat c))=vL (q.set i c):=by
 unfold vL;rw[List.map_set]
theorem WS:∀ k:Nat,AF [.int .i64 0] k=vL (List.replicate k 0)
 | 0=>rfl
 | k + 1 => by
  show Br [.int .i64 0] (AF [.int .i64 0] k)=_
  rw[WS k,BH];rfl
theorem QL (pu:Af) (L:Nat) {n:Nat} (hn:n < 1000) {ps:List (Nat×Nat)} (hk:good n ps) (c:Nat):∀ (w:Nat) (seen:List Nat) (q:List Nat),q.length=n - 1→(left ps.length seen).length < w →
 O0 pu L w (n - 1) c (vL q) ps.length seen ps.length (Bp ps) ps.length=some (Sl.v 1 ⟨n - 1,0,vL ((left ps.length seen).foldl (fun z i=>Gt z (Dn ps i)) q)⟩)
 | 0,_,_,_,h=>by omega
 | w + 1, seen, q, hq, h => by
  have hcomm:∀ x∈left ps.length seen,∀ y∈left ps.length seen,∀ z:List Nat,Gt (Gt z (Dn ps x)) (Dn ps y)=Gt (Gt z (Dn ps y)) (Dn ps x):=fun x hx y hy z=>by
   have hx:=(KU.1 hx).1
   have hy:=(KU.1 hy).1
   have ex:Dn ps x=ps[x]:=by simp[Dn,hx]
   have ey:Dn ps y=ps[y]:=by simp[Dn,hy]
   by_cases e:x=y
   ·rw[e]
   ·have hne : ps[x].1 ≠ ps[y].1 := fun h => by
     have hnd:=hk.2
     have hx':x < (ps.map Prod.fst).length:=by simpa using hx
     have hy':y < (ps.map Prod.fst).length:=by simpa using hy
     exact e ((List.getElem_inj (h₀:=hx') (h₁:=hy') hnd).1 (by simpa using h))
    have h1:=(hk.1 _ (List.getElem_mem hx)).1
    have h2:=(hk.1 _ (List.getElem_mem hy)).1
    rw[ex,ey]
    unfold Gt
    exact List.set_comm _ _ (by omega)
  show Ub pu L (O0 pu L w) (n - 1) c (vL q) ps.length seen ps.length (Bp ps) ps.length=_
  unfold Ub
  rw[O9,Ak,show Nat.ble ps.length ps.length=true from Nat.ble_eq_true_of_le (Nat.le_refl _),Ak,BO]
  refine VV (fun hl=>?_) fun e he=>?_
  ·rw[Ov hl,C8,Ak,Ak]
   unfold Ua
   have e1:Aq ((n - 1)*1) (Am 0 (vL q))=vL q:=by
    rw[Cg,Bz,List.drop_zero,Nat.mul_one,←hq,←Je q,List.take_length]
   rw[e1,C8,Ak,AV,Je,show Nat.ble (0+(n - 1)*1) q.length=true from Nat.ble_eq_true_of_le (by omega)]
   rfl
  ·obtain⟨d,k,h1,h2⟩:=Ph he
   obtain⟨hd,hd2⟩:=hk.1 (d,k) (List.mem_of_getElem? h1)
   have hd:0 < d:=hd
   have hd2:d < n:=hd2
   have ep:Dn ps e.born=(d,k):=by simp[Dn,h1]
   rw[C8,Ak,Ak,Oi ps seen e.born d k h1,Ac]
   have ih:=QL pu L hn hk c w (Br seen [e.born]) (Gt q (d,k)) (by unfold Gt;rw[List.length_set];exact hq) (by have:=Ow h2;omega)
   have fl:=Pi (f:=fun z i=>Gt z (Dn ps i)) hcomm h2 q
   rw[ep] at fl
   rw[fl] at ih
   have hw:Aj .i64 (Int.sub (Int.ofNat d) 1)=Int.ofNat (d - 1):=by
    show Aj .i64 ((d:Int) - 1)=((d - 1:Nat):Int)
    rw[Oe _ (by omega) (by omega)];omega
   show oo (EA (Aj .i64 (Int.sub (Int.ofNat d) 1))) none (fun k793=>(bb (an (Nat.blt k793 (n - 1)) true) (bb (an (Nat.ble ((0+k793*1)+1) (len (vL q))) true) (bb (Au Ah (BM [IV (Int.ofNat k)] (0+k793*1) (vL q))) (O0 pu L w (n - 1) c (BM [IV (Int.ofNat k)] (0+k793*1) (vL q)) ps.length (Br seen [e.born]) ps.length (Bp ps) ps.length) none) none) none))=_
   rw [hw, show EA (Int.ofNat (d - 1)) = some (d - 1) from rfl, Ac, show Nat.blt (d - 1) (n - 1) = true from by rw [blt_eq]; simp; omega, AV, Je, hq,
    show Nat.ble (0+(d - 1)*1+1) (n - 1)=true from Nat.ble_eq_true_of_le (by omega),show an true true=true from rfl,Ak,Ak,
    show 0+(d - 1)*1=d - 1 by omega,Uk _ _ _ (by rw[Je];omega),uZ,C8,Ak]
   exact ih
noncomputable def Ul (n s:Nat):List Nat:=(DL n s).foldl Gt (List.replicate (n - 1) 0)
theorem fK (pu:Af) (L:Nat) {n s:Nat} (hn0:0 < n) (hn:n < 1000) (hL:(DL n s).length < L) (hc:pu 10170 [tv n s]=some (I9 (DL n s))):wU pu L [tv n s]=some (Sl.v 1 ⟨n - 1,0,vL (Ul n s)⟩):=by
 show eH pu L (Int.ofNat n) (Int.ofNat s)=_
 unfold eH
 have hc':pu 10170 [.agg ⟨[.int .i64 (Int.ofNat n),.int .u32 (Int.ofNat s)]⟩]=some (I9 (DL n s)):=hc
 have hw:Aj .i64 (Int.sub (Int.ofNat n) 1)=Int.ofNat (n - 1):=by
  show Aj .i64 ((n:Int) - 1)=((n - 1:Nat):Int)
  rw[Oe _ (by omega) (by omega)];omega
 rw [hw, show EA (Int.ofNat (n - 1)) = some (n - 1) from rfl, Ac, hc',
  show Nat.ble (n - 1) (n - 1)=true from Nat.ble_eq_true_of_le (Nat.le_refl _),show Nat.ble ((n - 1)*8) 1099511627776=true from Nat.ble_eq_true_of_le (by omega),
  show Nat.ble (n - 1) 1099511627776=true from Nat.ble_eq_true_of_le (by omega),show an true (an true (an true true))=true from rfl,Ak,WS,C8,Ak,Ac]
 show oo (Fj (Ef (.map (Bp (DL n s)) (DL n s).length))) none _=_
 rw[CX,Ac]
 show bb (Au F4 (Bp (DL n s))) (bb (Au F4 (Bp (DL n s))) (O0 pu L L (n - 1) _ (vL (List.replicate (n - 1) 0)) (DL n s).length [] (DL n s).length (Bp (DL n s)) (DL n s).length) none) none=_
 rw[BO,Ak,Ak,QL pu L hn (JN n s) _ L [] (List.replicate (n - 1) 0) (by simp) (by rw[Jw];simpa using hL),Jw,OM Gt]
 rfl
noncomputable def WT (n s:Nat):Bool:=bb (Bd (KW n s) 0) (Nat.beq (DL n s).length (n - 1)) false
theorem fM (pu:Af) (L:Nat) {n s:Nat} (hn0:0 < n) (hn:n < 1000) (hc:pu 10170 [tv n s]=some (I9 (DL n s))) (hq:pu 31 [tv n s]=some (IV (KW n s))):wW pu L [tv n s]=some (.bool (WT n s)):=by
 show eP pu L (Int.ofNat n) (Int.ofNat s)=_
 unfold eP WT
 have hc':pu 10170 [.agg ⟨[.int .i64 (Int.ofNat n),.int .u32 (Int.ofNat s)]⟩]=some (I9 (DL n s)):=hc
 have hq':pu 31 [.agg ⟨[.int .i64 (Int.ofNat n),.int .u32 (Int.ofNat s)]⟩]=some (IV (KW n s)):=hq
 rw[hq',Ac]
 show bb (Bd (KW n s) 0) _ _=_
 cases Bd (KW n s) 0 with
 | false=>rfl
 | true =>
  rw[Ak,Ak,hc',Ac]
  show oo (Fj (Ef (.map (Bp (DL n s)) (DL n s).length))) none _=_
  rw[CX,Ac]
  show bb (Au F4 (Bp (DL n s))) (Qv pu L (Bd (Int.ofNat (len (Bp (DL n s)))) (Aj .i64 (Int.sub (Int.ofNat n) 1)))) none=_
  have hw:Aj .i64 (Int.sub (Int.ofNat n) 1)=Int.ofNat (n - 1):=by
   show Aj .i64 ((n:Int) - 1)=((n - 1:Nat):Int)
   rw[Oe _ (by omega) (by omega)];omega
  rw[BO,Ak,hw,FK,AV,ZL];rfl
end Go.RgP
set_option maxRecDepth 100000
set_option maxHeartbeats 2000000
namespace Go.RgP
open Go Go.Sp Go.RgQM
theorem fP (d:Nat) (ps:List (Nat×Nat)):(bump d ps).length≤ps.length+1:=by
 rw[Pe];split
 ·exact Nat.le_refl _
 ·exact Nat.le_succ _
theorem ZP (n a b:Nat) (ps:List (Nat×Nat)):(Dr n a ps b).length≤ps.length+1:=by
 unfold Dr
 cases Nat.beq a b with
 | true=>show ps.length≤_;omega
 | false=>exact fP _ _
theorem WU (n a:Nat):∀ (r:List Nat) (ps:List (Nat×Nat)),(r.foldl (Dr n a) ps).length≤ps.length+r.length
 | [],ps=>by show ps.length≤_;omega
 | b :: r, ps => by
  have h1:=WU n a r (Dr n a ps b)
  have h2:=ZP n a b ps
  show (r.foldl (Dr n a) (Dr n a ps b)).length≤ps.length+(r.length+1)
  omega
theorem Um (n : Nat) (l : List Nat) (hl : l.length ≤ 60) : ∀ (r : List Nat) (ps : List (Nat × Nat)), (r.foldl (fun ps a => l.foldl (Dr n a) ps) ps).length ≤ ps.length + r.length * 60
 | [],ps=>by show ps.length≤_;omega
 | a :: r, ps => by
  have h1:=Um n l hl r (l.foldl (Dr n a) ps)
  have h2:=WU n a l ps
  show (r.foldl (fun ps a=>l.foldl (Dr n a) ps) (l.foldl (Dr n a) ps)).length≤ps.length+(r.length+1)*60
  omega
theorem Sm {n s:Nat} (hn:n≤60):(DL n s).length < L:=by
 have h1:(Ay n s).length≤n:=LK s n 0
 have h2:=Um n (Ay n s) (by omega) (Ay n s) []
 have h3:(DL n s).length≤0+(Ay n s).length*60:=h2
 show _ < 1000000
 omega
theorem p62 (k:Nat) (args:List Value):BI (k+1) 47 args=uF (BI k) L args:=by kernel_rfl
theorem p91 (k:Nat) (args:List Value):BI (k+1) 32 args=m32 (BI k) L args:=by kernel_rfl
theorem p80 (k:Nat) (args:List Value):BI (k+1) 46 args=wT (BI k) L args:=by kernel_rfl
theorem vB (k:Nat) (args:List Value):BI (k+1) 10170 args=LX (BI k) L args:=by kernel_rfl
theorem p76 (k:Nat) (args:List Value):BI (k+1) 31 args=wV (BI k) L args:=by kernel_rfl
theorem p74 (k:Nat) (args:List Value):BI (k+1) 22 args=wU (BI k) L args:=by kernel_rfl
theorem p78 (k:Nat) (args:List Value):BI (k+1) 30 args=wW (BI k) L args:=by kernel_rfl
theorem Aey (k:Nat) {n s:Nat} {x:Int} (hn:0 < n) (hn2:n≤60) (h1:-1000 < x) (h2:x < 1000):BI (k+1) 47 [tv n s,IV x]=some (IV (x % (n:Int))):=by
 rw[p62];exact Aev (BI k) L n s x hn (by omega) h1 h2
theorem vC (k n s p:Nat):BI (k+1) 32 [tv n s,IV (Int.ofNat p)]=some (.bool (hasB s p)):=by
 rw[p91];exact uX (BI k) L n s p
theorem Aez {n:Nat} (hn:n≤60):n < L:=by show n < 1000000;omega
theorem KX (k:Nat) {n s:Nat} (hn2:n≤60):BI (k+2) 46 [tv n s]=some (Sl.v 1 ⟨(Ay n s).length,0,vL (Ay n s)⟩):=by
 rw[p80];exact ZM (BI (k+1)) (Aez hn2) (by omega) fun p _=>vC k n s p
theorem JO (k:Nat) {n s:Nat} (hn:0 < n) (hn2:n≤60):BI (k+3) 10170 [tv n s]=some (I9 (DL n s)):=by
 rw[vB];exact XM (BI (k+2)) L hn2 (Aez hn2) (KX k hn2) fun _ h1 h2=>Aey (k+1) hn hn2 h1 h2
theorem Un (k:Nat) {n s:Nat} (hn:0 < n) (hn2:n≤60):BI (k+4) 31 [tv n s]=some (IV (KW n s)):=by
 rw[p76];exact ZO (BI (k+3)) L (Sm hn2) (JO k hn hn2)
theorem WV (k:Nat) {n s:Nat} (hn:0 < n) (hn2:n≤60):BI (k+4) 22 [tv n s]=some (Sl.v 1 ⟨n - 1,0,vL (Ul n s)⟩):=by
 rw[p74];exact fK (BI (k+3)) L hn (by omega) (Sm hn2) (JO k hn hn2)
theorem fQ (k:Nat) {n s:Nat} (hn:0 < n) (hn2:n≤60):BI (k+5) 30 [tv n s]=some (.bool (WT n s)):=by
 rw[p78];exact fM (BI (k+4)) L hn (by omega) (JO (k+1) hn hn2) (Un k hn hn2)
end Go.RgP
set_option maxRecDepth 100000
set_option maxHeartbeats 2000000
namespace Go.RgP
open Go Go.Sp
theorem Sn {a b:Nat} (ha:a < 4294967296) (hb:b < 4294967296):Np .u32 (Int.ofNat a) (Int.ofNat b)=Int.ofNat (a &&& b):=by
 show bb (an (Nat.ble a 4294967295) (Nat.ble b 4294967295)) (Int.ofNat (Nat.land a b)) _=_
 rw[Nat.ble_eq_true_of_le (show a≤4294967295 by omega),Nat.ble_eq_true_of_le (show b≤4294967295 by omega)];rfl
theorem ZQ {a b:Nat} (ha:a < 4294967296) (hb:b < 4294967296):jF .u32 (Int.ofNat a) (Int.ofNat b)=Int.ofNat (a ||| b):=by
 show bb (an (Nat.ble a 4294967295) (Nat.ble b 4294967295)) (Int.ofNat (Nat.lor a b)) _=_
 rw[Nat.ble_eq_true_of_le (show a≤4294967295 by omega),Nat.ble_eq_true_of_le (show b≤4294967295 by omega)];rfl
theorem nN {a:Nat} (ha:a < 4294967296) (p:Nat):G6 .u32 (Int.ofNat a) p=Int.ofNat (a / 2 ^ p):=by
 show Int.ofNat (a / 2 ^ (min p 32))=_
 by_cases h:p≤32
 ·rw[Nat.min_eq_left h]
 ·have h1:a / 2 ^ (min p 32)=0:=by rw[Nat.min_eq_right (by omega)];exact Nat.div_eq_of_lt (show a < 2 ^ 32 by omega)
  have h2:a / 2 ^ p=0:=Nat.div_eq_of_lt (Nat.lt_of_lt_of_le (show a < 2 ^ 32 by omega) (Nat.pow_le_pow_right (by omega) (show 32≤p by omega)))
  rw[h1,h2]
theorem wrap32 {a:Nat} (ha:a < 4294967296):Aj .u32 (Int.ofNat a)=Int.ofNat a:=by
 show Int.ofNat (a % 4294967296)=_
 rw[Nat.mod_eq_of_lt ha]
theorem ZR {k:Nat} (hk:k < 32):QW .u32 (1:Int) k=Int.ofNat (2 ^ k):=by
 show Aj .u32 (Int.ofNat (1*2 ^ (min k 32)))=_
 rw[Nat.one_mul,Nat.min_eq_left (by omega)]
 exact wrap32 (Nat.pow_lt_pow_right (by omega) hk)
theorem fT {s:Nat} (hs:s < 4294967296) (p:Nat):hasB s p=s.testBit p:=by
 unfold hasB
 have h2:s / 2 ^ p < 4294967296:=Nat.lt_of_le_of_lt (Nat.div_le_self _ _) hs
 rw[nN hs,show (1:Int)=Int.ofNat 1 from rfl,Sn h2 (by omega),FK,Nat.and_one_is_mod,Nat.testBit_eq_decide_div_mod_eq]
 by_cases h:s / 2 ^ p % 2=1
 ·rw[h];simp
 ·have:s / 2 ^ p % 2=0:=by omega
  rw[this];simp;rfl
theorem Oz {s:Nat} (hs:s < 4294967296):∀ (k p x:Nat),x∈Fp s k p↔p≤x∧x < p+k∧s.testBit x=true
 | 0,p,x=>by simp[Fp];omega
 | k + 1, p, x => by
  have ih:=Oz hs k (p+1) x
  unfold Fp
  rw[fT hs]
  cases hb:s.testBit p with
  | true =>
   show x∈p::Fp s k (p+1)↔_
   rw[List.mem_cons,ih]
   constructor
   ·rintro(rfl | ⟨h1,h2,h3⟩)
    ·exact⟨Nat.le_refl _,by omega,hb⟩
    ·exact⟨by omega,by omega,h3⟩
   ·rintro⟨h1,h2,h3⟩
    by_cases h:x=p
    ·exact .inl h
    ·exact .inr ⟨by omega,by omega,h3⟩
  | false =>
   show x∈Fp s k (p+1)↔_
   rw[ih]
   constructor
   ·rintro⟨h1,h2,h3⟩;exact⟨by omega,by omega,h3⟩
   ·rintro⟨h1,h2,h3⟩
    refine⟨?_,by omega,h3⟩
    by_cases h:x=p
    ·subst h;rw[hb] at h3;cases h3
    ·omega
theorem M8 {s:Nat} (hs:s < 4294967296):∀ (k p:Nat),(Fp s k p).Pairwise (· < ·)
 | 0,p=>by simp[Fp]
 | k + 1, p => by
  have ih:=M8 hs k (p+1)
  unfold Fp
  cases hasB s p with
  | true =>
   show (p::Fp s k (p+1)).Pairwise _
   exact List.pairwise_cons.2 ⟨fun x hx=>by have:=(Oz hs k (p+1) x).1 hx;omega,ih⟩
  | false=>exact ih
theorem Dy {n s x:Nat} (hs:s < 4294967296):x∈Ay n s↔x < n∧s.testBit x=true:=by
 unfold Ay;rw[Oz hs]
 exact⟨fun h=>⟨by omega,h.2.2⟩,fun h=>⟨by omega,by omega,h.2⟩⟩
theorem Gw {n s:Nat} (hs:s < 4294967296):(Ay n s).Pairwise (· < ·):=M8 hs n 0
theorem KZ {l:List Nat} (h:l.Pairwise (· < ·)):l.Nodup:=h.imp fun hab=>by omega
theorem Po {l l':List Nat} (h:l.Pairwise (· < ·)) (h':l'.Pairwise (· < ·)) (hm:∀ x,x∈l↔x∈l'):l=l':=
 List.Perm.eq_of_pairwise (le:=(· < ·)) (fun a b _ _ h1 h2=>absurd h1 (by omega)) h h' ((List.perm_ext_iff_of_nodup (KZ h) (KZ h')).2 hm)
theorem UO {n m s:Nat} (hs:s < 4294967296) (h:s < 2 ^ n) (hm:n≤m):Ay m s=Ay n s:=by
 refine Po (Gw hs) (Gw hs) fun x=>?_
 rw[Dy hs,Dy hs]
 constructor
 ·rintro⟨_,h2⟩
  refine⟨?_,h2⟩
  by_cases hx:x < n
  ·exact hx
  ·have:s.testBit x=false:=Nat.testBit_lt_two_pow (Nat.lt_of_lt_of_le h (Nat.pow_le_pow_right (by omega) (by omega)))
   rw[this] at h2;cases h2
 ·rintro⟨h1,h2⟩;exact⟨by omega,h2⟩
def K3 (n:Nat) (l:List Nat) (d:Nat):Nat:=l.countP fun a=>decide ((a+d) % n∈l)
theorem FY {a b:Nat} (h:a≠b):Nat.beq a b=false:=by
 cases hb:Nat.beq a b with
 | false=>rfl
 | true=>exact absurd (Nat.eq_of_beq_eq_true hb) h
theorem Gy (a b:Nat):Nat.beq a b=decide (a=b):=by
 by_cases h:a=b
 ·subst h;rw[Nat.beq_refl];simp
 ·rw[FY h];simp[h]
theorem Pp (d d':Nat):∀ ps:List (Nat×Nat),look d' (bump d ps)=look d' ps+(bif Nat.beq d d' then 1 else 0)
 | [] => by
  show (bif Nat.beq d' d then 1 else 0)=0+_
  rw[show Nat.beq d' d=Nat.beq d d' from by
   by_cases h:d=d'
   ·subst h;rfl
   ·rw[FY h,FY (Ne.symm h)]];omega
 | (k, c) :: r => by
  show look d' (bif Nat.beq d k then (k,c+1)::r else (k,c)::bump d r)=(bif Nat.beq d' k then c else look d' r)+_
  have ih:=Pp d d' r
  cases hb:Nat.beq d k with
  | true =>
   obtain rfl:=Nat.eq_of_beq_eq_true hb
   show (bif Nat.beq d' d then c+1 else look d' r)=_
   cases h1:Nat.beq d' d with
   | true=>obtain rfl:=Nat.eq_of_beq_eq_true h1;rw[Nat.beq_refl];rfl
   | false =>
    have:Nat.beq d d'=false:=FY fun e=>by subst e;rw[Nat.beq_refl] at h1;cases h1
    rw[this];rfl
  | false =>
   show (bif Nat.beq d' k then c else look d' (bump d r))=_
   cases h1:Nat.beq d' k with
   | true =>
    obtain rfl:=Nat.eq_of_beq_eq_true h1
    rw[hb];rfl
   | false=>exact ih
theorem Uo (n a b d:Nat) (ps:List (Nat×Nat)):look d (Dr n a ps b)=look d ps+(bif (!Nat.beq a b && Nat.beq (I8 n a b) d) then 1 else 0):=by
 unfold Dr
 cases Nat.beq a b with
 | true=>rfl
 | false=>exact Pp _ _ _
theorem Pq (n a d : Nat) : ∀ (r : List Nat) (ps : List (Nat × Nat)), look d (r.foldl (Dr n a) ps) = look d ps + r.countP fun b => !Nat.beq a b && Nat.beq (I8 n a b) d
 | [],ps=>rfl
 | b :: r, ps => by
  show look d (r.foldl (Dr n a) (Dr n a ps b))=_
  rw[Pq n a d r,Uo,List.countP_cons]
  cases (!Nat.beq a b && Nat.beq (I8 n a b) d) <;> simp <;> omega
theorem UQ {l:List Nat} (hl:l.Nodup) (c:Nat):(l.countP fun b=>decide (b=c))=if c∈l then 1 else 0:=by
 induction l with
 | nil=>rfl
 | cons x l ih =>
  have hx:=List.nodup_cons.1 hl
  rw[List.countP_cons,ih hx.2]
  by_cases h:x=c
  ·subst h;simp[hx.1]
  ·have hc:¬ c=x:=fun e=>h e.symm
   simp[h,hc]
theorem fU {n a b d:Nat} (ha:a < n) (hb:b < n) (hd:0 < d) (hd2:d < n):(!Nat.beq a b && Nat.beq (I8 n a b) d)=decide (b=(a+d) % n):=by
 have hk:I8 n a b=(b+(n - a)) % n:=rfl
 have e1:(b+(n - a)) % n=if a≤b then b - a else b+(n - a):=by
  split
  ·rw[show b+(n - a)=(b - a)+n by omega,Nat.add_mod_right,Nat.mod_eq_of_lt (by omega)]
  ·exact Nat.mod_eq_of_lt (by omega)
 have e2:(a+d) % n=if a+d < n then a+d else a+d - n:=by
  split
  ·exact Nat.mod_eq_of_lt (by assumption)
  ·rw[Nat.mod_eq_sub_mod (by omega),Nat.mod_eq_of_lt (by omega)]
 rw[hk,e1,e2,Bool.eq_iff_iff,Gy,Gy]
 by_cases h1:a≤b <;> by_cases h2:a+d < n <;> simp[h1,h2] <;> omega
theorem Ps {n : Nat} {l : List Nat} (hl : l.Nodup) (hn : ∀ x ∈ l, x < n) {d : Nat} (hd : 0 < d) (hd2 : d < n) : ∀ (r : List Nat) (ps : List (Nat × Nat)), (∀ x ∈ r, x < n) → look d (r.foldl (fun ps a => l.foldl (Dr n a) ps) ps) = look d ps + r.countP fun a => decide ((a + d) % n ∈ l)
 | [],ps,_=>rfl
 | a :: r, ps, hr => by
  show look d (r.foldl (fun ps a=>l.foldl (Dr n a) ps) (l.foldl (Dr n a) ps))=_
  rw[Ps hl hn hd hd2 r _ fun x hx=>hr x (List.mem_cons_of_mem _ hx),Pq,List.countP_cons]
  have ha:=hr a List.mem_cons_self
  have:(l.countP fun b=>!Nat.beq a b && Nat.beq (I8 n a b) d)=l.countP fun b=>decide (b=(a+d) % n):=by
   refine List.countP_congr fun b hb=>?_
   rw[fU ha (hn b hb) hd hd2]
  rw[this,UQ hl]
  by_cases h:(a+d) % n∈l <;> simp[h] <;> omega
theorem Uq {n s d:Nat} (hs:s < 4294967296) (hd:0 < d) (hd2:d < n):look d (DL n s)=K3 n (Ay n s) d:=by
 have h:=Ps (KZ (Gw (n:=n) hs)) (fun x hx=>((Dy hs).1 hx).1) hd hd2 (Ay n s) [] fun x hx=>((Dy hs).1 hx).1
 unfold DL Aew K3
 rw[h];show 0+_=_;omega
end Go.RgP
set_option maxRecDepth 100000
set_option maxHeartbeats 2000000
namespace Go.RgP
open Go Go.Sp
theorem Uw {d c:Nat}:∀ {ps:List (Nat×Nat)},(ps.map Prod.fst).Nodup→(d,c)∈ps→look d ps=c
 | (k, e) :: r, h, hm => by
  obtain⟨h1,h2⟩:=List.nodup_cons.1 (show (k::r.map Prod.fst).Nodup from h)
  show (bif Nat.beq d k then e else look d r)=c
  rcases List.mem_cons.1 hm with h3 | h3
  ·injection h3 with a b;subst a;subst b;rw[Nat.beq_refl];rfl
  ·have:d≠k:=fun e=>h1 (by subst e;exact List.mem_map.2 ⟨(d,c),h3,rfl⟩)
   rw[FY this];exact Uw h2 h3
theorem QM {d:Nat}:∀ {ps:List (Nat×Nat)},d ∉ ps.map Prod.fst→look d ps=0
 | [],_=>rfl
 | (k, e) :: r, h => by
  show (bif Nat.beq d k then e else look d r)=0
  rw[FY fun e=>h (by subst e;exact List.mem_cons_self)]
  exact QM fun hm=>h (List.mem_cons_of_mem _ hm)
def Gm (n:Nat) (l:List Nat):List Nat:=(List.range (n - 1)).map fun i=>K3 n l (i+1)
theorem Pt {n:Nat}:∀ (ps:List (Nat×Nat)) (q:List Nat),q.length=n - 1→(∀ p∈ps,0 < p.1∧p.1 < n)→(ps.map Prod.fst).Nodup →
 (ps.foldl Gt q).length=n - 1∧∀ i,i < n - 1→(ps.foldl Gt q)[i]?=if i+1∈ps.map Prod.fst then some (look (i+1) ps) else q[i]?
 | [],q,hq,_,_=>⟨hq,fun i _=>by simp⟩
 | (k, c) :: r, q, hq, hk, hn => by
  obtain⟨h1,h2⟩:=List.nodup_cons.1 (show (k::r.map Prod.fst).Nodup from hn)
  obtain⟨hk1,hk2⟩:=hk (k,c) List.mem_cons_self
  have hk1:0 < k:=hk1
  have hk2:k < n:=hk2
  obtain⟨e1,e2⟩:=Pt r (Gt q (k,c)) (by unfold Gt;simp[hq]) (fun p hp=>hk p (List.mem_cons_of_mem _ hp)) h2
  refine⟨e1,fun i hi=>?_⟩
  show (r.foldl Gt (Gt q (k,c)))[i]?=_
  rw[e2 i hi]
  show _=if i+1∈k::r.map Prod.fst then some (bif Nat.beq (i+1) k then c else look (i+1) r) else q[i]?
  by_cases h3:i+1=k
  ·subst h3
   rw[if_neg h1,Nat.beq_refl,if_pos List.mem_cons_self]
   unfold Gt
   simp[hq,hi]
  ·rw[FY h3]
   by_cases h4:i+1∈r.map Prod.fst
   ·rw[if_pos h4,if_pos (List.mem_cons_of_mem _ h4)];rfl
   ·rw[if_neg h4,if_neg (fun e=>(List.mem_cons.1 e).elim h3 h4)]
    unfold Gt
    rw[List.getElem?_set]
    have:¬ k - 1=i:=by omega
    simp[this]
theorem ZT {n s:Nat} (hs:s < 4294967296):Ul n s=Gm n (Ay n s):=by
 obtain⟨g1,g2⟩:=JN n s
 obtain⟨e1,e2⟩:=Pt (n:=n) (DL n s) (List.replicate (n - 1) 0) (by simp) g1 g2
 apply List.ext_getElem?
 intro i
 by_cases hi:i < n - 1
 ·show ((DL n s).foldl Gt (List.replicate (n - 1) 0))[i]?=_
  rw[e2 i hi]
  have hr:(Gm n (Ay n s))[i]?=some (K3 n (Ay n s) (i+1)):=by unfold Gm;simp[hi]
  rw[hr,←Uq hs (by omega) (by omega)]
  split
  ·rfl
  ·rename_i h;rw[QM h];simp[hi]
 ·have h1:(Ul n s).length=n - 1:=e1
  have h2:(Gm n (Ay n s)).length=n - 1:=by unfold Gm;simp
  rw[List.getElem?_eq_none (by omega),List.getElem?_eq_none (by omega)]
def WW (n:Nat) (l:List Nat):Bool:=(List.range (n - 1)).all fun i=>K3 n l (i+1) == 1
theorem QN {n:Nat} {l:List Nat}:WW n l=true↔∀ d,0 < d→d < n→K3 n l d=1:=by
 unfold WW
 rw[List.all_eq_true]
 constructor
 ·intro h d d1 d2
  have:=h (d - 1) (List.mem_range.2 (by omega))
  rw[show d - 1+1=d by omega] at this
  exact eq_of_beq this
 ·intro h i hi
  have:=List.mem_range.1 hi
  rw[h (i+1) (by omega) (by omega)];rfl
end Go.RgP
set_option maxRecDepth 100000
set_option maxHeartbeats 2000000
namespace Go.RgP
open Go Go.Sp
theorem WX {n a d:Nat} (ha:a < n) (hd:d < n):(a+d) % n=if a+d < n then a+d else a+d - n:=by
 split
 ·exact Nat.mod_eq_of_lt (by assumption)
 ·rw[Nat.mod_eq_sub_mod (by omega),Nat.mod_eq_of_lt (by omega)]
theorem PI {n a d:Nat} (ha:a < n) (hd:0 < d) (hd2:d < n):((a+d) % n+(n - d)) % n=a:=by
 have h1:(a+d) % n < n:=Nat.mod_lt _ (by omega)
 rw[WX h1 (by omega),WX ha hd2]
 repeat' split
 all_goals omega
theorem bI {n a d:Nat} (ha:a < n) (hd:0 < d) (hd2:d < n):((a+(n - d)) % n+d) % n=a:=by
 have:=PI (n:=n) (a:=a) (d:=n - d) ha (by omega) (by omega)
 rw[show n - (n - d)=d by omega] at this;exact this
def setOf (f:Nat→Nat) (l:List Nat) (z:Nat):Nat:=l.foldl (fun z p=>z ||| 2 ^ f p) z
theorem LQ (f : Nat → Nat) : ∀ (l : List Nat) (z q : Nat), (setOf f l z).testBit q = (z.testBit q || l.any fun p => decide (f p = q))
 | [],z,q=>by simp[setOf]
 | p :: l, z, q => by
  show (setOf f l (z ||| 2 ^ f p)).testBit q=_
  rw[LQ f l,Nat.testBit_or,Nat.testBit_two_pow,List.any_cons,Bool.or_assoc]
theorem Ux (f:Nat→Nat) {n:Nat} {l:List Nat} {z:Nat} (hz:z < 2 ^ n) (h:∀ p∈l,f p < n):setOf f l z < 2 ^ n:=by
 refine Nat.lt_pow_two_of_testBit _ fun i hi=>?_
 rw[LQ,Nat.testBit_lt_two_pow (Nat.lt_of_lt_of_le hz (Nat.pow_le_pow_right (by omega) hi)),Bool.false_or,List.any_eq_false]
 intro p hp
 have:=h p hp
 simp;omega
def Bn (n s b:Nat):Nat:=(((s*2 ^ b) % 4294967296) ||| (s / 2 ^ (n - b))) &&& (2 ^ n - 1)
theorem JP {n s b:Nat} (hn:n≤31) (hs:s < 2 ^ n) (hb:b < n) (q:Nat):(Bn n s b).testBit q=(decide (q < n) && s.testBit ((q+(n - b)) % n)):=by
 unfold Bn
 rw[Nat.testBit_and,Nat.testBit_two_pow_sub_one,Nat.testBit_or,show (4294967296:Nat)=2 ^ 32 from rfl,Nat.testBit_mod_two_pow,←Nat.shiftLeft_eq,Nat.testBit_shiftLeft,←Nat.shiftRight_eq_div_pow,Nat.testBit_shiftRight]
 by_cases hq:q < n
 ·have h32:q < 32:=by omega
  simp only[hq,h32,decide_true,Bool.true_and,Bool.and_true]
  by_cases h:b≤q
  ·have e1:(q+(n - b)) % n=q - b:=by rw[show q+(n - b)=(q - b)+n by omega,Nat.add_mod_right,Nat.mod_eq_of_lt (by omega)]
   have e2:s.testBit (n - b+q)=false:=Nat.testBit_lt_two_pow (Nat.lt_of_lt_of_le hs (Nat.pow_le_pow_right (by omega) (by omega)))
   rw[e1,e2];simp[h]
  ·have e1:(q+(n - b)) % n=n - b+q:=by rw[Nat.mod_eq_of_lt (by omega)];omega
   rw[e1];simp[h]
 ·simp[hq]
theorem Kb {n s b:Nat}:Bn n s b < 2 ^ n:=by
 unfold Bn
 rw[Nat.and_two_pow_sub_one_eq_mod]
 exact Nat.mod_lt _ (Nat.two_pow_pos n)
theorem OO {n a b:Nat} (ha:a < 2 ^ n) (hb:b < 2 ^ n) (h:∀ q,q < n→a.testBit q=b.testBit q):a=b:=by
 refine Nat.eq_of_testBit_eq fun q=>?_
 by_cases hq:q < n
 ·exact h q hq
 ·rw[Nat.testBit_lt_two_pow (Nat.lt_of_lt_of_le ha (Nat.pow_le_pow_right (by omega) (by omega))),Nat.testBit_lt_two_pow (Nat.lt_of_lt_of_le hb (Nat.pow_le_pow_right (by omega) (by omega)))]
theorem lt32 {n s:Nat} (hn:n≤31) (hs:s < 2 ^ n):s < 4294967296:=Nat.lt_of_lt_of_le hs (Nat.le_trans (Nat.pow_le_pow_right (by omega) hn) (by decide))
def Gp (n:Nat) (x:Int):Nat:=(x % (n:Int)).toNat
theorem FM {n:Nat} (hn:0 < n) (x:Int):Gp n x < n:=by
 have h1:=Int.emod_nonneg x (show (n:Int)≠0 by omega)
 have h2:=Int.emod_lt_of_pos x (show (0:Int) < n by omega)
 unfold Gp;omega
theorem M9 {n:Nat} (hn:0 < n) (x:Int):((Gp n x:Nat):Int)=x % (n:Int):=by
 have h1:=Int.emod_nonneg x (show (n:Int)≠0 by omega)
 unfold Gp;omega
theorem Sq {n:Nat} (a:Nat):Gp n (a:Int)=a % n:=by
 unfold Gp;rw[←Int.natCast_emod];rfl
theorem fV {n:Nat} (hn:0 < n) (x y:Int):Gp n (x+y)=(Gp n x+Gp n y) % n:=by
 rw[←Sq (n:=n)]
 unfold Gp
 congr 1
 have e1:(((x % (n:Int)).toNat:Nat):Int)=x % (n:Int):=M9 hn x
 have e2:(((y % (n:Int)).toNat:Nat):Int)=y % (n:Int):=M9 hn y
 rw[show (((x % (n:Int)).toNat+(y % (n:Int)).toNat:Nat):Int)=x % (n:Int)+y % (n:Int) by rw[Int.natCast_add,e1,e2]]
 rw[Int.emod_add_emod,Int.add_emod_emod]
theorem UT {n s:Nat} (hn0:0 < n) (hn:n≤31) (hs:s < 2 ^ n) (by':Int):setOf (fun p=>Gp n ((p:Int)+by')) (Ay n s) 0=Bn n s (Gp n by'):=by
 have hs32:=lt32 hn hs
 have hb:=FM hn0 by'
 refine OO (Ux _ (Nat.two_pow_pos n) fun p _=>FM hn0 _) Kb fun q hq=>?_
 rw[LQ,Nat.zero_testBit,Bool.false_or,JP hn hs hb,Bool.eq_iff_iff]
 simp only[List.any_eq_true,decide_eq_true_eq,Bool.and_eq_true]
 have hz:∀ p,p < n→Gp n ((p:Int)+by')=(p+Gp n by') % n:=fun p hp=>by rw[fV hn0,Sq,Nat.mod_eq_of_lt hp]
 constructor
 ·rintro⟨p,hp,rfl⟩
  obtain⟨h1,h2⟩:=(Dy hs32).1 hp
  refine⟨hq,?_⟩
  rw[hz p h1]
  by_cases h0:Gp n by'=0
  ·rw[h0,Nat.add_zero,Nat.sub_zero,Nat.mod_eq_of_lt h1,Nat.add_mod_right,Nat.mod_eq_of_lt h1];exact h2
  ·rw[PI h1 (by omega) hb];exact h2
 ·rintro⟨_,h2⟩
  have hm:(q+(n - Gp n by')) % n < n:=Nat.mod_lt _ hn0
  refine⟨_,(Dy hs32).2 ⟨hm,h2⟩,?_⟩
  rw[hz _ hm]
  by_cases h0:Gp n by'=0
  ·rw[h0,Nat.sub_zero,Nat.add_zero,Nat.add_mod_right,Nat.mod_mod,Nat.mod_eq_of_lt hq]
  ·exact bI hq (by omega) hb
end Go.RgP
set_option maxRecDepth 100000
set_option maxHeartbeats 4000000
namespace Go.RgP
open Go Go.Sp Go.RgQM
noncomputable def nO (l:List Nat):Value:=Sl.v 1 ⟨l.length,0,vL l⟩
def U (s:Nat):Value:=.int .u32 (Int.ofNat s)
theorem fZ (q:List Nat) (p:Nat):Br (Am 0 (vL q)) [.int .i64 (Int.ofNat p)]=vL (q++[p]):=by
 rw[BH,Bz,List.drop_zero];unfold vL;rw[List.map_append];rfl
theorem gD {q:List Nat} {c:Nat} (hq:q.length≤2000) (hc:c / 2=q.length) (hc2:c % 2=0):GV 1 8 q.length c 1 (vL q)=true:=by
 unfold GV EQ
 rw[AV,Je,hc,hc2]
 rw[show Nat.ble ((4*(q.length+1)+4096)*8) 281474976710656=true from Nat.ble_eq_true_of_le (by omega),show Nat.ble (q.length+1) q.length=false from by rw[ble_eq];simp,show Nat.ble (0+q.length*1) q.length=true from Nat.ble_eq_true_of_le (by omega),show Nat.beq (0+q.length*1) q.length=true from by simp]
 rfl
theorem vD (q:List Nat):bb (an (Nat.ble (0+q.length*1) (len (vL q))) (Au Ah (Aq (q.length*1) (Am 0 (vL q))))) (some (Sl.v 1 (Sl.mk q.length 0 (Aq (q.length*1) (Am 0 (vL q)))))) none=some (nO q):=by
 have e1:Aq (q.length*1) (Am 0 (vL q))=vL q:=by
  rw[Cg,Bz,List.drop_zero,Nat.mul_one,←Je q,List.take_length]
 rw[e1,C8,AV,Je,show Nat.ble (0+q.length*1) q.length=true from Nat.ble_eq_true_of_le (by omega)];rfl
theorem Agd {n:Nat} (hn:0 < n) (hn2:n < 1000) {x:Int} (h1:-1000000000 < x) (h2:x < 1000000000):Int.tmod (Aj .i64 (Int.add (Int.tmod (Aj .i64 x) (Int.ofNat n)) (Int.ofNat n))) (Int.ofNat n)=Int.ofNat (Gp n x):=by
 rw[Oe x (by omega) (by omega)]
 show Int.tmod (Aj .i64 (Int.tmod x (n:Int)+(n:Int))) (n:Int)=((Gp n x:Nat):Int)
 have hp:(0:Int) < (n:Int):=by omega
 have g1:=Int.tmod_lt_of_pos x hp
 have g2:-(n:Int) < Int.tmod x n:=by
  have:=Int.lt_tmod_of_pos x hp;omega
 rw[Oe _ (by omega) (by omega),Int.tmod_eq_emod_of_nonneg (by omega),M9 hn]
 have h3:Int.tmod x (n:Int)+(n:Int)=x+(n:Int)*(1 - Int.tdiv x n):=by
  have:=Int.mul_tdiv_add_tmod x (n:Int)
  rw[Int.mul_sub];omega
 rw[h3,Int.add_mul_emod_self_left]
theorem OA {n s:Nat}:(Ay n s).length≤n:=LK s n 0
def XO (l:List Int):List Value:=l.map IV
theorem vE (l:List Nat):vL l=XO (l.map Int.ofNat):=by unfold vL XO;rw[List.map_map];rfl
theorem gF {l:List Int} {i:Nat} {b:Int} {r:List Int} (h:l.drop i=b::r):AL (XO l) (i*1)=some (IV b):=by
 rw[BZ,Nat.mul_one]
 have:l[i]?=some b:=by
  have:=congrArg List.head? h
  rw[List.head?_drop] at this;exact this
 unfold XO
 rw[List.getElem?_map,this];rfl
theorem UU {l:List Int} {i:Nat} {b:Int} {r:List Int} (h:l.drop i=b::r):l.drop (i+1)=r∧i < l.length∧b∈l:=by
 refine⟨?_,?_,?_⟩
 ·rw[←List.drop_drop,h];rfl
 ·have:=congrArg List.length h
  simp at this;omega
 ·have:b∈l.drop i:=by rw[h];exact List.mem_cons_self
  exact List.mem_of_mem_drop this
def bitsOf (l:List Nat):Nat:=setOf (fun p=>p) l 0
theorem Kc (l:List Nat) (q:Nat):(bitsOf l).testBit q=decide (q∈l):=by
 unfold bitsOf
 rw[LQ,Nat.zero_testBit,Bool.false_or,Bool.eq_iff_iff]
 simp only[List.any_eq_true,decide_eq_true_eq]
 exact⟨fun ⟨p,hp,e⟩=>e ▸ hp,fun h=>⟨q,h,rfl⟩⟩
theorem HY {n:Nat} {l:List Nat} (h:∀ x∈l,x < n):bitsOf l < 2 ^ n:=Ux _ (Nat.two_pow_pos n) h
theorem Sz {n:Nat} (hn:n≤31) {l:List Nat} (h1:l.Pairwise (· < ·)) (h2:∀ x∈l,x < n):Ay n (bitsOf l)=l:=by
 have h:=lt32 hn (HY h2)
 refine Po (Gw h) h1 fun x=>?_
 rw[Dy h,Kc,decide_eq_true_eq]
 exact⟨fun h=>h.2,fun h=>⟨h2 x h,h⟩⟩
theorem Ke {n s:Nat} (hn:n≤31) (hs:s < 2 ^ n):bitsOf (Ay n s)=s:=by
 have hs32:=lt32 hn hs
 refine OO (n:=n) (HY fun x hx=>((Dy hs32).1 hx).1) hs fun q hq=>?_
 rw[Kc,Bool.eq_iff_iff,decide_eq_true_eq,Dy hs32]
 exact⟨fun h=>h.2,fun h=>⟨hq,h⟩⟩
noncomputable def Agf (a b:Value):Value:=.tuple ⟨[a,b]⟩
structure Good (n:Nat) (l:List Nat):Prop where
 pos:0 < n
 le:n≤21
 few:l.length≤6
 up:l.Pairwise (· < ·)
 lt:∀ x∈l,x < n
noncomputable def Agg (n f:Nat) (l:List Nat):Value:=.agg ⟨[IV (Int.ofNat n),Sl.v 1 ⟨l.length,f,vL l⟩]⟩
theorem OB (n:Nat) (l:List Nat):(Gm n l).length=n - 1:=by unfold Gm;simp
theorem QO {n:Nat} {l:List Nat} {i:Nat} (hi:i < n - 1):(Gm n l)[i]?=some (K3 n l (i+1)):=by unfold Gm;simp[hi]
theorem Good.lt32 {n:Nat} {l:List Nat} (h:Good n l):bitsOf l < 4294967296:=Go.RgP.lt32 (n:=n) (by have:=h.le;omega) (HY h.lt)
theorem Good.marks {n:Nat} {l:List Nat} (h:Good n l):Ay n (bitsOf l)=l:=Sz (by have:=h.le;omega) h.up h.lt
theorem bJ (k:Nat) {n:Nat} {l:List Nat} (h:Good n l):BI (k+4) 22 [tv n (bitsOf l)]=some (nO (Gm n l)):=by
 have h2:=h.le
 have:=WV k (n:=n) (s:=bitsOf l) h.pos (by omega)
 rw[ZT h.lt32,h.marks] at this
 rw[this];unfold nO;rw[OB]
end Go.RgP
