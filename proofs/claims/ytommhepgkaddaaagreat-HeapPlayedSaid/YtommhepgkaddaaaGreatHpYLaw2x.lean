/- Made from wip. -/
import Derived.Test.YtommhepgkaddaaaGreatSpFramex
import Derived.Test.YtommhepgkaddaaaGreatHpYPux
import Derived.Test.YtommhepgkaddaaaGreatSpObjx
import Derived.KernelRfl

namespace Go.HpT
open Go Go.Sp
noncomputable section
def heads (ih:Nat→Nat→List (List Nat)) (left m:Nat):List (List Nat):=
 Nat.rec (motive:=fun _=>List (List Nat)) [] (fun k r=>appL r (mapL (fun p=>(k + 1) :: p) (ih (left - (k + 1)) (k + 1)))) m
def pts (f:Nat):Nat→Nat→List (List Nat):=
 Nat.rec (motive:=fun _=>Nat→Nat→List (List Nat)) (fun left _=>bb (Nat.beq left 0) [[]] []) (fun _ ih left most=>bb (Nat.beq left 0) [[]] (heads ih left (Nat.min left most))) f
def isPt (p:List Nat):Nat→Nat→Bool:=
 List.rec (motive:=fun _=>Nat→Nat→Bool) (fun left _=>Nat.beq left 0) (fun h _ ih left most=>an (Nat.ble 1 h) (an (Nat.ble h most) (an (Nat.ble h left) (ih (left - h) h)))) p
theorem mem_heads {ih : Nat → Nat → List (List Nat)} {left h : Nat} {r : List Nat} (hr : r ∈ ih (left - h) h) : ∀ m, 1 ≤ h → h ≤ m → h :: r ∈ heads ih left m
 | 0,h1,h2=>by omega
 | m + 1, h1, h2 => by
  show h :: r ∈ appL (heads ih left m) (mapL (fun p=>(m + 1) :: p) (ih (left - (m + 1)) (m + 1)))
  rw [appL_eq,List.mem_append,mapL_eq,List.mem_map]
  by_cases e:h = m + 1
  ·subst e;exact .inr ⟨r,hr,rfl⟩
  ·exact .inl (mem_heads hr m h1 (by omega))
theorem mem_pts : ∀ (p : List Nat) (f left most : Nat), left ≤ f → isPt p left most = true → p ∈ pts f left most
 | [], f, left, most, hf, h => by
  have h:Nat.beq left 0 = true:=h
  cases f with
  | zero=>show [] ∈ bb (Nat.beq left 0) [[]] [];rw [h];simp [bb_true]
  | succ f=>show [] ∈ bb (Nat.beq left 0) [[]] _;rw [h];simp [bb_true]
 | a :: p, f, left, most, hf, h => by
  have h:an (Nat.ble 1 a) (an (Nat.ble a most) (an (Nat.ble a left) (isPt p (left - a) a))) = true:=h
  obtain ⟨h1,h⟩:=an_inv h
  obtain ⟨h2,h⟩:=an_inv h
  obtain ⟨h3,h⟩:=an_inv h
  have h1:=Nat.le_of_ble_eq_true h1
  have h2:=Nat.le_of_ble_eq_true h2
  have h3:=Nat.le_of_ble_eq_true h3
  cases f with
  | zero=>omega
  | succ f =>
   have hz:Nat.beq left 0 = false:=by cases left with
    | zero=>omega
    | succ l=>rfl
   show a :: p ∈ bb (Nat.beq left 0) [[]] (heads (pts f) left (Nat.min left most))
   rw [hz,bb_false]
   exact mem_heads (mem_pts p f (left - a) a (by omega) h) _ h1 (Nat.le_min.2 ⟨h3,h2⟩)
def sumL (p:List Nat):Nat:=List.rec (motive:=fun _=>Nat) 0 (fun h _ r=>h + r) p
def okP (n:Nat) (p:List Nat):Bool:=an (Nat.ble 1 (sumL p)) (an (Nat.ble (sumL p) n) (isPt p (sumL p) (sumL p)))
def ins (m:Nat) (p:List Nat):List Nat:=List.rec (motive:=fun _=>List Nat) [m] (fun h r ih=>bb (Nat.ble h m) (m :: h :: r) (h :: ih)) p
def decs (p:List Nat):List Nat:=List.rec (motive:=fun _=>List Nat) [] (fun h _ ih=>bb (Nat.ble h 1) ih ((h - 1) :: ih)) p
def rnd (p:List Nat):List Nat:=ins (len p) (decs p)
def stair (n:Nat):Nat:=Nat.rec (motive:=fun _=>Nat→Nat→Nat) (fun k _=>k) (fun _ ih k left=>bb (Nat.blt k left) (ih (k + 1) (left - (k + 1))) k) n 0 n
def okS (k:Nat) (p:List Nat):Bool:=
 Nat.rec (motive:=fun _=>List Nat→Bool) (fun p=>ll p true fun h r=>an (Nat.beq h 1) (ll r true fun _ _=>false)) (fun k ih p=>ll p false fun h r=>an (orr (Nat.beq h (k + 1)) (Nat.beq h (k + 2))) (ih r)) k p
def ret (p:List Nat):Bool:=okS (stair (sumL p)) p
def iL (p:List Nat):List Value:=mapL (fun h=>.int .i64 (.ofNat h)) p
end
end Go.HpT
set_option maxRecDepth 100000
namespace Go.HpYM
open Go Go.Sp Go.HpY Go.HpT
noncomputable section
def sv (p:List Nat):Value:=Sl.v 1 ⟨len p,0,iL p⟩
def cnt (h:Nat) (p:List Nat):Nat:=List.rec (motive:=fun _=>Nat) 0 (fun a _ ih=>bb (Nat.beq a h) (Nat.succ ih) ih) p
def cvl (p:List Nat):List Value:=mapL (fun h=>.int .i64 (.ofNat (cnt h p))) [0,1,2,3,4,5,6,7,8,9,10,11,12,13,14,15,16,17,18,19,20,21]
def cv (p:List Nat):Value:=.agg ⟨cvl p⟩
def comes (f:Nat):List Nat→Bool:=
 Nat.rec (motive:=fun _=>List Nat→Bool) (fun p=>ret p) (fun _ ih p=>bb (ret p) true (ih (rnd p))) f
def iter (n:Nat):List Nat→List Nat:=Nat.rec (motive:=fun _=>List Nat→List Nat) (fun p=>p) (fun _ ih p=>ih (rnd p)) n
def eqP (a:List Nat):List Nat→Bool:=List.rec (motive:=fun _=>List Nat→Bool) (fun b=>nilL b) (fun x _ ih b=>ll b false fun y r=>an (Nat.beq x y) (ih r)) a
def seen (p:List Nat):Bool:=an (okP 21 (rnd p)) (an (Nat.beq (sumL (rnd p)) (sumL p)) (an (comes 60 p) (bb (ret p) (an (ret (rnd p)) (eqP (iter (stair (sumL p) + 1) p) p)) true)))
def perT (p:List Nat):Nat:=Nat.rec (motive:=fun _=>List Nat→Nat→Nat) (fun _ k=>k) (fun _ ih q k=>bb (eqP q p) k (ih (rnd q) (Nat.succ k))) 30 (rnd p) 1
def orbT (n:Nat):List Nat→List (List Nat):=Nat.rec (motive:=fun _=>List Nat→List (List Nat)) (fun _=>[]) (fun _ ih q=>q :: ih (rnd q)) n
def ltL (a:List Nat):List Nat→Bool:=List.rec (motive:=fun _=>List Nat→Bool) (fun b=>nt (nilL b)) (fun x _ ih b=>ll b false fun y r=>bb (Nat.blt x y) true (bb (Nat.beq x y) (ih r) false)) a
def firstT (p:List Nat):List Nat:=(List.rec (motive:=fun _=>List Nat→List Nat) (fun best=>best) (fun q _ ih best=>ih (bb (ltL q best) q best)) (orbT (perT p) p):List Nat→List Nat) p
def ringT (p:List Nat):List (List Nat):=orbT (perT p) (firstT p)
def ringV (p:List Nat):Value:=Sl.v 1 ⟨len (ringT p),0,mapL sv (ringT p)⟩
def levT (f:Nat):List Nat→Nat:=Nat.rec (motive:=fun _=>List Nat→Nat) (fun _=>0) (fun _ ih p=>bb (ret p) 0 (Nat.succ (ih (rnd p)))) f
def retP (k:Nat):List (List Nat):=List.rec (motive:=fun _=>List (List Nat)) [] (fun p _ ih=>bb (ret p) (p :: ih) ih) (pts k k k)
def rngT (n:Nat):List Nat:=Nat.rec (motive:=fun _=>List Nat) [] (fun k ih=>appL ih [k]) n
def left (n:Nat):Nat:=n - stair n * (stair n + 1) / 2
def leastT (n:Nat):List Nat→List Nat→List Nat:=Nat.rec (motive:=fun _=>List Nat→List Nat→List Nat) (fun _ best=>best) (fun _ ih q best=>ih (rnd q) (bb (ltL (rnd q) best) (rnd q) best)) n
def seenR (p:List Nat):Bool:=an (Nat.beq (len (ringT p)) (perT p)) (an (Nat.ble 1 (perT p)) (an (Nat.ble (perT p) 7) (an (eqP (leastT (perT p) p p) (firstT p)) (an (okP 21 (firstT p)) (an (eqP (iter (perT p) (firstT p)) (firstT p)) (eqP (iter (perT p) p) p))))))
end
end Go.HpYM
namespace Go.HtM

structure Hp (l:List Nat):Prop where
 ne:l ≠ []
 desc:l.Pairwise (fun a b=>b≤a)
 pos:∀ a ∈ l,1≤a
 sum:l.sum≤21
theorem mem_sum : ∀ (l : List Nat) (a : Nat), a ∈ l → a ≤ l.sum
 | b :: l, a, h => by
  rw [List.sum_cons]
  rcases List.mem_cons.1 h with rfl | h
  ·omega
  ·have:=mem_sum l a h;omega
theorem len_sum : ∀ (l : List Nat), (∀ a ∈ l, 1 ≤ a) → l.length ≤ l.sum
 | [],_=>by simp
 | a :: l, h => by
  have h1:=h a (by simp)
  have h2:=len_sum l (fun b hb=>h b (by simp [hb]))
  rw [List.sum_cons,List.length_cons];omega
theorem Hp.le {l:List Nat} (h:Hp l):∀ a ∈ l,a≤21:=fun a ha=>Nat.le_trans (mem_sum l a ha) h.sum
theorem Hp.len {l:List Nat} (h:Hp l):l.length≤21:=Nat.le_trans (len_sum l h.pos) h.sum
theorem Hp.head {l:List Nat} (h:Hp l):∃ a t,l = a :: t∧1≤a∧a≤21∧∀ b ∈ l,b≤a:=by
 cases l with
 | nil=>exact absurd rfl h.ne
 | cons a t =>
  refine ⟨a,t,rfl,h.pos a (by simp),h.le a (by simp),fun b hb=>?_⟩
  rcases List.mem_cons.1 hb with rfl | hb
  ·exact Nat.le_refl _
  ·exact (List.pairwise_cons.1 h.desc).1 b hb
end Go.HtM
namespace Go.HyM
open Go Go.Sp Go.HpT Go.HtM

theorem sumL_eq : ∀ p : List Nat, sumL p = p.sum
 | []=>rfl
 | a :: p => by
  show a + sumL p = _
  rw [sumL_eq p,List.sum_cons]
theorem isPt_of : ∀ (p : List Nat) (left most : Nat), (∀ a ∈ p, 1 ≤ a ∧ a ≤ most) → p.Pairwise (fun a b => b ≤ a) → sumL p = left → isPt p left most = true
 | [], left, _, _, _, h => by
  have h:0 = left:=h
  subst h;rfl
 | a :: p, left, most, h1, h2, h => by
  have h:a + sumL p = left:=h
  obtain ⟨g1,g2⟩:=List.pairwise_cons.1 h2
  have ha:=h1 a (by simp)
  have ih:=isPt_of p (left - a) a (fun b hb=>⟨(h1 b (by simp [hb])).1,g1 b hb⟩) g2 (by omega)
  show an (Nat.ble 1 a) (an (Nat.ble a most) (an (Nat.ble a left) (isPt p (left - a) a))) = true
  rw [ih,Nat.ble_eq_true_of_le ha.1,Nat.ble_eq_true_of_le ha.2,Nat.ble_eq_true_of_le (show a≤left by omega)];rfl
theorem isPt_inv : ∀ (p : List Nat) (left most : Nat), isPt p left most = true → (∀ a ∈ p, 1 ≤ a ∧ a ≤ most) ∧ p.Pairwise (fun a b => b ≤ a)
 | [],_,_,_=>⟨fun a h=>(by cases h),List.Pairwise.nil⟩
 | a :: p, left, most, h => by
  obtain ⟨h1,h⟩:=an_inv (show an (Nat.ble 1 a) (an (Nat.ble a most) (an (Nat.ble a left) (isPt p (left - a) a))) = true from h)
  obtain ⟨h2,h⟩:=an_inv h
  obtain ⟨_,h⟩:=an_inv h
  obtain ⟨i1,i2⟩:=isPt_inv p _ _ h
  have h1:=Nat.le_of_ble_eq_true h1
  have h2:=Nat.le_of_ble_eq_true h2
  refine ⟨fun b hb=>?_,List.Pairwise.cons (fun b hb=>(i1 b hb).2) i2⟩
  rcases List.mem_cons.1 hb with rfl | hb
  ·exact ⟨h1,h2⟩
  ·have := i1 b hb
   exact ⟨this.1,by omega⟩
theorem ok_hp {p:List Nat} (h:Hp p):okP 21 p = true:=by
 have h1:=len_sum p h.pos
 have h2:0 < p.length:=List.length_pos_iff.2 h.ne
 have h3:=h.sum
 have hp:=isPt_of p (sumL p) (sumL p) (fun a ha=>⟨h.pos a ha,by rw [sumL_eq];exact mem_sum p a ha⟩) h.desc rfl
 show an (Nat.ble 1 (sumL p)) (an (Nat.ble (sumL p) 21) (isPt p (sumL p) (sumL p))) = true
 rw [hp,sumL_eq,Nat.ble_eq_true_of_le (show 1≤p.sum by omega),Nat.ble_eq_true_of_le h3];rfl
theorem hp_ok {p:List Nat} (h:okP 21 p = true):Hp p:=by
 obtain ⟨h1,h2⟩:=an_inv (show an (Nat.ble 1 (sumL p)) (an (Nat.ble (sumL p) 21) (isPt p (sumL p) (sumL p))) = true from h)
 obtain ⟨h2,h3⟩:=an_inv h2
 have h1:=Nat.le_of_ble_eq_true h1
 have h2:=Nat.le_of_ble_eq_true h2
 obtain ⟨i1,i2⟩:=isPt_inv p _ _ h3
 refine ⟨fun e=>?_,i2,fun a ha=>(i1 a ha).1,by rw [←sumL_eq];exact h2⟩
 subst e;exact absurd h1 (by decide)
theorem desc_eq : ∀ (A B : List Nat), A.Perm B → A.Pairwise (fun a b => b ≤ a) → B.Pairwise (fun a b => b ≤ a) → A = B
 | [],B,h,_,_=>h.symm.eq_nil.symm
 | a :: A,[],h,_,_=>by have:=h.eq_nil;cases this
 | a :: A, b :: B, h, hA, hB => by
  obtain ⟨a1,a2⟩:=List.pairwise_cons.1 hA
  obtain ⟨b1,b2⟩:=List.pairwise_cons.1 hB
  have e:a = b:=by
   have h1:a≤b:=by
    rcases List.mem_cons.1 (h.mem_iff.1 (List.mem_cons_self (a:=a) (l:=A))) with e | e
    ·omega
    ·exact b1 a e
   have h2:b≤a:=by
    rcases List.mem_cons.1 (h.mem_iff.2 (List.mem_cons_self (a:=b) (l:=B))) with e | e
    ·omega
    ·exact a1 b e
   omega
  subst e
  rw [desc_eq A B h.cons_inv a2 b2]
theorem ins_perm (m : Nat) : ∀ p : List Nat, (ins m p).Perm (m :: p)
 | []=>List.Perm.refl _
 | h :: p => by
  show (bb (Nat.ble h m) (m :: h :: p) (h :: ins m p)).Perm _
  cases Nat.ble h m with
  | true=>rw [bb_true]
  | false =>
   rw [bb_false]
   exact ((ins_perm m p).cons h).trans (List.Perm.swap m h p)
theorem decs_eq : ∀ p : List Nat, decs p = (p.filter fun h => decide (1 < h)).map fun h => h - 1
 | []=>rfl
 | h :: p => by
  show bb (Nat.ble h 1) (decs p) ((h - 1) :: decs p) = _
  rw [decs_eq p]
  by_cases c:1 < h
  ·have : Nat.ble h 1 = false := by
    cases hb:Nat.ble h 1 with
    | false=>rfl
    | true=>have:=Nat.le_of_ble_eq_true hb;omega
   rw [this,bb_false,List.filter_cons_of_pos (by simpa using c),List.map_cons]
  ·have : Nat.ble h 1 = true := Nat.ble_eq_true_of_le (by omega)
   rw [this,bb_true,List.filter_cons_of_neg (by simpa using c)]
theorem rnd_of {p r:List Nat} (hr:okP 21 (rnd p) = true) (h1:r.Perm (p.length :: (p.filter fun h=>decide (1 < h)).map fun h=>h - 1)) (h2:r.Pairwise (fun a b=>b≤a)):r = rnd p:=by
 refine desc_eq _ _ (h1.trans ?_) h2 (hp_ok hr).desc
 have:rnd p = ins p.length (decs p):=by show ins (len p) (decs p) = _;rw [len_eq]
 rw [this,←decs_eq]
 exact (ins_perm _ _).symm
end Go.HyM
set_option maxRecDepth 100000
namespace Go.HpYM
open Go.Sp Go.HpY Go.HtM

theorem lt_true {a b:Nat} (h:a < b):ilt (Int.ofNat a) (Int.ofNat b) = true:=by simp [ilt_eq,h]
theorem lt_false {a b:Nat} (h:¬ a < b):ilt (Int.ofNat a) (Int.ofNat b) = false:=by simp [ilt_eq];omega
theorem ieqr (x:Int):ieq x x = true:=by simp [ieq_eq]
theorem neqr (x:Int):nt (ieq x x) = false:=by rw [ieqr];rfl
theorem setL_one {α : Type} (v : α) : ∀ (i : Nat) (xs : List α), i < xs.length → setL [v] i xs = xs.set i v
 | 0,x :: xs,_=>rfl
 | i + 1, x :: xs, h => by
  have:=setL_one v i xs (by simpa using h)
  show x :: setL [v] i xs = x :: xs.set i v
  rw [this]
def nI (l:List Nat):List Int:=l.map Int.ofNat
theorem nI_len (l:List Nat):(nI l).length = l.length:=by simp [nI]
theorem nI_get (l : List Nat) (i : Nat) (h : i < l.length) : (nI l)[i]'(by rw [nI_len]; exact h) = Int.ofNat l[i] := by simp [nI]
theorem nI_app (a b:List Nat):nI (a ++ b) = nI a ++ nI b:=by simp [nI]
theorem getN (l:List Nat) (i:Nat) (h:i < l.length):((nI l).map I)[i]? = some (I (Int.ofNat l[i])):=by rw [getI _ i (by rw [nI_len];exact h),nI_get l i h]
theorem clI (l:List Int):allL closed1 (l.map I) = true:=by rw [allL_eq,closedI]
theorem wholeI (r:List Int):an (Nat.ble (0 + r.length * 1) (len (r.map I))) (allL closed1 (takeL (r.length * 1) (dropL 0 (r.map I)))) = true:=by
 have:r.length * 1 = (r.map I).length:=by rw [List.length_map,Nat.mul_one]
 rw [Nat.zero_add,this,dropL_eq,List.drop_zero,takeL_eq,List.take_length,clI,len_eq,ble_eq]
 simp
theorem takeI (r:List Int):takeL (r.length * 1) (dropL 0 (r.map I)) = r.map I:=by
 have:r.length * 1 = (r.map I).length:=by rw [List.length_map,Nat.mul_one]
 rw [this,dropL_eq,List.drop_zero,takeL_eq,List.take_length]
theorem snocN (r:List Nat) (a:Nat):appL (dropL 0 ((nI r).map I)) [I (Int.ofNat a)] = (nI (r ++ [a])).map I:=by
 rw [appL_eq,dropL_eq,List.drop_zero,nI_app,List.map_append];rfl
theorem growG (sz by' n k:Nat) (xs:List Value) (hr:roomy (n + k) by' = true) (hk:1≤k) (hx:xs.length = n * sz):growC sz by' n (2 * n) k xs = true:=by
 unfold growC
 have e:(2 * n) / 2 = n:=by omega
 have e2:(2 * n) % 2 = 0:=by omega
 rw [e,e2,hr]
 have b1:Nat.ble (n + k) n = false:=by rw [ble_eq];exact decide_eq_false (by omega)
 have b2:Nat.ble (0 + n * sz) (len xs) = true:=by rw [ble_eq,len_eq,hx];simp
 have b3:Nat.beq (0 + n * sz) (len xs) = true:=by rw [len_eq,hx,Nat.zero_add];exact Nat.beq_refl _
 rw [b1,b2,b3];rfl
theorem roomyB {n b:Nat} (hn:n≤1000) (hb:b≤100):roomy n b = true:=by
 unfold roomy;rw [ble_eq]
 have:=Nat.mul_le_mul (show 4 * n + 4096≤8096 by omega) hb
 simp;omega
theorem mapO_I (l:List Int):mapO (toI .i64) (l.map I) = some l:=by
 induction l with
 | nil=>rfl
 | cons x l ih=>exact mapO_c rfl ih
theorem p22 (n:Nat) (a b c:Int):puN (n + 1) 22 [I a,I b,I c] = some (Value.bool (decide (a≤b) && decide (b≤c))):=by
 show bb (nt (ilt b a)) (some (Value.bool (nt (ilt c b)))) (some (Value.bool false)) = _
 by_cases h1:a≤b <;> by_cases h2:b≤c <;> simp [ilt_eq,h1,h2,show (b < a)↔¬ a≤b from by omega,show (c < b)↔¬ b≤c from by omega]
theorem wrapN {z:Int} (h1:-1000000≤z) (h2:z≤1000000):wrapF .i64 z = z:=wrapI _ (by omega) (by omega)

theorem sum_take (l:List Nat) (i:Nat) (h:i < l.length):(l.take (i + 1)).sum = (l.take i).sum + l[i]:=by
 rw [List.take_succ_eq_append_getElem h,List.sum_append];simp
theorem sum_le (l:List Nat) (i:Nat):(l.take i).sum≤l.sum:=by
 have:=congrArg List.sum (List.take_append_drop i l)
 rw [List.sum_append] at this;omega

theorem l18 (n fl : Nat) (l : List Nat) (hp : Hp l) : ∀ (f i last : Nat), l.length - i < f → i ≤ l.length → (∀ (h : i < l.length), l[i] ≤ last) →
 l18_1 (puN (n + 1)) 1000000 f (Int.ofNat (l.take i).sum) (Int.ofNat last) (sl fl (nI l)) (Int.ofNat l.length) (Int.ofNat i) = some (I 0):=by
 have hlen:=hp.len
 intro f
 induction f with
 | zero=>intro i last h;omega
 | succ f ih =>
  intro i last hf hi hla
  show b18_1 (puN (n + 1)) 1000000 (l18_1 (puN (n + 1)) 1000000 f) _ _ _ _ _ = _
  unfold b18_1
  by_cases hlt:i < l.length
  ·have q := p22 n 1 (Int.ofNat l[i]) 21
   have m:=List.getElem_mem hlt
   have h1:=hp.pos _ m
   have h2:=hp.le _ m
   have h3:=hla hlt
   have hs:=sum_take l i hlt
   have hsl:=sum_le l (i + 1)
   have hs21:=hp.sum
   have d:(decide ((1:Int)≤Int.ofNat l[i]) && decide (Int.ofNat l[i]≤21)) = true:=by
    simp only [Int.ofNat_eq_natCast,Bool.and_eq_true,decide_eq_true_eq];omega
   rw [d] at q
   rw [lt_true hlt]
   simp only [bb_true,toN_mk,oo_some,sl_n,sl_cs,nI_len,blt_eq,hlt,decide_true,an_eq,Bool.true_and,nthL_eq,Nat.mul_one,getN l i hlt,toI_mk]
   rw [q,oo_some,vBool_mk,oo_some,show nt true = false from rfl,bb_false,lt_false (show ¬ last < l[i] by omega),bb_false]
   have e:wrapF .i64 (Int.add (Int.ofNat (l.take i).sum) (Int.ofNat l[i])) = Int.ofNat (l.take (i + 1)).sum:=by
    have:Int.add (Int.ofNat (l.take i).sum) (Int.ofNat l[i]) = Int.ofNat (l.take (i + 1)).sum:=by
     rw [hs];show ((l.take i).sum:Int) + (l[i]:Int) = ((((l.take i).sum + l[i]:Nat)):Int);omega
    rw [this];exact wrapN (by simp only [Int.ofNat_eq_natCast];omega) (by simp only [Int.ofNat_eq_natCast];omega)
   have e2:ilt 22 (Int.ofNat (l.take (i + 1)).sum) = false:=by rw [ilt_eq];simp only [Int.ofNat_eq_natCast];exact decide_eq_false (by omega)
   rw [e,e2,bb_false,wrapS i (by omega)]
   exact ih (i + 1) l[i] (by omega) (by omega) fun h=>(List.pairwise_iff_getElem.1 hp.desc) i (i + 1) hlt h (by omega)
  ·have : i = l.length := by omega
   subst this
   have hs21:=hp.sum
   have e2:ilt 21 (Int.ofNat l.sum) = false:=by rw [ilt_eq];simp only [Int.ofNat_eq_natCast];exact decide_eq_false (by omega)
   rw [lt_false hlt,bb_false,List.take_length]
   unfold m18_0
   rw [e2];rfl
theorem p18 (n fl:Nat) (l:List Nat) (hp:Hp l):puN (n + 2) 18 [S fl (nI l)] = some (I 0):=by
 refine Eq.trans (b:=m18_ (puN (n + 1)) 1000000 (sl fl (nI l))) (by kernel_rfl) ?_
 unfold m18_
 have hlen:=hp.len
 have h0:0 < l.length:=List.length_pos_iff.2 hp.ne
 have:ieq (Int.ofNat (sl fl (nI l)).n) 0 = false:=by rw [ieq_eq,sl_n,nI_len];simp only [Int.ofNat_eq_natCast];exact decide_eq_false (by omega)
 rw [this,bb_false,sl_n,nI_len]
 exact l18 n fl l hp 1000000 0 21 (by omega) (by omega) fun h=>hp.le _ (List.getElem_mem h)
theorem l8 (pu : PureF) (fl : Nat) (l : List Nat) (hl : l.length ≤ 100) (hs : l.sum ≤ 1000) : ∀ (f i : Nat), l.length - i < f → i ≤ l.length →
 l8_1 pu 1000000 f (Int.ofNat (l.take i).sum) (sl fl (nI l)) (Int.ofNat l.length) (Int.ofNat i) = some (I (Int.ofNat l.sum)):=by
 intro f
 induction f with
 | zero=>intro i h;omega
 | succ f ih =>
  intro i hf hi
  show b8_1 pu 1000000 (l8_1 pu 1000000 f) _ _ _ _ = _
  unfold b8_1
  by_cases hlt:i < l.length
  ·have hst := sum_take l i hlt
   have hsl:=sum_le l (i + 1)
   have e:wrapF .i64 (Int.add (Int.ofNat (l.take i).sum) (Int.ofNat l[i])) = Int.ofNat (l.take (i + 1)).sum:=by
    have:Int.add (Int.ofNat (l.take i).sum) (Int.ofNat l[i]) = Int.ofNat (l.take (i + 1)).sum:=by
     rw [hst];show ((l.take i).sum:Int) + (l[i]:Int) = ((((l.take i).sum + l[i]:Nat)):Int);omega
    rw [this];exact wrapN (by simp only [Int.ofNat_eq_natCast];omega) (by simp only [Int.ofNat_eq_natCast];omega)
   rw [lt_true hlt]
   simp only [bb_true,toN_mk,oo_some,sl_n,sl_cs,nI_len,blt_eq,hlt,decide_true,an_eq,Bool.true_and,nthL_eq,Nat.mul_one,getN l i hlt,toI_mk,e,wrapS i (by omega)]
   exact ih (i + 1) (by omega) (by omega)
  ·have : i = l.length := by omega
   subst this
   rw [lt_false hlt,bb_false,List.take_length];rfl
theorem p8 (n fl:Nat) (l:List Nat) (hl:l.length≤100) (hs:l.sum≤1000):puN (n + 1) 8 [S fl (nI l)] = some (I (Int.ofNat l.sum)):=by
 refine Eq.trans (b:=m8_ (puN n) 1000000 (sl fl (nI l))) (by kernel_rfl) ?_
 unfold m8_
 rw [sl_n,nI_len]
 exact l8 (puN n) fl l hl hs 1000000 0 (by omega) (by omega)
theorem l6 (pu:PureF) (f1 f2:Nat) (l:List Int) (hl:l.length≤100):∀ (f i:Nat),l.length - i < f→i≤l.length→l6_1 pu 1000000 f (sl f1 l) (sl f2 l) (Int.ofNat i) = some (.bool true):=by
 intro f
 induction f with
 | zero=>intro i h;omega
 | succ f ih =>
  intro i hf hi
  show b6_1 pu 1000000 (l6_1 pu 1000000 f) _ _ _ = _
  unfold b6_1
  rw [sl_n]
  by_cases hlt:i < l.length
  ·rw [lt_true hlt]
   simp only [bb_true,toN_mk,oo_some,sl_n,sl_cs,blt_eq,hlt,decide_true,an_eq,Bool.true_and,nthL_eq,Nat.mul_one,getI l i hlt,toI_mk,neqr,bb_false,wrapS i (by omega)]
   exact ih (i + 1) (by omega) (by omega)
  ·rw [lt_false hlt];rfl
theorem p6 (n f1 f2:Nat) (l:List Int) (hl:l.length≤100):puN (n + 1) 6 [S f1 l,S f2 l] = some (.bool true):=by
 refine Eq.trans (b:=m6_ (puN n) 1000000 (sl f1 l) (sl f2 l)) (by kernel_rfl) ?_
 unfold m6_
 rw [sl_n,sl_n,neqr,bb_false]
 exact l6 (puN n) f1 f2 l hl 1000000 0 (by omega) (by omega)
def Rv (Z X:List Int) (i:Nat):Prop:=X.length = Z.length∧∀ k (h:k < X.length) (h2:k < Z.length) (h3:Z.length - 1 - k < Z.length),X[k] = if k < i∨Z.length - i≤k then Z[Z.length - 1 - k] else Z[k]
theorem l10170 (pu : PureF) (c : Nat) (Z : List Int) (hZ : Z.length ≤ 100) (h1 : 1 ≤ Z.length) : ∀ (f i : Nat) (X : List Int), Z.length - i < f → 2 * i ≤ Z.length → Rv Z X i →
 l10170_0 pu 1000000 f Z.length c (Int.ofNat i) ((Z.length:Int) - 1 - (i:Int)) (X.map I) = some (.tuple ⟨[.tuple ⟨[]⟩,.agg ⟨Z.reverse.map I⟩]⟩):=by
 intro f
 induction f with
 | zero=>intro i X h;omega
 | succ f ih =>
  intro i X hf hi hX
  obtain ⟨hl,hg⟩:=hX
  show b10170_0 pu 1000000 (l10170_0 pu 1000000 f) _ _ _ _ _ = _
  unfold b10170_0
  rw [clI,bb_true]
  have ej:(Z.length:Int) - 1 - (i:Int) = Int.ofNat (Z.length - 1 - i):=by simp only [Int.ofNat_eq_natCast];omega
  rw [ej]
  by_cases hlt:i < Z.length - 1 - i
  ·have hiX : i < X.length := by omega
   have hjX:Z.length - 1 - i < X.length:=by omega
   have hiZ:i < Z.length:=by omega
   have hjZ:Z.length - 1 - i < Z.length:=by omega
   have s1:setL ([I X[Z.length - 1 - i]]:List Value) i (X.map I) = (X.set i X[Z.length - 1 - i]).map I:=by rw [setL_one _ _ _ (by simpa using hiX),List.map_set]
   have s2:setL ([I X[i]]:List Value) (Z.length - 1 - i) ((X.set i X[Z.length - 1 - i]).map I) = ((X.set i X[Z.length - 1 - i]).set (Z.length - 1 - i) X[i]).map I:=by rw [setL_one _ _ _ (by simpa using hjX),←List.map_set]
   have hsub:wrapF .i64 (Int.sub (Int.ofNat (Z.length - 1 - i)) 1) = (Z.length:Int) - 1 - ((i + 1:Nat):Int):=by
    have:Int.sub (Int.ofNat (Z.length - 1 - i)) 1 = (Z.length:Int) - 1 - ((i + 1:Nat):Int):=by show ((Z.length - 1 - i:Nat):Int) - 1 = _;omega
    rw [this];exact wrapN (by omega) (by omega)
   rw [lt_true hlt]
   simp only [bb_true,toN_mk,oo_some,blt_eq,hiZ,hjZ,decide_true,an_eq,Bool.true_and,Bool.and_true,nthL_eq,Nat.zero_add,Nat.mul_one,getI X _ hiX,getI X _ hjX,toI_mk,s1,s2,ble_eq,len_eq,List.length_map,List.length_set,Nat.succ_le_of_lt hiX,Nat.succ_le_of_lt hjX,clI,wrapS i (by omega),hsub]
   refine ih (i + 1) _ (by omega) (by omega) ⟨by simp [hl],fun k hk hk2 hk3=>?_⟩
   have gi:=hg i hiX hiZ hjZ
   have gj:=hg (Z.length - 1 - i) hjX hjZ (by omega)
   rw [if_neg (by omega)] at gi gj
   rw [List.getElem_set]
   by_cases k1:Z.length - 1 - i = k
   ·rw [if_pos k1, if_pos (by omega), gi]
    congr 1;omega
   ·rw [if_neg k1, List.getElem_set]
    by_cases k2:i = k
    ·rw [if_pos k2, if_pos (by omega), gj]
     congr 1;omega
    ·rw [if_neg k2, hg k (by simpa using hk) hk2 hk3]
     by_cases k3:k < i∨Z.length - i≤k
     ·rw [if_pos k3,if_pos (by omega)]
     ·rw [if_neg k3,if_neg (by omega)]
  ·rw [lt_false hlt, bb_false]
   have:X = Z.reverse:=by
    apply List.ext_getElem
    ·rw [hl,List.length_reverse]
    ·intro k hk hk2
     rw [List.getElem_reverse,hg k hk (by omega) (by omega)]
     split
     ·rfl
     ·congr 1;omega
   rw [this]
theorem p10170 (n:Nat) (Z:List Int) (hZ:Z.length≤100) (h1:1≤Z.length) (c:Nat):puN (n + 1) 10170 [.slice (some ⟨0,0,some 1⟩) Z.length c,.agg ⟨Z.map I⟩] = some (.tuple ⟨[.tuple ⟨[]⟩,.agg ⟨Z.reverse.map I⟩]⟩):=by
 refine Eq.trans (b:=m10170_ (puN n) 1000000 Z.length c (Z.map I)) (by kernel_rfl) ?_
 unfold m10170_
 have:wrapF .i64 (Int.sub (Int.ofNat Z.length) 1) = (Z.length:Int) - 1 - ((0:Nat):Int):=by
  have:Int.sub (Int.ofNat Z.length) 1 = (Z.length:Int) - 1 - ((0:Nat):Int):=by show ((Z.length:Nat):Int) - 1 = _;omega
  rw [this];exact wrapN (by omega) (by omega)
 rw [clI,bb_true,this]
 exact l10170 (puN n) c Z hZ h1 1000000 0 Z (by omega) (by omega) ⟨rfl,fun k h h2 h3=>by rw [if_neg (by omega)]⟩
end Go.HpYM
set_option maxRecDepth 100000
namespace Go.HpYM
open Go.Sp Go.HpY Go.HtM

theorem srtZ_perm (l:List Int):(srtZ l).Perm l:=List.mergeSort_perm _ _
theorem srtZ_sorted (l:List Int):(srtZ l).Pairwise (·≤·):=by
 have:=List.pairwise_mergeSort (le:=fun x y:Int=>decide (x≤y)) (fun a b c h1 h2=>by simp at *;omega) (fun a b=>by simp;omega) l
 exact this.imp fun h=>by simpa using h
theorem natL : ∀ (l : List Int), (∀ a ∈ l, 0 ≤ a) → ∃ r : List Nat, l = nI r
 | [],_=>⟨[],rfl⟩
 | a :: l, h => by
  obtain ⟨r,e⟩:=natL l (fun b hb=>h b (by simp [hb]))
  have a1:=h a (by simp)
  refine ⟨a.toNat :: r,?_⟩
  rw [e];show a :: nI r = Int.ofNat a.toNat :: nI r
  rw [show Int.ofNat a.toNat = a from by simp only [Int.ofNat_eq_natCast];omega]
theorem nI_back (r:List Nat):(nI r).map Int.toNat = r:=by
 unfold nI;rw [List.map_map]
 have:(Int.toNat ∘ Int.ofNat) = id:=by funext x;rfl
 rw [this,List.map_id]
theorem sort_rev (P:List Nat):∃ r:List Nat,(srtZ (nI P)).reverse = nI r∧r.Perm P∧r.Pairwise (fun a b=>b≤a):=by
 have hp:=srtZ_perm (nI P)
 obtain ⟨r,hr⟩:=natL (srtZ (nI P)).reverse (fun a ha=>by
  have:a ∈ nI P:=hp.mem_iff.1 (List.mem_reverse.1 ha)
  obtain ⟨x,_,rfl⟩:=List.mem_map.1 this
  exact Int.natCast_nonneg x)
 refine ⟨r,hr,?_,?_⟩
 ·have h1 : (nI r).Perm (nI P) := by rw [← hr]; exact (List.reverse_perm _).trans hp
  have:=h1.map Int.toNat
  rwa [nI_back,nI_back] at this
 ·have h1 : (nI r).Pairwise (fun a b => b ≤ a) := by
   rw [←hr,List.pairwise_reverse];exact srtZ_sorted _
  unfold nI at h1
  rw [List.pairwise_map] at h1
  exact h1.imp fun h=>Int.ofNat_le.1 h
theorem perm_hp {P r:List Nat} (hp:r.Perm P) (hd:r.Pairwise (fun a b=>b≤a)) (hn:P ≠ []) (h1:∀ a ∈ P,1≤a) (hs:P.sum≤21):Hp r:=by
 refine ⟨fun e=>hn ?_,hd,fun a ha=>h1 a (hp.mem_iff.1 ha),?_⟩
 ·subst e;exact hp.symm.eq_nil
 ·have : r.sum = P.sum := hp.sum_nat
  omega
theorem m4_1p (n:Nat) (P:List Nat) (c:Nat) (hc:2≤c) (hn:P ≠ []) (h1:∀ a ∈ P,1≤a) (hs:P.sum≤21):∃ r,Hp r∧m4_1 (puN (n + 1)) 1000000 P.length c ((nI P).map I) = some (S 0 (nI r)):=by
 obtain ⟨r,hr,hp,hd⟩:=sort_rev P
 have H:=perm_hp hp hd hn h1 hs
 refine ⟨r,H,?_⟩
 have hl:P.length≤21:=by have:=H.len;have:=hp.length_eq;omega
 have h0:0 < P.length:=List.length_pos_iff.2 hn
 have hz:(srtZ (nI P)).length = P.length:=by rw [(srtZ_perm _).length_eq,nI_len]
 have hrl:(nI r).length = P.length:=by rw [nI_len,hp.length_eq]
 have wh:wholeC 0 1 P.length P.length = true:=by
  unfold wholeC
  simp;omega
 have q:=p10170 n (srtZ (nI P)) (by omega) (by omega) c
 rw [hz,hr] at q
 have w:=wholeI (nI r)
 have t:=takeI (nI r)
 rw [hrl] at w t
 have hb:Nat.ble 2 c = true:=by rw [ble_eq];exact decide_eq_true hc
 unfold m4_1
 rw [mapO_I,oo_some,len_eq,List.length_map,nI_len,wh,bb_true,mapI64,show (srtZ (nI P)).map I64 = (srtZ (nI P)).map I from rfl,clI,bb_true,hb,show orr true (nilL ((srtZ (nI P)).map I)) = true from rfl,bb_true,bb_true,q]
 simp only [oo_some,vTup_mk,ll_cons',ll_nil',vAgg_mk,show isNoV (.tuple ⟨[]⟩) = true from rfl,bb_true,clI]
 rw [w,bb_true,t]
 unfold S sl
 rw [hrl]
theorem m4_0p (n:Nat) (P:List Nat) (h1:∀ a ∈ P,1≤a) (hs:P.sum≤21):∃ r,Hp r∧m4_0 (puN (n + 1)) 1000000 P.length (2 * P.length) ((nI P).map I) = some (S 0 (nI r)):=by
 unfold m4_0
 rw [clI,bb_true]
 by_cases hn:P = []
 ·subst hn
  rw [show ieq (Int.ofNat ([]:List Nat).length) 0 = true from rfl,bb_true]
  exact m4_1p n [1] 3 (by omega) (by simp) (by simp) (by simp)
 ·have h0 : 0 < P.length := List.length_pos_iff.2 hn
  have:ieq (Int.ofNat P.length) 0 = false:=by rw [ieq_eq];simp only [Int.ofNat_eq_natCast];exact decide_eq_false (by omega)
  rw [this,bb_false]
  exact m4_1p n P _ (by omega) hn h1 hs
theorem l4 (n fl : Nat) (b : List Int) (hb : ∀ x ∈ b, 0 ≤ x ∧ x < 256) : ∀ (f i z : Nat) (P : List Nat), z < f → i ≤ b.length → i + z ≤ 21 → (∀ a ∈ P, 1 ≤ a) → P.sum + z ≤ 21 → P.length ≤ 21 - z →
 ∃ r,Hp r∧l4_2 (puN (n + 1)) 1000000 f P.length (2 * P.length) (Int.ofNat z) ⟨b.length,fl,b.map (Value.int .u8)⟩ (Int.ofNat b.length) (Int.ofNat i) ((nI P).map I) = some (S 0 (nI r)):=by
 intro f
 induction f with
 | zero=>intro i z P h;omega
 | succ f ih =>
  intro i z P hf hi hiz h1 hs hpl
  show ∃ r,Hp r∧b4_2 (puN (n + 1)) 1000000 (l4_2 (puN (n + 1)) 1000000 f) _ _ _ _ _ _ _ = _
  unfold b4_2
  rw [clI,bb_true]
  by_cases hlt:i < b.length
  ·obtain ⟨x1, x2⟩ := hb b[i] (List.getElem_mem hlt)
   have gx:(b.map (Value.int .u8))[i]? = some (Value.int .u8 b[i]):=by simp [hlt]
   rw [lt_true hlt]
   simp only [bb_true,toN_mk,oo_some,blt_eq,hlt,decide_true,an_eq,Bool.true_and,nthL_eq,Nat.mul_one,gx,toI_mk8]
   by_cases hz:z = 0
   ·subst hz
    rw [show ieq (Int.ofNat 0) 0 = true from rfl,bb_true]
    exact m4_0p n P h1 (by omega)
   ·have e0 : ieq (Int.ofNat z) 0 = false := by rw [ieq_eq]; simp only [Int.ofNat_eq_natCast]; exact decide_eq_false (by omega)
    obtain ⟨x,hx⟩:∃ x:Nat,b[i] = Int.ofNat x:=⟨b[i].toNat,by simp only [Int.ofNat_eq_natCast];omega⟩
    have hx2:x < 256:=by rw [hx] at x2;simp only [Int.ofNat_eq_natCast] at x2;omega
    have hm:x % z < z:=Nat.mod_lt _ (by omega)
    have ew:wrapF .i64 (Int.ofNat x) = Int.ofNat x:=wrapN (by simp only [Int.ofNat_eq_natCast];omega) (by simp only [Int.ofNat_eq_natCast];omega)
    have et:Int.tmod (Int.ofNat x) (Int.ofNat z) = Int.ofNat (x % z):=(Int.ofNat_tmod _ _).symm
    have ea:wrapF .i64 (Int.add 1 (Int.ofNat (x % z))) = Int.ofNat (1 + x % z):=by
     have:Int.add 1 (Int.ofNat (x % z)) = Int.ofNat (1 + x % z):=by show (1:Int) + ((x % z:Nat):Int) = ((1 + x % z:Nat):Int);omega
     rw [this];exact wrapN (by simp only [Int.ofNat_eq_natCast];omega) (by simp only [Int.ofNat_eq_natCast];omega)
    have es:wrapF .i64 (Int.sub (Int.ofNat z) (Int.ofNat (1 + x % z))) = Int.ofNat (z - (1 + x % z)):=by
     have:Int.sub (Int.ofNat z) (Int.ofNat (1 + x % z)) = Int.ofNat (z - (1 + x % z)):=by show ((z:Nat):Int) - ((1 + x % z:Nat):Int) = ((z - (1 + x % z):Nat):Int);omega
     rw [this];exact wrapN (by simp only [Int.ofNat_eq_natCast];omega) (by simp only [Int.ofNat_eq_natCast];omega)
    have g1:=growG 1 8 P.length 1 ((nI P).map I) (roomyB (by omega) (by omega)) (by omega) (by rw [List.length_map,nI_len,Nat.mul_one])
    rw [e0,show nt false = true from rfl,bb_false,bb_true,hx,ew,et,ea,es,g1,bb_true,snocN,clI,bb_true,wrapS i (by omega)]
    obtain ⟨r, hr, e⟩ := ih (i + 1) (z - (1 + x % z)) (P ++ [1 + x % z]) (by omega) (by omega) (by omega) (by
     intro a ha
     rcases List.mem_append.1 ha with ha | ha
     ·exact h1 a ha
     ·rw [List.mem_singleton.1 ha];omega) (by rw [List.sum_append];simp;omega) (by simp;omega)
    refine ⟨r,hr,?_⟩
    have hl:(P ++ [1 + x % z]).length = P.length + 1:=by simp
    rw [hl] at e
    exact e
  ·have : i = b.length := by omega
   subst this
   rw [lt_false hlt,bb_false]
   exact m4_0p n P h1 (by omega)
theorem p4 (n fl:Nat) (b:List Int) (hb:∀ x ∈ b,0≤x∧x < 256):∃ r,Hp r∧puN (n + 2) 4 [Sl.v 1 ⟨b.length,fl,b.map (Value.int .u8)⟩,I 21] = some (S 0 (nI r)):=by
 obtain ⟨r,hr,e⟩:=l4 n fl b hb 1000000 0 21 [] (by omega) (by omega) (by omega) (by simp) (by simp) (by simp)
 exact ⟨r,hr,Eq.trans (b:=m4_ (puN (n + 1)) 1000000 ⟨b.length,fl,b.map (Value.int .u8)⟩ 21) (by kernel_rfl) e⟩

end Go.HpYM
