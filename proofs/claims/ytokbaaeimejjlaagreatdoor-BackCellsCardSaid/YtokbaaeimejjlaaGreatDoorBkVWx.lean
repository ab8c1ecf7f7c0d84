/- Shows. -/
import Derived.Test.YtokbaaeimejjlaaGreatDoorBkSetx
import Derived.Test.YtokbaaeimejjlaaGreatDoorBkV7x

set_option maxRecDepth 100000
set_option maxHeartbeats 4000000
namespace Go.BkQ
open Go Go.Sp Go.BkVM Go.BkH
def lJ:Nat→List Nat→Nat
 | z,[]=>z
 | z,k::r=>lJ (z ||| 2 ^ k) r
theorem ZF:∀ (l:List Nat) (z j:Nat),(lJ z l).testBit j=(z.testBit j || decide (j∈l))
 | [],z,j=>by simp[lJ]
 | k :: r, z, j => by
  unfold lJ
  rw[ZF r,Nat.testBit_or,Nat.testBit_two_pow]
  by_cases h:k=j
  ·subst h;simp
  ·have:j≠k:=fun e=>h e.symm
   simp[h,this]
section
variable {r c k f g f2:Nat} {us:List Nat} {x:List Int}
theorem QS (n M:Nat) {s:Nat} (hg:(r,c,us)∈BO) (hx:x.length=r*c) (hs:s < 65536):∀ (rest:List Nat) (w i:Nat),us.drop i=rest→rest.length < w →
 PL (Bp (n+1)) M w (sl g x) 0 (Ha r c k f us) (.ofNat s) (.ofNat us.length) (.ofNat i)=some (I (bb (nP (rest.map fun t=>LU x (cellL r c t)) s) 0 14))
 | _,0,_,_,h=>by omega
 | [], w + 1, i, hd, _ => by
  have h1:us.length≤i:=List.drop_eq_nil_iff.1 hd
  show PK (Bp (n+1)) M (PL (Bp (n+1)) M w) (sl g x) 0 (Ha r c k f us) (.ofNat s) (.ofNat us.length) (.ofNat i)=_
  unfold PK
  rw[Jg (by omega),AA];rfl
 | t :: rest, w + 1, i, hd, hw => by
  obtain⟨hget,hd2,hi⟩:=jE hd
  have hp:=Cs hg
  have hrc:r*c≤16:=Nat.mul_le_mul hp.r4 hp.c4
  have h8:=hp.len8
  have hat:=Zy hd
  have hch:Bp (n+1) 51 [Cv 0 (Ha r c k f us),Sl.v 1 (sl g x),I (.ofNat i)]=some (.int .u16 (.ofNat (LU x (cellL r c t)))):=O4 n g f hg hat hx
  have hcin:LU x (cellL r c t) < 65536:=by
   have:=UO x (cellL r c t)
   rw[(hp.row t (List.mem_of_getElem? hat)).2.1] at this
   exact Nat.lt_of_lt_of_le this (Nat.pow_le_pow_right (n:=2) (by omega) hrc)
  have ih:=QS n M hg hx hs rest w (i+1) hd2 (by rw[List.length_cons] at hw;omega)
  rw[List.map_cons]
  generalize LU x (cellL r c t)=e at *
  have es:nP (e::rest.map fun t=>LU x (cellL r c t)) s=((e == 0 || !(e &&& s == 0)) && nP (rest.map fun t=>LU x (cellL r c t)) s):=rfl
  rw[es]
  show PK (Bp (n+1)) M (PL (Bp (n+1)) M w) (sl g x) 0 (Ha r c k f us) (.ofNat s) (.ofNat us.length) (.ofNat i)=_
  unfold PK VW
  rw[Hw hi,Ak,hch,Ac,show Bi .u16 (.int .u16 (.ofNat e))=some (.ofNat e) from rfl,Ac,ZA hcin hs,show (0:Int) = .ofNat 0 from rfl,DT,DT,DC i (by omega)]
  by_cases h0:e=0
  ·subst h0
   rw[show Nat.beq 0 0=true from rfl,show nt true=false from rfl,AA,AA]
   exact ih
  ·rw[show Nat.beq e 0=false from Bool.eq_false_iff.2 fun h=>h0 (Nat.eq_of_beq_eq_true h),show nt false=true from rfl,Ak,show (e == 0)=false from beq_eq_false_iff_ne.2 h0,Bool.false_or]
   by_cases h1:e &&& s=0
   ·rw[h1];rfl
   ·rw[show Nat.beq (e &&& s) 0=false from Bool.eq_false_iff.2 fun h=>h1 (Nat.eq_of_beq_eq_true h),AA,show (e &&& s == 0)=false from beq_eq_false_iff_ne.2 h1]
    exact ih
end
end Go.BkQ
namespace Go.BkH
def Fp:Nat→Nat→Nat→List (List Nat)
 | 0,_,_=>[[]]
 | _+1,0,_=>[]
 | d+1,m+1,lo=>(Fp d m (lo+1)).map (lo :: ·)++Fp (d+1) m (lo+1)
theorem Oz:∀ (m d lo:Nat),(Fp d m lo).length≤2 ^ m
 | 0,0,_=>Nat.le_refl _
 | m+1,0,_=>by show 1≤2 ^ (m+1);exact Nat.one_le_two_pow
 | 0,d+1,_=>Nat.zero_le _
 | m + 1, d + 1, lo => by
  have h1:=Oz m d (lo+1)
  have h2:=Oz m (d+1) (lo+1)
  unfold Fp
  rw[List.length_append,List.length_map,Nat.pow_succ];omega
theorem G9:∀ (m d lo:Nat) (K:List Nat),K∈Fp d m lo↔K.length=d∧K.Pairwise (· < ·)∧∀ k∈K,lo≤k∧k < lo+m
 | m, 0, lo, K => by
  have h:Fp 0 m lo=[[]]:=by cases m <;> rfl
  rw[h,List.mem_singleton]
  exact⟨fun e=>by subst e;exact⟨rfl,List.Pairwise.nil,fun _ h=>absurd h List.not_mem_nil⟩,fun h=>List.eq_nil_of_length_eq_zero h.1⟩
 | 0, d + 1, lo, K => by
  unfold Fp
  refine⟨fun h=>absurd h List.not_mem_nil,fun ⟨h1,_,h3⟩=>?_⟩
  cases K with
  | nil=>cases h1
  | cons k K=>have:=h3 k (by simp);omega
 | m + 1, d + 1, lo, K => by
  unfold Fp
  rw[List.mem_append,List.mem_map,G9 m (d+1) (lo+1) K]
  constructor
  ·rintro(⟨J,hJ,rfl⟩ | ⟨h1,h2,h3⟩)
   ·obtain⟨h1,h2,h3⟩:=(G9 m d (lo+1) J).1 hJ
    refine⟨by rw[List.length_cons,h1],List.pairwise_cons.2 ⟨fun k hk=>by have:=h3 k hk;omega,h2⟩,fun k hk=>?_⟩
    rcases List.mem_cons.1 hk with rfl | hk
    ·omega
    ·have:=h3 k hk;omega
   ·exact⟨h1,h2,fun k hk=>by have:=h3 k hk;omega⟩
  ·rintro⟨h1,h2,h3⟩
   cases K with
   | nil=>cases h1
   | cons k K =>
    have hp:=List.pairwise_cons.1 h2
    by_cases hk:k=lo
    ·subst hk
     refine .inl ⟨K,(G9 m d (k+1) K).2 ⟨by simpa using h1,hp.2,fun j hj=>?_⟩,rfl⟩
     have:=hp.1 j hj
     have:=h3 j (by simp[hj])
     omega
    ·refine .inr ⟨h1,h2,fun j hj=>?_⟩
     have hlo:lo < k:=by have:=(h3 k (by simp)).1;omega
     have:=h3 j hj
     rcases List.mem_cons.1 hj with rfl | hj
     ·omega
     ·have:=hp.1 j hj;omega
structure Lex (lt:List Int→List Int→Bool):Prop where
 head:∀ {a b:Int} {l m:List Int},a < b→lt (a::l) (b::m)=true
 tail:∀ {a:Int} {l m:List Int},lt l m=true→lt (a::l) (a::m)=true
theorem RO {lt : List Int → List Int → Bool} (hl : Lex lt) : ∀ (m d lo : Nat), (Fp d m lo).Pairwise fun a b => lt (ints a) (ints b) = true
 | m, 0, lo => by
  have h:Fp 0 m lo=[[]]:=by cases m <;> rfl
  rw[h];exact List.pairwise_singleton _ _
 | 0,d+1,lo=>List.Pairwise.nil
 | m + 1, d + 1, lo => by
  unfold Fp
  rw[List.pairwise_append]
  refine⟨List.pairwise_map.2 ((RO hl m d (lo+1)).imp fun h=>hl.tail h),RO hl m (d+1) (lo+1),fun a ha b hb=>?_⟩
  obtain⟨J,_,rfl⟩:=List.mem_map.1 ha
  obtain⟨h1,_,h3⟩:=(G9 m (d+1) (lo+1) b).1 hb
  cases b with
  | nil=>cases h1
  | cons k K =>
   have:=(h3 k (by simp)).1
   exact hl.head (Int.ofNat_lt.2 (by omega))
def hB (C K:List Nat):Bool:=C.all fun c=>c == 0 || Hy c K
theorem UT {C K:List Nat}:hB C K=true↔jL C K:=by
 unfold hB jL
 rw[List.all_eq_true]
 refine forall_congr' fun c=>forall_congr' fun _=>?_
 rw[Bool.or_eq_true,beq_iff_eq]
variable {lt:List Int→List Int→Bool} {n:Nat} {C H:List Nat}
theorem cO (hb:WI lt n C H) {d:Nat} (hd:d < H.length):∀ K∈Fp d n 0,hB C K=false:=fun K hK=>by
 cases h:hB C K with
 | false=>rfl
 | true =>
  obtain⟨h1,h2,h3⟩:=(G9 n d 0 K).1 hK
  rcases hb.least K h2 (fun k hk=>by have:=h3 k hk;omega) (UT.1 h) with e | e | ⟨e,_⟩
  ·rw[e] at hd;omega
  ·simp[ints] at e;omega
  ·simp[ints] at e;omega
theorem XM (ho:kQ lt) (hl:Lex lt) (hb:WI lt n C H):∃ A B,Fp H.length n 0=A++H::B∧(∀ K∈A,hB C K=false)∧hB C H=true:=by
 have hm:H∈Fp H.length n 0:=(G9 n H.length 0 H).2 ⟨rfl,hb.asc,fun k hk=>⟨Nat.zero_le _,by have:=hb.rng k hk;omega⟩⟩
 obtain⟨A,B,hAB⟩:=List.append_of_mem hm
 refine⟨A,B,hAB,fun K hK=>?_,UT.2 hb.hit⟩
 cases h:hB C K with
 | false=>rfl
 | true =>
  exfalso
  have hKm:K∈Fp H.length n 0:=by rw[hAB];exact List.mem_append_left _ hK
  obtain⟨h1,h2,h3⟩:=(G9 n H.length 0 K).1 hKm
  have hlt:lt (ints K) (ints H)=true:=by
   have:=RO hl n H.length 0
   rw[hAB,List.pairwise_append] at this
   exact this.2.2 K hK H (by simp)
  rcases hb.least K h2 (fun k hk=>by have:=h3 k hk;omega) (UT.1 h) with e | e | ⟨_,e⟩
  ·rw[e,ho.irr] at hlt;cases hlt
  ·simp[ints] at e;omega
  ·have:=ho.trans hlt e
   rw[ho.irr] at this;cases this
end Go.BkH
set_option maxRecDepth 100000
set_option maxHeartbeats 4000000
namespace Go.BkQ
open Go Go.Sp Go.BkVM Go.BkH
theorem q73 (k:Nat) (args:List Value):Bp (k+1) 10730 args=OE (Bp k) L args:=by kernel_rfl
noncomputable def Ay (l:List (List Nat)):List Value:=l.map fun K=>Sl.v 1 (slN (ints K))
noncomputable def LL (l:List (List Nat)):Sl:=⟨l.length,0,Ay l⟩
theorem XN (l:List (List Nat)):(Ay l).length=l.length:=by unfold Ay;simp
theorem LP (l:List (List Nat)):Au Ah (Ay l)=true:=by
 rw[Bh,List.all_eq_true]
 intro v hv
 obtain⟨K,_,rfl⟩:=List.mem_map.1 hv
 rfl
theorem nS (l:List (List Nat)):Au D6 (Ay l)=true:=by
 rw[Bh,List.all_eq_true]
 intro v hv
 obtain⟨K,_,rfl⟩:=List.mem_map.1 hv
 rfl
theorem ZG (l:List (List Nat)):Aq (l.length*1) (Ay l)=Ay l:=by
 rw[Cg,Nat.mul_one];exact List.take_of_length_le (by rw[XN];exact Nat.le_refl _)
theorem ZH (l:List (List Nat)):Am 0 (Ay l)=Ay l:=by rw[Bz,List.drop_zero]
theorem Ab0 (a b:List (List Nat)):Br (Ay a) (Ay b)=Ay (a++b):=by rw[BH];unfold Ay;simp
theorem AhV {n k c:Nat} {xs:List Value} (hx:xs.length=n) (hc:c / 2=n) (hc2:c % 2=0) (hk:1≤k) (hb:n+k≤1000000):GV 1 24 n c k xs=true:=by
 unfold GV
 have h1:EQ (n+k) 24=true:=by
  unfold EQ
  exact Nat.ble_eq_true_of_le (by show (4*(n+k)+4096)*24≤281474976710656;omega)
 have h2:nt (Nat.ble (n+k) (c / 2))=true:=by
  rw[hc]
  cases h:Nat.ble (n+k) n with
  | false=>rfl
  | true=>have:=Nat.le_of_ble_eq_true h;omega
 have h3:Nat.ble (0+n*1) (len xs)=true:=Nat.ble_eq_true_of_le (by rw[AV,hx];omega)
 have h4:Nat.beq (0+n*1) (len xs)=true:=by rw[AV,hx,Nat.zero_add,Nat.mul_one];simp
 rw[h1,h2,h3,h4,hc2];rfl
theorem AhW {n c:Nat} {xs:List Value} (hx:xs.length=n) (hc:c / 2=n) (hc2:c % 2=0) (hb:n≤1000):GV 1 8 n c 1 xs=true∧EQ n 8=true:=by
 constructor
 ·unfold GV
  have h1:EQ (n+1) 8=true:=by
   unfold EQ
   exact Nat.ble_eq_true_of_le (by show (4*(n+1)+4096)*8≤281474976710656;omega)
  have h2:nt (Nat.ble (n+1) (c / 2))=true:=by
   rw[hc]
   cases h:Nat.ble (n+1) n with
   | false=>rfl
   | true=>have:=Nat.le_of_ble_eq_true h;omega
  have h3:Nat.ble (0+n*1) (len xs)=true:=Nat.ble_eq_true_of_le (by rw[AV,hx];omega)
  have h4:Nat.beq (0+n*1) (len xs)=true:=by rw[AV,hx,Nat.zero_add,Nat.mul_one];simp
  rw[h1,h2,h3,h4,hc2];rfl
 ·unfold EQ
  exact Nat.ble_eq_true_of_le (by show (4*n+4096)*8≤281474976710656;omega)
def lQ (B:List Nat):Nat:=(B.getLast?.map (· + 1)).getD 0
def XO (N d n:Nat):Prop:=∀ (B:List Nat) (m:Nat),lQ B+m=n→B.length+d≤100 →
 Bp N 10730 [I (.ofNat (B.length+d)),I (.ofNat n),Sl.v 1 (slN (ints B))]=some (.tuple ⟨[Sl.v 1 (LL ((Fp d m (lQ B)).map (B ++ ·)))]⟩)
theorem WL (B:List Nat) (i:Nat):lQ (B++[i])=i+1:=by unfold lQ;simp
theorem lK (B:List Nat) (i:Nat) (hB:B.length≤1000) : 
 EQ (0+(slN (ints B)).n) 8=true∧GV 1 8 (0+(slN (ints B)).n) (2*(0+(slN (ints B)).n)+bb false 1 0) 1 (Aq ((slN (ints B)).n*1) (slN (ints B)).cs)=true ∧
 an (Nat.ble (0+((0+(slN (ints B)).n)+1)*1) (len (Br (Am 0 (Aq ((slN (ints B)).n*1) (slN (ints B)).cs)) [I (.ofNat i)]))) (Au Ah (Aq (((0+(slN (ints B)).n)+1)*1) (Am 0 (Br (Am 0 (Aq ((slN (ints B)).n*1) (slN (ints B)).cs)) [I (.ofNat i)]))))=true ∧
 (⟨(0+(slN (ints B)).n)+1,0,Aq (((0+(slN (ints B)).n)+1)*1) (Am 0 (Br (Am 0 (Aq ((slN (ints B)).n*1) (slN (ints B)).cs)) [I (.ofNat i)]))⟩:Sl)=slN (ints (B++[i])):=by
 have hn:(slN (ints B)).n=B.length:=by show (ints B).length=_;simp[ints]
 have hcs:(slN (ints B)).cs=(ints B).map I:=rfl
 have hlI:(ints B).length=B.length:=by simp[ints]
 have htk:Aq (B.length*1) ((ints B).map I)=(ints B).map I:=by
  rw[Cg,Nat.mul_one];exact List.take_of_length_le (by simp[ints])
 have happ:Br (Am 0 ((ints B).map I)) [I (.ofNat i)]=(ints (B++[i])).map I:=by rw[Bz,List.drop_zero,BH];simp[ints]
 have hl2:(ints (B++[i])).length=B.length+1:=by simp[ints]
 have htk2:=rC (ints (B++[i]))
 rw[hl2] at htk2
 have hfit:=AhN (ints (B++[i]))
 rw[hl2] at hfit
 have hg:=AhW (n:=B.length) (c:=2*B.length+0) (xs:=(ints B).map I) (by simp[ints]) (by omega) (by omega) hB
 rw[hn,hcs,Nat.zero_add,htk,happ,htk2]
 refine⟨hg.2,hg.1,hfit,?_⟩
 unfold slN
 rw[hl2]
 cases h:ints (B++[i]) with
 | nil=>rw[h] at hl2;simp at hl2
 | cons a l=>rfl
theorem ML (N M d n:Nat) (hn:n≤16) (hS:XO (N+1) d n) (B:List Nat) (hB:B.length+(d+1)≤100):∀ (m w lo cc:Nat) (acc:List (List Nat)),lo+m=n→m < w→cc / 2=acc.length→cc % 2=0→acc.length+2 ^ m≤900000 →
 Gw (Bp (N+1)) M w (.ofNat (B.length+(d+1))) (.ofNat n) (slN (ints B)) acc.length cc (.ofNat lo) (Ay acc)=some (.tuple ⟨[Sl.v 1 (LL (acc++(Fp (d+1) m lo).map (B ++ ·)))]⟩)
 | _,0,_,_,_,_,h,_,_,_=>by omega
 | 0, w + 1, lo, cc, acc, hlo, _, a1, a2, hb => by
  obtain rfl:lo=n:=by omega
  show Iy (Bp (N+1)) M (Gw (Bp (N+1)) M w) (.ofNat (B.length+(d+1))) (.ofNat lo) (slN (ints B)) acc.length cc (.ofNat lo) (Ay acc)=_
  unfold Iy K3
  rw[LP,Ak,Jg (by omega),AA,Ak,ZH,ZG,LP,show Nat.ble (0+acc.length*1) (len (Ay acc))=true from Nat.ble_eq_true_of_le (by rw[AV,XN];omega),show an true true=true from rfl,Ak,show Fp (d+1) 0 lo=[] from rfl,List.map_nil,List.append_nil]
  rfl
 | m + 1, w + 1, lo, cc, acc, hlo, hw, a1, a2, hb => by
  have hn2:(slN (ints B)).n=B.length:=by show (ints B).length=_;simp[ints]
  have hcall:=hS (B++[lo]) m (by rw[WL];omega) (by simp;omega)
  rw[WL,show (B++[lo]).length+d=B.length+(d+1) from by simp;omega] at hcall
  have hsplit:(Fp (d+1) (m+1) lo).map (B ++ ·)=(Fp d m (lo+1)).map ((B++[lo]) ++ ·)++(Fp (d+1) m (lo+1)).map (B ++ ·):=by
   show ((Fp d m (lo+1)).map (lo :: ·)++Fp (d+1) m (lo+1)).map (B ++ ·)=_
   rw[List.map_append,List.map_map]
   congr 1
   refine List.map_congr_left fun K _=>?_
   simp
  have hcl:=Oz m d (lo+1)
  have hpow:2 ^ (m+1)=2 ^ m+2 ^ m:=by rw[Nat.pow_succ];omega
  generalize hX:(Fp d m (lo+1)).map ((B++[lo]) ++ ·)=X at *
  have hXl:X.length≤2 ^ m:=by rw[←hX,List.length_map];exact hcl
  -- what follows the call
  have tail : bb (Nat.beq (LL X).n 0) (Gw (Bp (N + 1)) M w (.ofNat (B.length + (d + 1))) (.ofNat n) (slN (ints B)) acc.length cc (Aj .i64 (Int.add (.ofNat lo) (1 : Int))) (Ay acc)) (bb (an (Au D6 (Aq ((LL X).n * 1) (LL X).cs)) (GV 1 24 acc.length cc (LL X).n (Ay acc))) (bb (Au Ah (Br (Am 0 (Ay acc)) (Aq ((LL X).n * 1) (LL X).cs))) (Gw (Bp (N + 1)) M w (.ofNat (B.length + (d + 1))) (.ofNat n) (slN (ints B)) (acc.length + (LL X).n) (2 * (acc.length + (LL X).n) + bb false 1 0) (Aj .i64 (Int.add (.ofNat lo) (1 : Int))) (Br (Am 0 (Ay acc)) (Aq ((LL X).n * 1) (LL X).cs))) none) none)
   = some (.tuple ⟨[Sl.v 1 (LL (acc++(Fp (d+1) (m+1) lo).map (B ++ ·)))]⟩):=by
   rw[DC lo (by omega),hsplit,show (LL X).n=X.length from rfl,show (LL X).cs=Ay X from rfl,ZG,ZH,Ab0,nS,LP]
   by_cases h0:X=[]
   ·subst h0
    rw[show Nat.beq ([]:List (List Nat)).length 0=true from rfl,Ak,List.nil_append]
    exact ML N M d n hn hS B hB m w (lo+1) cc acc (by omega) (by omega) a1 a2 (by omega)
   ·have hp:1≤X.length:=(List.length_pos_iff.2 h0)
    rw[show Nat.beq X.length 0=false from Bool.eq_false_iff.2 fun h=>by have:=Nat.eq_of_beq_eq_true h;omega,AA,AhV (XN acc) a1 a2 hp (by omega),show an true true=true from rfl,Ak,Ak]
    have ih:=ML N M d n hn hS B hB m w (lo+1) (2*(acc.length+X.length)+0) (acc++X) (by omega) (by omega) (by rw[List.length_append];omega) (by omega) (by rw[List.length_append];omega)
    rw[List.length_append,List.append_assoc] at ih
    exact ih
  show Iy (Bp (N+1)) M (Gw (Bp (N+1)) M w) (.ofNat (B.length+(d+1))) (.ofNat n) (slN (ints B)) acc.length cc (.ofNat lo) (Ay acc)=_
  unfold Iy
  rw[LP,Ak,Hw (by omega),Ak]
  cases B with
  | nil =>
   rw[show Nat.beq (slN (ints [])).n 0=true from rfl,Ak]
   refine Eq.trans (congrArg (fun q=>oo q none _) hcall) ?_
   exact tail
  | cons b B =>
   rw[show Nat.beq (slN (ints (b::B))).n 0=false from rfl,AA]
   obtain⟨g1,g2,g3,g4⟩:=lK (b::B) lo (by omega)
   rw[g1,Ak,g2,Ak,g3,Ak,g4]
   refine Eq.trans (congrArg (fun q=>oo q none _) hcall) ?_
   exact tail
theorem SI {n:Nat} (hn:n≤16):∀ (d N:Nat),XO (N+d+1) d n
 | 0, N => fun B m hm hB => by
  rw[q73]
  have hn2:(slN (ints B)).n=B.length:=by show (ints B).length=_;simp[ints]
  show I9 (Bp (N+0)) L (.ofNat (B.length+0)) (.ofNat n) (slN (ints B))=_
  unfold I9
  have h:Fp 0 m (lQ B)=[[]]:=by cases m <;> rfl
  rw[hn2,DT,show Nat.beq B.length (B.length+0)=true from by simp,Ak,h]
  show _=some (Value.tuple ⟨[Sl.v 1 (LL [B++[]])]⟩)
  rw[List.append_nil];rfl
 | d + 1, N => fun B m hm hB => by
  have hS:=SI hn d N
  have hp:2 ^ m≤65536:=Nat.pow_le_pow_right (n:=2) (by omega) (by omega:m≤16)
  have hn2:(slN (ints B)).n=B.length:=by show (ints B).length=_;simp[ints]
  have hl:=ML (N+d) L d n hn hS B hB m L (lQ B) 0 [] hm (by show _ < 1000000;omega) rfl rfl (by rw[List.length_nil];omega)
  rw[List.nil_append] at hl
  rw[show N+(d+1)+1=(N+d+1)+1 from by omega,q73]
  show I9 (Bp (N+d+1)) L (.ofNat (B.length+(d+1))) (.ofNat n) (slN (ints B))=_
  unfold I9 JN
  rw[hn2,DT,show Nat.beq B.length (B.length+(d+1))=false from Bool.eq_false_iff.2 fun h=>by have:=Nat.eq_of_beq_eq_true h;omega,AA,show (0:Int) = .ofNat 0 from rfl,BI]
  cases hB2:B with
  | nil=>subst hB2;exact hl
  | cons b B' =>
   rw[←hB2]
   have hpos:0 < B.length:=by rw[hB2];simp
   have hw:Aj .i64 (Int.sub (.ofNat B.length) 1) = .ofNat (B.length - 1):=by
    rw[show Int.sub (.ofNat B.length) 1=((B.length - 1:Nat):Int) from by show (B.length:Int) - 1=_;omega]
    exact Oe _ (by omega) (by omega)
   have hlt:B.length - 1 < B.length:=by omega
   have hget:AL (slN (ints B)).cs ((B.length - 1)*1)=some (I (.ofNat B[B.length - 1])):=by
    show AL ((ints B).map I) _=_
    rw[BZ,Nat.mul_one];simp[ints,hlt]
   have hfrm:lQ B=B[B.length - 1]+1:=by
    unfold lQ
    rw[List.getLast?_eq_getElem?,List.getElem?_eq_getElem hlt];rfl
   have hsmall:B[B.length - 1] < 100:=by omega
   rw[decide_eq_true hpos,Ak,hw,Cx,Ac,FM hlt,Ak,hget,Ac,BP,Ac,DC _ (by omega),←hfrm]
   exact hl
end Go.BkQ
set_option maxRecDepth 100000
set_option maxHeartbeats 4000000
namespace Go.BkQ
open Go Go.Sp Go.BkVM Go.BkH
theorem q74 (k:Nat) (args:List Value):Bp (k+1) 74 args=m74 (Bp k) L args:=by kernel_rfl
theorem q30 (k:Nat) (args:List Value):Bp (k+1) 30 args=m30 (Bp k) L args:=by kernel_rfl
theorem WM {x:List Int} {row:List Nat} (hx:row.length=x.length):pick x row=x↔LU x row=0:=by
 constructor
 ·intro h
  apply Nat.eq_of_testBit_eq
  intro j
  rw[Pn,Nat.zero_testBit]
  by_cases hj:j < row.length
  ·have h1 : (pick x row)[j]? = some (x.getD (row.getD j 0) 0) := by
    show (row.map fun k=>x.getD k 0)[j]?=_
    rw[List.getElem?_map,List.getElem?_eq_getElem hj,List.getD_eq_getElem?_getD (l:=row),List.getElem?_eq_getElem hj];rfl
   have h2:x.getD j 0=x.getD (row.getD j 0) 0:=by
    rw[List.getD_eq_getElem?_getD,←h,h1];rw[h];rfl
   rw[h2,decide_eq_false (show ¬ x.getD (row.getD j 0) 0≠x.getD (row.getD j 0) 0 from fun g=>g rfl),Bool.and_false]
  ·rw[decide_eq_false hj];rfl
 ·intro h
  have hl:(pick x row).length=x.length:=by unfold pick;rw[List.length_map,hx]
  refine List.ext_getElem hl fun j h1 h2=>?_
  have hj:j < row.length:=by omega
  have hb:=Pn x row j
  rw[h,Nat.zero_testBit,decide_eq_true hj,Bool.true_and] at hb
  have he:x.getD (row.getD j 0) 0=x.getD j 0:=Classical.byContradiction fun g=>by rw[decide_eq_true g] at hb;cases hb
  have h3:(pick x row)[j]?=some (x.getD (row.getD j 0) 0):=by
   show (row.map fun k=>x.getD k 0)[j]?=_
   rw[List.getElem?_map,List.getElem?_eq_getElem hj,List.getD_eq_getElem?_getD (l:=row),List.getElem?_eq_getElem hj];rfl
  rw[List.getElem?_eq_getElem h1,he] at h3
  injection h3 with h3
  rw[h3,List.getD_eq_getElem?_getD,List.getElem?_eq_getElem h2];rfl
section
variable {r c k f g f2:Nat} {us:List Nat} {x:List Int} {K:List Nat}
theorem SK (pu:Af) (M:Nat) (ih0:Sl→Sl→Int→Int→Int→Int→Sl→Option Value) {row:List Nat} (hx:row.length=x.length) (hx16:x.length≤16) (hr:∀ j∈row,j < x.length) (hK:∀ j∈K,j < x.length) (hKl:K.length≤100) (zi R C Kk:Int) (s4:Sl):∀ (rest:List Nat) (w i:Nat) (b:Bool),K.drop i=rest→rest.length < w →
 Sc pu M ih0 w (sl g x) (sl f2 (ints K)) zi (sl 0 (pick x row)) b (.ofNat i) R C Kk s4=Wo pu M ih0 (sl g x) (sl f2 (ints K)) zi (b || Hy (LU x row) rest) R C Kk s4
 | _,0,_,_,_,h=>by omega
 | [], w + 1, i, b, hd, _ => by
  have h1:K.length≤i:=List.drop_eq_nil_iff.1 hd
  have hn:(sl f2 (ints K)).n=K.length:=by show (ints K).length=_;simp[ints]
  show Qv pu M ih0 (Sc pu M ih0 w) (sl g x) (sl f2 (ints K)) zi (sl 0 (pick x row)) b (.ofNat i) R C Kk s4=_
  unfold Qv
  rw[hn,Jg (by omega),AA,show Hy (LU x row) []=false from rfl,Bool.or_false]
 | j :: rest, w + 1, i, b, hd, hw => by
  have hi:i < K.length:=by
   apply Classical.byContradiction
   intro h
   rw[List.drop_eq_nil_of_le (by omega)] at hd;cases hd
  have hKi:K[i]=j∧K.drop (i+1)=rest:=by
   rw[List.drop_eq_getElem_cons hi] at hd
   injection hd with h1 h2;exact⟨h1,h2⟩
  have hj:j < x.length:=hK j (by rw[←hKi.1];exact List.getElem_mem hi)
  have hn:(sl f2 (ints K)).n=K.length:=by show (ints K).length=_;simp[ints]
  have hget:AL (sl f2 (ints K)).cs (i*1)=some (I (.ofNat j)):=by
   show AL ((ints K).map I) (i*1)=_
   rw[BZ,Nat.mul_one];simp[ints,hi,hKi.1]
  have hpl:j < (pick x row).length:=by unfold pick;rw[List.length_map];omega
  have hrow:j < row.length:=by omega
  have hbit:nt (Bd (pick x row)[j] x[j])=(LU x row).testBit j:=by
   have h3:(pick x row)[j]?=some (x.getD (row.getD j 0) 0):=by
    show (row.map fun k=>x.getD k 0)[j]?=_
    rw[List.getElem?_map,List.getElem?_eq_getElem hrow,List.getD_eq_getElem?_getD (l:=row),List.getElem?_eq_getElem hrow];rfl
   rw[List.getElem?_eq_getElem hpl] at h3
   injection h3 with h3
   have h4:x.getD j 0=x[j]:=by rw[List.getD_eq_getElem?_getD,List.getElem?_eq_getElem hj];rfl
   rw[Pn,decide_eq_true hrow,Bool.true_and,h4,h3,Co]
   by_cases e:x.getD (row.getD j 0) 0=x[j]
   ·rw[decide_eq_true e,decide_eq_false (fun g=>g e)];rfl
   ·rw[decide_eq_false e,decide_eq_true e];rfl
  have hh:Hy (LU x row) (j::rest)=((LU x row).testBit j || Hy (LU x row) rest):=rfl
  have ih:=fun b=>SK pu M ih0 hx hx16 hr hK hKl zi R C Kk s4 rest w (i+1) b hKi.2 (by rw[List.length_cons] at hw;omega)
  show Qv pu M ih0 (Sc pu M ih0 w) (sl g x) (sl f2 (ints K)) zi (sl 0 (pick x row)) b (.ofNat i) R C Kk s4=_
  unfold Qv
  rw[hn,Hw hi,Ak,hh]
  cases b with
  | true =>
   rw[Ak,DC i (by omega),ih true,Bool.true_or,Bool.true_or]
  | false =>
   rw[AA,Bool.false_or]
   have e1:=FM hi
   have e2:an (Nat.blt j (sl 0 (pick x row)).n) true=true:=FM hpl
   have e3:AL (sl 0 (pick x row)).cs (j*1)=some (I (pick x row)[j]):=LX hpl
   have e4:an (Nat.blt j (sl g x).n) true=true:=FM hj
   have e5:AL (sl g x).cs (j*1)=some (I x[j]):=LX hj
   simp only[Cx,Ac,e1,Ak,hget,BP,e2,e3,e4,e5,hbit,DC i (show i < 1000000 by omega)]
   exact ih _
theorem O6 (n M:Nat) (hg:(r,c,us)∈BO) (hx:x.length=r*c) (hK:∀ j∈K,j < x.length) (hKl:K.length≤100) (hM:100 < M):∀ (rest:List Nat) (w i:Nat),us.drop i=rest→rest.length < w →
 Ki (Bp (n+3)) M w (sl g x) (sl f2 (ints K)) (.ofNat i) (.ofNat r) (.ofNat c) (.ofNat k) ⟨len us,f,Ji us⟩=some (.bool (hB (rest.map fun t=>LU x (cellL r c t)) K))
 | _,0,_,_,h=>by omega
 | [], w + 1, i, hd, _ => by
  have h1:us.length≤i:=List.drop_eq_nil_iff.1 hd
  show Qw (Bp (n+3)) M (Ki (Bp (n+3)) M w) (sl g x) (sl f2 (ints K)) (.ofNat i) (.ofNat r) (.ofNat c) (.ofNat k) ⟨len us,f,Ji us⟩=_
  unfold Qw
  rw[show Int.ofNat (Sl.mk (len us) f (Ji us)).n=Int.ofNat us.length from by show Int.ofNat (len us)=_;rw[AV],Jg (by omega),AA];rfl
 | t :: rest, w + 1, i, hd, hw => by
  obtain⟨hget,hd2,hi⟩:=jE hd
  have hp:=Cs hg
  have hrc:r*c≤16:=Nat.mul_le_mul hp.r4 hp.c4
  have h8:=hp.len8
  have ht:t∈us:=List.mem_of_getElem? (Zy hd)
  obtain⟨_,h1,h2⟩:=hp.row t ht
  have e1:Bp (n+3) 10481 [.agg ⟨[I (.ofNat r),I (.ofNat c),I (.ofNat k),Sl.v 1 ⟨len us,f,Ji us⟩]⟩,Sl.v 1 (sl g x),I (.ofNat t)]=some (.tuple ⟨[Sl.v 1 (sl 0 (pick x (cellL r c t)))]⟩):=Xe n g f hg ht hx
  have hpl:(pick x (cellL r c t)).length=x.length:=by unfold pick;rw[List.length_map];omega
  have e2:Bp (n+3) 50 [Sl.v 1 (sl 0 (pick x (cellL r c t))),Sl.v 1 (sl g x)]=some (.bool (decide (pick x (cellL r c t)=x))):=bU (n+2) 0 g hpl (by omega)
  have hs:=SK (g:=g) (f2:=f2) (Bp (n+3)) M (Ki (Bp (n+3)) M w) (row:=cellL r c t) (by omega) (by omega) (fun j hj=>by rw[hx];exact h2 j hj) hK hKl (.ofNat i) (.ofNat r) (.ofNat c) (.ofNat k) ⟨len us,f,Ji us⟩ K M 0 (decide (pick x (cellL r c t)=x)) List.drop_zero (by omega)
  have hdec:decide (pick x (cellL r c t)=x)=(LU x (cellL r c t) == 0):=by
   by_cases h:LU x (cellL r c t)=0
   ·rw[decide_eq_true ((WM (by omega)).2 h),h];rfl
   ·rw[decide_eq_false fun e=>h ((WM (by omega)).1 e),beq_eq_false_iff_ne.2 h]
  have ih:=O6 n M hg hx hK hKl hM rest w (i+1) hd2 (by rw[List.length_cons] at hw;omega)
  have hB1:hB ((t::rest).map fun t=>LU x (cellL r c t)) K=((LU x (cellL r c t) == 0 || Hy (LU x (cellL r c t)) K) && hB (rest.map fun t=>LU x (cellL r c t)) K):=rfl
  rw[hdec] at hs
  rw[hB1]
  have hlen:(Sl.mk (len us) f (Ji us)).n=us.length:=AV us
  show Qw (Bp (n+3)) M (Ki (Bp (n+3)) M w) (sl g x) (sl f2 (ints K)) (.ofNat i) (.ofNat r) (.ofNat c) (.ofNat k) ⟨len us,f,Ji us⟩=_
  unfold Qw
  rw[hlen,Hw hi,Ak,Cx,Ac,FM hi,Ak,show AL (Sl.mk (len us) f (Ji us)).cs (i*1)=some (I (.ofNat t)) from hget,Ac,BP,Ac,e1,Ac,FW,Ac,Dj,EG,Dc,Ac,e2,Ac,BU,Ac,hdec]
  refine Eq.trans hs ?_
  unfold Wo Yo
  rw[DC i (by omega)]
  cases (LU x (cellL r c t) == 0 || Hy (LU x (cellL r c t)) K) with
  | true=>exact ih
  | false=>rfl
theorem SQ (n:Nat) (hg:(r,c,us)∈BO) (hx:x.length=r*c) (hK:∀ j∈K,j < x.length) (hKl:K.length≤100):Bp (n+4) 74 [Jd r c k f us,S g x,Sl.v 1 (sl f2 (ints K))]=some (.bool (hB (Gu r c x us) K)):=by
 have h8:=(Cs hg).len8
 rw[q74]
 exact O6 n L hg hx hK hKl (by show 100 < 1000000;omega) us L 0 List.drop_zero (by show _ < 1000000;omega)
theorem TV (n M size:Nat) (hg:(r,c,us)∈BO) (hx:x.length=r*c) (ih0:Sl→Int→Int→Int→Int→Sl→Option Value) {l:List (List Nat)} (hl:∀ K∈l,(∀ j∈K,j < x.length)∧K.length≤100) (hll:l.length≤65536):∀ (rest:List (List Nat)) (w i:Nat),l.drop i=rest→rest.length < w →
 R6 (Bp (n+4)) M ih0 w (sl g x) (.ofNat size) (LL l) (.ofNat i) (.ofNat r) (.ofNat c) (.ofNat k) ⟨len us,f,Ji us⟩=(match rest.find? (hB (Gu r c x us)) with | some K=>some (.tuple ⟨[Sl.v 1 (slN (ints K)),I 0]⟩) | none=>R5 (Bp (n+4)) M ih0 (sl g x) (.ofNat size) (.ofNat r) (.ofNat c) (.ofNat k) ⟨len us,f,Ji us⟩)
 | _,0,_,_,h=>by omega
 | [], w + 1, i, hd, _ => by
  have h1:l.length≤i:=List.drop_eq_nil_iff.1 hd
  show PI (Bp (n+4)) M ih0 (R6 (Bp (n+4)) M ih0 w) (sl g x) (.ofNat size) (LL l) (.ofNat i) (.ofNat r) (.ofNat c) (.ofNat k) ⟨len us,f,Ji us⟩=_
  unfold PI
  rw[show (LL l).n=l.length from rfl,Jg (by omega),AA];rfl
 | K :: rest, w + 1, i, hd, hw => by
  have hi:i < l.length:=by
   apply Classical.byContradiction
   intro h
   rw[List.drop_eq_nil_of_le (by omega)] at hd;cases hd
  have hKi:l[i]=K∧l.drop (i+1)=rest:=by
   rw[List.drop_eq_getElem_cons hi] at hd
   injection hd with h1 h2;exact⟨h1,h2⟩
  obtain⟨k1,k2⟩:=hl K (by rw[←hKi.1];exact List.getElem_mem hi)
  have hget:AL (LL l).cs (i*1)=some (Sl.v 1 (sl (fl0 (ints K)) (ints K))):=by
   show AL (l.map fun K=>Sl.v 1 (slN (ints K))) (i*1)=_
   rw[BZ,Nat.mul_one,List.getElem?_map,List.getElem?_eq_getElem hi,hKi.1];rfl
  have e1:Bp (n+4) 74 [.agg ⟨[I (.ofNat r),I (.ofNat c),I (.ofNat k),Sl.v 1 ⟨len us,f,Ji us⟩]⟩,Sl.v 1 (sl g x),Sl.v 1 (sl (fl0 (ints K)) (ints K))]=some (.bool (hB (Gu r c x us) K)):=SQ n hg hx k1 k2
  have ih:=TV n M size hg hx ih0 hl hll rest w (i+1) hKi.2 (by rw[List.length_cons] at hw;omega)
  show PI (Bp (n+4)) M ih0 (R6 (Bp (n+4)) M ih0 w) (sl g x) (.ofNat size) (LL l) (.ofNat i) (.ofNat r) (.ofNat c) (.ofNat k) ⟨len us,f,Ji us⟩=_
  unfold PI
  have hn:(LL l).n=l.length:=rfl
  rw[hn,Hw hi,Ak,Cx,Ac,FM hi,Ak,hget,Ac,Dc,Ac,e1,Ac,BU,Ac,List.find?_cons]
  cases hB (Gu r c x us) K with
  | true=>rw[Ak,Ak,Ac,Dc,Ac];rfl
  | false=>rw[AA,DC i (by omega),ih]
theorem O7 (n:Nat) {H:List Nat} (hg:(r,c,us)∈BO) (hx:x.length=r*c) (hb:WI KJ (r*c) (Gu r c x us) H):∀ (d s w:Nat),s+d=H.length→d < w →
 KU (Bp (n+24)) L w (sl g x) (.ofNat s) (.ofNat r) (.ofNat c) (.ofNat k) ⟨len us,f,Ji us⟩=some (.tuple ⟨[Sl.v 1 (slN (ints H)),I 0]⟩)
 | d,s,0,_,h=>by omega
 | d, s, w + 1, hd, hw => by
  have hp:=Cs hg
  have hrc:r*c≤16:=Nat.mul_le_mul hp.r4 hp.c4
  have hHl:H.length≤16:=by
   have:H.length≤(List.range (r*c)).length:=Pm (Fb hb.asc) (Fb List.pairwise_lt_range) fun a ha=>List.mem_range.2 (hb.rng a ha)
   rw[List.length_range] at this;omega
  have hS:XO (n+24) s (r*c):=by
   have:=SI hrc s (n+23 - s)
   rwa [show n+23 - s+s+1=n+24 from by omega] at this
  have hcall:=hS [] (r*c) (by show 0+r*c=r*c;omega) (by simp;omega)
  have hcomb:(Fp s (r*c) (lQ [])).map (([]:List Nat) ++ ·)=Fp s (r*c) 0:=by simp[lQ]
  rw[hcomb] at hcall
  have hl:∀ K∈Fp s (r*c) 0,(∀ j∈K,j < x.length)∧K.length≤100:=fun K hK=>by
   obtain⟨h1,_,h3⟩:=(G9 (r*c) s 0 K).1 hK
   exact⟨fun j hj=>by have:=h3 j hj;omega,by omega⟩
  have hlen:(Fp s (r*c) 0).length≤65536:=Nat.le_trans (Oz (r*c) s 0) (Nat.pow_le_pow_right (n:=2) (by omega) hrc)
  have hf:=TV (k:=k) (f:=f) (g:=g) (n+20) L s hg hx (KU (Bp (n+24)) L w) hl hlen (Fp s (r*c) 0) L 0 List.drop_zero (by show _ < 1000000;omega)
  have hcall':Bp (n+24) 10730 [I (.ofNat s),I (.ofNat x.length),Sl.v 1 (Sl.mk 0 2 [])]=some (.tuple ⟨[Sl.v 1 (LL (Fp s (r*c) 0))]⟩):=by
   rw[hx]
   have h0:([]:List Nat).length+s=s:=Nat.zero_add s
   rw[h0] at hcall
   exact hcall
  show VV (Bp (n+24)) L (KU (Bp (n+24)) L w) (sl g x) (.ofNat s) (.ofNat r) (.ofNat c) (.ofNat k) ⟨len us,f,Ji us⟩=_
  unfold VV
  rw[show Int.ofNat (sl g x).n=Int.ofNat x.length from rfl,hcall',Ac,FW,Ac,Dj,EG,Dc,Ac]
  refine Eq.trans hf ?_
  cases d with
  | zero =>
   have hs:s=H.length:=by omega
   obtain⟨A,B,hAB,hA,hH⟩:=XM ZE ⟨fun h=>by unfold KJ;simp[h];omega,fun h=>by unfold KJ;simpa using h⟩ hb
   rw[hs,hAB]
   have:(A++H::B).find? (hB (Gu r c x us))=some H:=by
    rw[List.find?_append,List.find?_eq_none.2 (fun K hK=>by rw[hA K hK];simp),List.find?_cons,hH];rfl
   rw[this]
  | succ d =>
   have:(Fp s (r*c) 0).find? (hB (Gu r c x us))=none:=List.find?_eq_none.2 fun K hK=>by rw[cO hb (by omega) K hK];simp
   rw[this]
   show R5 (Bp (n+24)) L (KU (Bp (n+24)) L w) (sl g x) (.ofNat s) (.ofNat r) (.ofNat c) (.ofNat k) ⟨len us,f,Ji us⟩=_
   unfold R5
   rw[DC s (by omega)]
   exact O7 n hg hx hb d (s+1) w (by omega) (by omega)
end
end Go.BkQ
set_option maxRecDepth 100000
set_option maxHeartbeats 4000000
namespace Go.BkQ
open Go Go.Sp Go.BkVM Go.BkH
def I8 (m:Nat):Int→List Int→Int
 | _,[]=>0
 | last,z::r=>if 0≤z∧z≤(m:Int) - 1 then (if last < z then I8 m z r else 7) else 2
theorem WN {m:Nat}:∀ {ys:List Int} {last:Int},I8 m last ys=0→∃ K:List Nat,ys=ints K∧K.Pairwise (· < ·)∧(∀ k∈K,k < m)∧∀ k∈K,last < .ofNat k
 | [],_,_=>⟨[],rfl,List.Pairwise.nil,fun _ h=>absurd h List.not_mem_nil,fun _ h=>absurd h List.not_mem_nil⟩
 | z :: r, last, h => by
  unfold I8 at h
  by_cases h1:0≤z∧z≤(m:Int) - 1
  ·rw[if_pos h1] at h
   by_cases h2:last < z
   ·rw[if_pos h2] at h
    obtain⟨K,rfl,k1,k2,k3⟩:=WN h
    obtain⟨a,rfl⟩:=Int.eq_ofNat_of_zero_le h1.1
    refine⟨a::K,rfl,List.pairwise_cons.2 ⟨fun b hb=>Int.ofNat_lt.1 (k3 b hb),k1⟩,fun b hb=>?_,fun b hb=>?_⟩
    ·rcases List.mem_cons.1 hb with rfl | hb
     ·have:=h1.2;omega
     ·exact k2 b hb
    ·rcases List.mem_cons.1 hb with rfl | hb
     ·exact h2
     ·have:=k3 b hb;exact Int.lt_trans h2 this
   ·rw[if_neg h2] at h;cases h
  ·rw[if_neg h1] at h;cases h
theorem WO (K:List Nat):lJ 0 K=BkH.setL K:=by
 apply Nat.eq_of_testBit_eq
 intro j
 rw[ZF,Nat.zero_testBit,Bool.false_or,QR]
theorem Ab4 {C K:List Nat} {n:Nat} (hC:∀ c∈C,c < 2 ^ n) (hK:K.Pairwise (· < ·)) (hn:∀ k∈K,k < n):nP C (lJ 0 K)=hB C K:=by
 have e:nP C (lJ 0 K)=true↔hB C K=true:=by
  rw[nQ hC,UT,WO,cK hK hn]
 cases h1:nP C (lJ 0 K) with
 | true=>exact(e.1 h1).symm
 | false =>
  cases h2:hB C K with
  | false=>rfl
  | true=>rw[e.2 h2] at h1;cases h1
theorem Ajt (k:Nat) (args:List Value):Bp (k+1) 31 args=m31 (Bp k) L args:=by kernel_rfl
theorem Aju (k:Nat) (args:List Value):Bp (k+1) 32 args=m32 (Bp k) L args:=by kernel_rfl
theorem Ajv (k:Nat) (args:List Value):Bp (k+1) 29 args=m29 (Bp k) L args:=by kernel_rfl
theorem p9c (k:Nat) (args:List Value):Bp (k+1) 9 args=m9 (Bp k) L args:=by kernel_rfl
theorem K9 {m:Nat} (h:m≤1000000):Aj .i64 (Int.sub (.ofNat m) 1)=(m:Int) - 1:=by
 show Aj .i64 ((m:Int) - 1)=_
 rw[IM,IntKind.wrap_i64];omega
section
variable {r c k f g f2:Nat} {us:List Nat} {x:List Int}
theorem O8 (n M:Nat) (hx16:x.length≤16) {ys:List Int} (hys:ys.length≤100) (cs:List Value):∀ (rest:List Int) (w i z:Nat) (last:Int),ys.drop i=rest→rest.length < w→z < 65536 →
 PN (Bp (n+1)) M w (sl g x) 0 cs last (.ofNat z) (sl f2 ys) (.ofNat ys.length) (.ofNat i)=if I8 x.length last rest=0 then R7 (Bp (n+1)) M (sl g x) 0 cs (.ofNat (lJ z (rest.map Int.toNat))) else some (I (I8 x.length last rest))
 | _,0,_,_,_,_,h,_=>by omega
 | [], w + 1, i, z, last, hd, _, _ => by
  have h1:ys.length≤i:=List.drop_eq_nil_iff.1 hd
  show PM (Bp (n+1)) M (PN (Bp (n+1)) M w) (sl g x) 0 cs last (.ofNat z) (sl f2 ys) (.ofNat ys.length) (.ofNat i)=_
  unfold PM
  rw[Jg (by omega),AA,show I8 x.length last []=0 from rfl,if_pos rfl];rfl
 | y :: rest, w + 1, i, z, last, hd, hw, hz => by
  have hi:i < ys.length:=by
   apply Classical.byContradiction
   intro h
   rw[List.drop_eq_nil_of_le (by omega)] at hd;cases hd
  have hYi:ys[i]=y∧ys.drop (i+1)=rest:=by
   rw[List.drop_eq_getElem_cons hi] at hd
   injection hd with h1 h2;exact⟨h1,h2⟩
  have hget:AL (sl f2 ys).cs (i*1)=some (I y):=by rw[←hYi.1];exact LX hi
  have hbt:=QK n 0 y (Aj .i64 (Int.sub (.ofNat x.length) 1))
  rw[K9 (by omega)] at hbt
  show PM (Bp (n+1)) M (PN (Bp (n+1)) M w) (sl g x) 0 cs last (.ofNat z) (sl f2 ys) (.ofNat ys.length) (.ofNat i)=_
  unfold PM
  rw[Hw hi,Ak,Cx,Ac,show an (Nat.blt i (sl f2 ys).n) true=true from FM hi,Ak,hget,Ac,BP,Ac,show Int.ofNat (sl g x).n=Int.ofNat x.length from rfl,K9 (by omega),hbt,Ac,BU,Ac]
  have ec:I8 x.length last (y::rest)=if 0≤y∧y≤(x.length:Int) - 1 then (if last < y then I8 x.length y rest else 7) else 2:=rfl
  rw[ec]
  by_cases h1:0≤y∧y≤(x.length:Int) - 1
  ·rw[if_pos h1,decide_eq_true h1,show nt true=false from rfl,AA,DL]
   by_cases h2:last < y
   ·obtain⟨a,rfl⟩:=Int.eq_ofNat_of_zero_le h1.1
    have ha:a < 16:=by have:=h1.2;omega
    rw[if_pos h2,decide_eq_true h2,show nt true=false from rfl,AA]
    show oo (EA (Int.ofNat a)) none _=_
    rw[Cx,Ac,AhQ ha hz,DC i (by omega)]
    exact O8 n M hx16 hys cs rest w (i+1) (z ||| 2 ^ a) (.ofNat a) hYi.2 (by rw[List.length_cons] at hw;omega) (Nat.or_lt_two_pow (n:=16) hz (kV ha))
   ·rw[if_neg h2,decide_eq_false h2,show nt false=true from rfl,Ak,if_neg (by decide)]
  ·rw[if_neg h1,decide_eq_false h1,show nt false=true from rfl,Ak,if_neg (by decide)]
theorem XP (pu:Af) (M w:Nat) (s s2 s4:Sl) {e i R C Kk:Int} (he:e≠0):Ke pu M (w+1) s s2 e i R C Kk s4=some (I e):=by
 have h0:Bd e 0=false:=by rw[Co];exact decide_eq_false he
 show MM pu M (Ke pu M w) s s2 e i R C Kk s4=_
 unfold MM PQ PP R8 PO
 rw[h0]
 cases AY i (Int.ofNat s2.n) <;> rfl
theorem TW (n M:Nat) (hx16:x.length≤16) {ys:List Int} (hys:ys.length≤100) (R C Kk:Int) (s4:Sl):∀ (rest:List Int) (w i:Nat) (last:Int),ys.drop i=rest→rest.length+1 < w→(i=0→last = -1)→(∀ h:i - 1 < ys.length,0 < i→last=ys[i - 1]) →
 Ke (Bp (n+1)) M w (sl g x) (sl f2 ys) 0 (.ofNat i) R C Kk s4=if I8 x.length last rest=0 then PP (Bp (n+1)) M (sl g x) (sl f2 ys) 0 R C Kk s4 else some (I (I8 x.length last rest))
 | _,0,_,_,_,h,_,_=>by omega
 | [], w + 1, i, last, hd, _, _, _ => by
  have h1:ys.length≤i:=List.drop_eq_nil_iff.1 hd
  show MM (Bp (n+1)) M (Ke (Bp (n+1)) M w) (sl g x) (sl f2 ys) 0 (.ofNat i) R C Kk s4=_
  unfold MM PQ
  rw[show Int.ofNat (sl f2 ys).n=Int.ofNat ys.length from rfl,Jg (by omega),AA,AA,show I8 x.length last []=0 from rfl,if_pos rfl]
 | y :: rest, w + 1, i, last, hd, hw, hl0, hl1 => by
  have hi:i < ys.length:=by
   apply Classical.byContradiction
   intro h
   rw[List.drop_eq_nil_of_le (by omega)] at hd;cases hd
  have hYi:ys[i]=y∧ys.drop (i+1)=rest:=by
   rw[List.drop_eq_getElem_cons hi] at hd
   injection hd with h1 h2;exact⟨h1,h2⟩
  have hwl:rest.length+1 < w:=by rw[List.length_cons] at hw;omega
  obtain⟨w',rfl⟩:∃ w',w=w'+1:=⟨w - 1,by omega⟩
  have hget:AL (sl f2 ys).cs (i*1)=some (I y):=by rw[←hYi.1];exact LX hi
  have hbt:=Sr n y 0 (Aj .i64 (Int.sub (.ofNat x.length) 1))
  rw[K9 (by omega)] at hbt
  show MM (Bp (n+1)) M (Ke (Bp (n+1)) M (w'+1)) (sl g x) (sl f2 ys) 0 (.ofNat i) R C Kk s4=_
  unfold MM PQ
  rw[show Int.ofNat (sl f2 ys).n=Int.ofNat ys.length from rfl,Hw hi,Ak,show Bd (0:Int) 0=true from rfl,Ak,Cx,Ac,show an (Nat.blt i (sl f2 ys).n) true=true from FM hi,Ak,hget,Ac,BP,Ac,show Int.ofNat (sl g x).n=Int.ofNat x.length from rfl,K9 (by omega),hbt,Ac,BU,Ac]
  have ec:I8 x.length last (y::rest)=if 0≤y∧y≤(x.length:Int) - 1 then (if last < y then I8 x.length y rest else 7) else 2:=rfl
  rw[ec]
  have ih:=TW n M hx16 hys R C Kk s4 rest (w'+1) (i+1) y hYi.2 hwl (fun h=>by omega) (fun h _=>by rw[←hYi.1];rfl)
  by_cases h1:0≤y∧y≤(x.length:Int) - 1
  ·rw[if_pos h1,decide_eq_true h1,show nt true=false from rfl,AA,show (0:Int) = .ofNat 0 from rfl,BI]
   by_cases h0:i=0
   ·have hlast:=hl0 h0
    subst h0
    rw[show decide (0 < 0)=false from rfl,AA,if_pos (by rw[hlast];omega:last < y)]
    unfold R9 OU
    rw[AA,DC 0 (by omega)]
    exact ih
   ·have hip:i - 1 < ys.length:=by omega
    have hlast:=hl1 hip (by omega)
    have hw1:Aj .i64 (Int.sub (.ofNat i) 1) = .ofNat (i - 1):=by
     rw[K9 (by omega)]
     show (i:Int) - 1=((i - 1:Nat):Int)
     omega
    have hget1:AL (sl f2 ys).cs ((i - 1)*1)=some (I last):=by rw[hlast];exact LX hip
    rw[decide_eq_true (by omega),Ak,Ak,Ac,BP,Ac,hw1,Cx,Ac,show an (Nat.blt (i - 1) (sl f2 ys).n) true=true from FM hip,Ak,hget1,Ac,BP,Ac,DL]
    unfold R9 OU
    rw[DC i (by omega)]
    by_cases h2:last < y
    ·rw[if_pos h2,decide_eq_true h2,show nt true=false from rfl,AA]
     exact ih
    ·rw[if_neg h2,decide_eq_false h2,show nt false=true from rfl,Ak,if_neg (by decide)]
     exact XP _ M w' _ _ _ (by decide)
  ·rw[if_neg h1,decide_eq_false h1,show nt false=true from rfl,Ak,if_neg (by decide)]
   unfold OU
   exact XP _ M w' _ _ _ (by decide)
end
section
variable (n f g:Nat) {R C K:Int} {ts x:List Int}
theorem XQ (f2:Nat) {ys:List Int} (hl:ts.length≤100) (hx:x.length < 900000) (hys:ys.length≤100):∃ e:Int,
 Bp (n+25) 31 [.agg ⟨[I R,I C,I K,Sl.v 1 (sl f ts)]⟩,Sl.v 1 (sl g x),Sl.v 1 (sl f2 ys)]=some (I e)∧Bp (n+25) 32 [.agg ⟨[I R,I C,I K,Sl.v 1 (sl f ts)]⟩,Sl.v 1 (sl g x),Sl.v 1 (sl f2 ys)]=some (I e):=by
 rw[Ajt,Aju]
 have hv:Bp (n+24) 46 [.agg ⟨[I R,I C,I K,Sl.v 1 (sl f ts)]⟩,Sl.v 1 (sl g x)]=some (I (Eo R C K ts x)):=O1 (n+17) f g hl hx
 by_cases h:Eo R C K ts x=0
 ·rw[h] at hv
  obtain⟨r,c,k,us,rfl,rfl,rfl,rfl,hg,hk,hR⟩:=WF h
  have hp:=Cs hg
  have h8:=hp.len8
  have hrc:r*c≤16:=Nat.mul_le_mul hp.r4 hp.c4
  have h1:=Ow (n+17) f g hg hk hR
  rw[←QN] at h1
  have h1':Bp (n+24) 43 [.agg ⟨[I (.ofNat r),I (.ofNat c),I (.ofNat k),Sl.v 1 (sl f (us.map Int.ofNat))]⟩,(Sl.v 1 (Sl.mk 1 0 (Aq (1*1) (Am 0 ([(Sl.v 1 (sl g x))]:List Value)))))]=some (.tuple ⟨[Cv 0 (Ha r c k f us),I 0]⟩):=h1
  have hA:=O8 (g:=g) (f2:=f2) (x:=x) (n+23) L (by rw[hR.1];exact hrc) hys (Ha r c k f us) ys L 0 0 (-1) List.drop_zero (by show _ < 1000000;omega) (by omega)
  have hB':=TW (g:=g) (f2:=f2) (x:=x) (n+23) L (by rw[hR.1];exact hrc) hys (.ofNat r) (.ofNat c) (.ofNat k) (sl f (us.map Int.ofNat)) ys L 0 (-1) List.drop_zero (by show _ < 1000000;omega) (fun _=>rfl) (fun _ h=>by omega)
  have key:∃ e:Int,PN (Bp (n+24)) L L (sl g x) 0 (Ha r c k f us) (-1) 0 (sl f2 ys) (.ofNat ys.length) 0=some (I e)∧Ke (Bp (n+24)) L L (sl g x) (sl f2 ys) 0 0 (.ofNat r) (.ofNat c) (.ofNat k) (sl f (us.map Int.ofNat))=some (I e):=by
   by_cases hE:I8 x.length (-1) ys=0
   ·rw[if_pos hE] at hA hB'
    obtain⟨K,hyK,k1,k2,_⟩:=WN hE
    have htn:ys.map Int.toNat=K:=by rw[hyK];unfold ints;rw[List.map_map];simp[Function.comp_def]
    rw[htn] at hA
    have hKl:K.length≤100:=by rw[hyK] at hys;simpa [ints] using hys
    have hK16:∀ j∈K,j < r*c:=fun j hj=>by have:=k2 j hj;rw[hR.1] at this;exact this
    have hCl:∀ e∈Gu r c x us,e < 2 ^ (r*c):=fun e he=>by
     unfold Gu at he
     obtain⟨t,ht,rfl⟩:=List.mem_map.1 he
     have:=UO x (cellL r c t)
     rwa [(hp.row t ht).2.1] at this
    have hs16:lJ 0 K < 65536:=by
     rw[WO]
     exact Nat.lt_of_lt_of_le (nR hK16) (Nat.pow_le_pow_right (n:=2) (by omega) hrc)
    have hC:=QS (k:=k) (f:=f) (g:=g) (n+23) L hg hR.1 hs16 us L 0 List.drop_zero (by show _ < 1000000;omega)
    have hsh:nP (us.map fun t=>LU x (cellL r c t)) (lJ 0 K)=hB (Gu r c x us) K:=Ab4 hCl k1 hK16
    rw[hsh] at hC
    have hD:Bp (n+24) 74 [.agg ⟨[I (.ofNat r),I (.ofNat c),I (.ofNat k),Sl.v 1 (sl f (us.map Int.ofNat))]⟩,Sl.v 1 (sl g x),Sl.v 1 (sl f2 (ints K))]=some (.bool (hB (Gu r c x us) K)):=by
     rw[Wz]
     exact SQ (k:=k) (f:=f) (g:=g) (f2:=f2) (n+20) hg hR.1 k2 hKl
    refine⟨bb (hB (Gu r c x us) K) 0 14,?_,?_⟩
    ·refine Eq.trans hA ?_
     unfold R7
     rw[show AL (Ha r c k f us) (0+0+3)=some (Sl.v 1 ⟨len us,f,Ji us⟩) from rfl,Ac,Dc,Ac,show (Sl.mk (len us) f (Ji us)).n=us.length from AV us]
     exact hC
    ·refine Eq.trans hB' ?_
     unfold PP R8 PO
     rw[show Bd (0:Int) 0=true from rfl,Ak,hyK,hD,Ac,BU,Ac]
     cases hB (Gu r c x us) K <;> rfl
   ·rw[if_neg hE] at hA hB'
    exact⟨I8 x.length (-1) ys,hA,hB'⟩
  obtain⟨e,ke1,ke2⟩:=key
  refine⟨e,?_,?_⟩
  ·show ZO (Bp (n+24)) L (.ofNat r) (.ofNat c) (.ofNat k) (sl f (us.map Int.ofNat)) (sl g x) (sl f2 ys)=_
   unfold ZO
   simp only[h1',Ac,FW,Dj,EG,jK,NA,Ak,BP,show nt (Bd (0:Int) 0)=false from rfl,AA]
   exact ke1
  ·show ZP (Bp (n+24)) L (.ofNat r) (.ofNat c) (.ofNat k) (sl f (us.map Int.ofNat)) (sl g x) (sl f2 ys)=_
   unfold ZP
   rw[hv,Ac,BP,Ac]
   exact ke2
 ·have h1:Bp (n+24) 43 [.agg ⟨[I R,I C,I K,Sl.v 1 (sl f ts)]⟩,(Sl.v 1 (Sl.mk 1 0 (Aq (1*1) (Am 0 ([(Sl.v 1 (sl g x))]:List Value)))))]=some (.tuple ⟨[.pointer none,I (Eo R C K ts x)]⟩):=O3 (n+17) f g (R:=R) (C:=C) (K:=K) hl hx h
  refine⟨Eo R C K ts x,?_,?_⟩
  ·show ZO (Bp (n+24)) L R C K (sl f ts) (sl g x) (sl f2 ys)=_
   unfold ZO
   simp only[h1,Ac,FW,Dj,EG,WH,Nz,AA,SC,Ak,BP,Co,decide_eq_false h,show nt false=true from rfl]
  ·show ZP (Bp (n+24)) L R C K (sl f ts) (sl g x) (sl f2 ys)=_
   unfold ZP
   rw[hv,Ac,BP,Ac]
   exact XP (Bp (n+24)) L 999999 _ _ _ h
theorem XR (hl:ts.length≤100) (hx:x.length < 900000):∃ (fl:Nat) (l:List Int) (e:Int),l.length < 900000 ∧
 Bp (n+25) 29 [.agg ⟨[I R,I C,I K,Sl.v 1 (sl f ts)]⟩,Sl.v 1 (sl g x)]=some (.tuple ⟨[Sl.v 1 (sl fl l),I e]⟩)∧Bp (n+25) 30 [.agg ⟨[I R,I C,I K,Sl.v 1 (sl f ts)]⟩,Sl.v 1 (sl g x)]=some (.tuple ⟨[Sl.v 1 (sl fl l),I e]⟩):=by
 have hv:Bp (n+24) 46 [.agg ⟨[I R,I C,I K,Sl.v 1 (sl f ts)]⟩,Sl.v 1 (sl g x)]=some (I (Eo R C K ts x)):=O1 (n+17) f g hl hx
 by_cases h:Eo R C K ts x=0
 ·rw[h] at hv
  obtain⟨r,c,k,us,rfl,rfl,rfl,rfl,hg,hk,hR⟩:=WF h
  have hp:=Cs hg
  have hrc:r*c≤16:=Nat.mul_le_mul hp.r4 hp.c4
  obtain⟨H,hb,h1⟩:=nO (n+11) f g hg hk hR
  have hHl:(ints H).length≤16:=by
   have e:(ints H).length=H.length:=by simp[ints]
   have:H.length≤(List.range (r*c)).length:=Pm (Fb hb.asc) (Fb List.pairwise_lt_range) fun a ha=>List.mem_range.2 (hb.rng a ha)
   rw[List.length_range] at this;omega
  have h2 := O7 (k := k) (f := f) (g := g) n hg hR.1 hb H.length 0 L (by omega) (by
   have e:(ints H).length=H.length:=by simp[ints]
   show _ < 1000000;omega)
  refine⟨fl0 (ints H),ints H,0,by omega,?_,?_⟩
  ·rw[←QN] at h1;exact h1
  ·rw[q30]
   show ZN (Bp (n+24)) L (.ofNat r) (.ofNat c) (.ofNat k) (sl f (us.map Int.ofNat)) (sl g x)=_
   unfold ZN
   rw[hv,Ac,BP,Ac,show nt (Bd (0:Int) 0)=false from rfl,AA,Wz]
   exact h2
 ·have h1:Bp (n+24) 43 [.agg ⟨[I R,I C,I K,Sl.v 1 (sl f ts)]⟩,(Sl.v 1 (Sl.mk 1 0 (Aq (1*1) (Am 0 ([(Sl.v 1 (sl g x))]:List Value)))))]=some (.tuple ⟨[.pointer none,I (Eo R C K ts x)]⟩):=O3 (n+17) f g (R:=R) (C:=C) (K:=K) hl hx h
  refine⟨2,[],Eo R C K ts x,by simp,?_,?_⟩
  ·rw[Ajv]
   show ZM (Bp (n+24)) L R C K (sl f ts) (sl g x)=_
   unfold ZM
   simp only[h1,Ac,FW,Dj,EG,WH,Nz,AA,SC,Ak,BP,Co,decide_eq_false h,show nt false=true from rfl]
   rfl
  ·rw[q30]
   show ZN (Bp (n+24)) L R C K (sl f ts) (sl g x)=_
   unfold ZN
   rw[hv,Ac,BP,Ac,Co,decide_eq_false h,show nt false=true from rfl,Ak];rfl
theorem cellsLaw (f2:Nat) {ys:List Int}:Bp (n+26) 6 [.agg ⟨[I R,I C,I K,S f ts]⟩,S g x,S f2 ys]=some (.bool true):=by
 have e:Bp (n+26) 6 [.agg ⟨[I R,I C,I K,S f ts]⟩,S g x,S f2 ys]=m6_ (Bp (n+25)) L R C K (sl f ts) (sl g x) (sl f2 ys):=by kernel_rfl
 rw[e]
 unfold m6_ VU
 have e1:Bp (n+25) 9 [(.agg ⟨[(.int .i64 R),(.int .i64 C),(.int .i64 K),(Sl.v 1 (sl f ts))]⟩),(Sl.v 1 (sl g x)),(Sl.v 1 (sl f2 ys))]=some (.bool (decide (30 < ts.length∨60 < x.length∨60 < ys.length))):=by
  rw[p9c]
  show bb (AY (.ofNat 30) (.ofNat ts.length)) (some (Value.bool true)) (bb (AY (.ofNat 60) (.ofNat x.length)) (some (Value.bool true)) (some (Value.bool (AY (.ofNat 60) (.ofNat ys.length)))))=_
  rw[BI,BI,BI]
  by_cases h1:30 < ts.length
  ·rw[decide_eq_true h1,decide_eq_true (.inl h1:30 < ts.length∨60 < x.length∨60 < ys.length)];rfl
  ·rw[decide_eq_false h1]
   by_cases h2:60 < x.length
   ·rw[decide_eq_true h2,decide_eq_true (.inr (.inl h2):30 < ts.length∨60 < x.length∨60 < ys.length)];rfl
   ·rw[decide_eq_false h2]
    by_cases h3:60 < ys.length
    ·rw[decide_eq_true h3,decide_eq_true (.inr (.inr h3):30 < ts.length∨60 < x.length∨60 < ys.length)];rfl
    ·rw[decide_eq_false h3,show decide (30 < ts.length∨60 < x.length∨60 < ys.length)=false from decide_eq_false (by omega)];rfl
 have e10:Bp (n+25) 10 []=some (.bool true):=by rw[p10];rfl
 rw[e1,Ac,BU,Ac]
 by_cases hl:30 < ts.length∨60 < x.length∨60 < ys.length
 ·rw[decide_eq_true hl,Ak,e10];rfl
 ·rw[decide_eq_false hl,AA]
  obtain⟨fl,l,e2,hll,t1,t2⟩:=XR n f g (R:=R) (C:=C) (K:=K) (ts:=ts) (x:=x) (by omega) (by omega)
  obtain⟨e3,s1,s2⟩:=XQ n f g (R:=R) (C:=C) (K:=K) (ts:=ts) (x:=x) f2 (ys:=ys) (by omega) (by omega) (by omega)
  have e17:Bp (n+25) 17 [Sl.v 1 (sl fl l),Sl.v 1 (sl fl l)]=some (.bool true):=by
   have:=mK (n+24) fl fl (a:=l) (b:=l) hll
   rw[decide_eq_true rfl] at this;exact this
  simp only[t1,t2,Ac,FW,Dj,EG,Dc,BP,e17,BU,Ak,Co,decide_eq_true,s1,s2,e10]
end
end Go.BkQ
