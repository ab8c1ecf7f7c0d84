/- Made from wip. -/
import Derived.Test.YtokbaaeimejjlaaDoorBkOT5x

set_option maxRecDepth 100000
set_option maxHeartbeats 4000000
namespace Go.BkQ
open Go Go.Sp Go.BkOM
def JP (l:List (List Int)):Prop:=l.Pairwise fun a b=>Gp a b=true
theorem SQ {y:List Int}:∀ {r:List (List Int)} {x:List Int},x∈y::FK y r↔x∈y::r
 | [],_=>Iff.rfl
 | z :: r, x => by
  unfold FK
  by_cases h:z=y
  ·subst h
   rw[if_pos rfl,SQ (r:=r)]
   simp
  ·rw[if_neg h]
   rw[List.mem_cons,SQ (y:=z) (r:=r),←List.mem_cons]
theorem K5 {m:Nat}:∀ {y:List Int} {r:List (List Int)},Gu (y::r)→CY m (y::r)→JP (y::FK y r)
 | _,[],_,_=>List.pairwise_singleton _ _
 | y, z :: r, hs, he => by
  have hy:y.length=m:=he y (by simp)
  have hz:z.length=m:=he z (by simp)
  have h1:=List.pairwise_cons.1 hs
  unfold FK
  by_cases h:z=y
  ·subst h
   rw[if_pos rfl]
   exact K5 h1.2 fun x hx=>he x (List.mem_cons_of_mem _ hx)
  ·rw[if_neg h]
   have ih:=K5 h1.2 (m:=m) fun x hx=>he x (List.mem_cons_of_mem _ hx)
   have hlt:Gp y z=true:=LZ (by rw[hz,hy]) h (h1.1 z (by simp))
   refine List.pairwise_cons.2 ⟨fun x hx=>?_,ih⟩
   rcases List.mem_cons.1 hx with rfl | hx
   ·exact hlt
   ·exact Gv hlt ((List.pairwise_cons.1 ih).1 x hx)
theorem M8:∀ {a b:List (List Int)},JP a→JP b→(∀ x,x∈a↔x∈b)→a=b
 | [],[],_,_,_=>rfl
 | [],y::b,_,_,h=>by have:=(h y).2 (by simp);simp at this
 | x::a,[],_,_,h=>by have:=(h x).1 (by simp);simp at this
 | x :: a, y :: b, ha, hb, h => by
  have h1:=List.pairwise_cons.1 ha
  have h2:=List.pairwise_cons.1 hb
  have e:x=y:=by
   rcases List.mem_cons.1 ((h x).1 (by simp)) with e | hx
   ·exact e
   ·rcases List.mem_cons.1 ((h y).2 (by simp)) with e | hy
    ·exact e.symm
    ·have h3:=Gv (h2.1 x hx) (h1.1 y hy)
     rw[Gt] at h3;cases h3
  subst e
  congr 1
  refine M8 h1.2 h2.2 fun z=>⟨fun hz=>?_,fun hz=>?_⟩
  ·rcases List.mem_cons.1 ((h z).1 (List.mem_cons_of_mem _ hz)) with rfl | h3
   ·have:=h1.1 z hz;rw[Gt] at this;cases this
   ·exact h3
  ·rcases List.mem_cons.1 ((h z).2 (List.mem_cons_of_mem _ hz)) with rfl | h3
   ·have:=h2.1 z hz;rw[Gt] at this;cases this
   ·exact h3
theorem JP.sorted {l:List (List Int)} (h:JP l):Gu l:=h.imp fun h=>JO h
theorem JP.nodup {l:List (List Int)} (h:JP l):l.Nodup:=h.imp fun h e=>by subst e;rw[Gt] at h;cases h
theorem FM {m:Nat} {l:List (List Int)} (he:CY m l):JP (PI (Ez l))∧∀ x,x∈PI (Ez l)↔x∈l:=by
 obtain⟨hp,hs⟩:=K3 he
 have he2:=Pt he
 cases h:Ez l with
 | nil =>
  rw[h] at hp
  obtain rfl:=List.Perm.nil_eq hp
  exact⟨List.Pairwise.nil,fun x=>Iff.rfl⟩
 | cons y r =>
  rw[h] at hs hp he2
  exact⟨K5 hs he2,fun x=>(SQ (y:=y) (r:=r)).trans hp.mem_iff⟩
end Go.BkQ
set_option maxRecDepth 100000
set_option maxHeartbeats 4000000
namespace Go.BkQ
open Go Go.Sp Go.BkOM
def Ka:List Int→List (List Int)→List Int
 | b,[]=>b
 | b,y::r=>Ka (if Gp y b then y else b) r
theorem PL:∀ {r:List (List Int)} {b:List Int},Ka b r∈b::r
 | [],b=>by simp[Ka]
 | y :: r, b => by
  have h:=PL (r:=r) (b:=if Gp y b then y else b)
  unfold Ka
  rcases List.mem_cons.1 h with h | h
  ·rw[h];split <;> simp
  ·exact List.mem_cons_of_mem _ (List.mem_cons_of_mem _ h)
theorem XL {m:Nat}:∀ {r:List (List Int)} {b:List Int},CY m (b::r)→∀ x∈b::r,dP (Ka b r) x
 | [], b, _, x, hx => by
  obtain rfl:=List.mem_singleton.1 hx
  exact Gt _
 | y :: r, b, he, x, hx => by
  have hb:b.length=m:=he b (by simp)
  have hy:y.length=m:=he y (by simp)
  have he2:CY m ((if Gp y b then y else b)::r):=fun z hz=>by
   rcases List.mem_cons.1 hz with rfl | hz
   ·split
    ·exact hy
    ·exact hb
   ·exact he z (by simp[hz])
  have ih:=XL he2
  have hmn:(Ka (if Gp y b then y else b) r).length=m:=he2 _ PL
  unfold Ka
  have h0:=ih _ List.mem_cons_self
  have hxm:x.length=m:=he x hx
  rcases List.mem_cons.1 hx with rfl | hx
  ·refine MU hmn (he2 _ List.mem_cons_self) hxm h0 ?_
   by_cases h:Gp y x=true
   ·rw[if_pos h];exact JO h
   ·rw[if_neg h];exact Gt _
  ·rcases List.mem_cons.1 hx with rfl | hx
   ·refine MU hmn (he2 _ List.mem_cons_self) hxm h0 ?_
    by_cases h:Gp x b=true
    ·rw[if_pos h];exact Gt _
    ·rw[if_neg h];unfold dP;simpa using h
   ·exact ih x (List.mem_cons_of_mem _ hx)
end Go.BkQ
set_option maxRecDepth 100000
set_option maxHeartbeats 4000000
namespace Go.BkQ
open Go Go.Sp Go.BkOM
theorem TV (off:Nat) (cs:List Value):Pv (Cv off cs)=some ⟨off,cs⟩:=rfl
theorem NA {α:Type} (a:α):isS (some a)=true:=rfl
theorem dX:Au (fun p:Nat×Nat×List Nat=>cO p.2.2 0) Bq=true:=by kernel_rfl
theorem Kb {r c:Nat} {us:List Nat} (hg:(r,c,us)∈Bq):0∈us:=by
 have h:=dX
 rw[Bh,List.all_eq_true] at h
 exact Pp.1 (h _ hg)
theorem cell0 {r c i:Nat} (hc:1≤c):WH r c 0 i=i:=by
 obtain⟨d,rfl⟩:∃ d,c=d+1:=⟨c - 1,by omega⟩
 show i / (d+1)*(d+1)+i % (d+1)=i
 exact Nat.div_add_mod' i (d+1)
theorem dY {r c:Nat} {x:List Int} (hc:1≤c) (hx:x.length=r*c):pick x (cellL r c 0)=x:=by
 apply List.ext_getElem
 ·rw[IB,UK];simp[hx]
 ·intro i h1 h2
  simp only[pick,UK,List.getElem_map,List.getElem_range]
  rw[cell0 hc]
  simp[List.getD_eq_getElem?_getD,h2]
theorem dZ {r c:Nat} {us:List Nat} {x:List Int} (hg:(r,c,us)∈Bq) (hx:x.length=r*c):x∈BB r c x us:=
 List.mem_map.2 ⟨0,Kb hg,dY (Co hg).c1 hx⟩
noncomputable def M9 (r c:Nat) (x:List Int) (us:List Nat):List (List Int):=PI (Ez (BB r c x us))
theorem PM {r c:Nat} {us:List Nat} {x:List Int} (hg:(r,c,us)∈Bq) (hx:x.length=r*c):∃ t,M9 r c x us=Ka x (BB r c x us)::t:=by
 have he:CY (r*c) (BB r c x us):=Dr hg fun t h=>h
 obtain⟨h1,h2⟩:=FM he
 have hself:=dZ hg hx
 have heb:CY (r*c) (x::BB r c x us):=fun y hy=>by
  rcases List.mem_cons.1 hy with rfl | hy
  ·exact hx
  ·exact he y hy
 have hm:Ka x (BB r c x us)∈BB r c x us:=by
  rcases List.mem_cons.1 (PL (r:=BB r c x us) (b:=x)) with h | h
  ·rw[h];exact hself
  ·exact h
 have hm2:=(h2 _).2 hm
 unfold M9
 cases h:PI (Ez (BB r c x us)) with
 | nil=>rw[h] at hm2;cases hm2
 | cons a t =>
  rw[h] at hm2 h1 h2
  refine⟨t,?_⟩
  rcases List.mem_cons.1 hm2 with e | hm3
  ·rw[e]
  ·have h3:=(List.pairwise_cons.1 h1).1 _ hm3
   have h4:=XL heb a (List.mem_cons_of_mem _ ((h2 a).1 (by simp)))
   unfold dP at h4
   rw[h3] at h4;cases h4
theorem p18 (k:Nat) (args:List Value):Bp (k+1) 17 args=m17 (Bp k) L args:=by kernel_rfl
theorem p20 (k:Nat) (args:List Value):Bp (k+1) 14 args=m14 (Bp k) L args:=by kernel_rfl
theorem Nz {α:Type}:isS (none:Option α)=false:=rfl
end Go.BkQ
set_option maxRecDepth 100000
set_option maxHeartbeats 4000000
namespace Go.BkQ
open Go Go.Sp Go.BkOM
theorem p13 (k:Nat) (args:List Value):Bp (k+1) 18 args=m18 (Bp k) L args:=by kernel_rfl
noncomputable def Jd (r c:Nat) (x y:List Int):List Nat→Int×Int
 | []=>(0,12)
 | t::us=>if pick x (cellL r c t)=y then (.ofNat t,0) else Jd r c x y us
theorem Ws (n f fl:Nat) {r c k t i:Nat} {us:List Nat} {x:List Int} (hg:(r,c,us)∈Bq) (hi:us[i]?=some t) (hx:x.length=r*c):Bp (n+1) 34 [OE r c k fl us,S f x,I (.ofNat i)]=some (S 0 (pick x (cellL r c t))):=by
 have hp:=Co hg
 have ht:=List.mem_of_getElem? hi
 obtain⟨_,h1,h2⟩:=hp.row t ht
 have hrc:r*c≤16:=Nat.mul_le_mul hp.r4 hp.c4
 have hii:i < us.length:=(List.getElem?_eq_some_iff.1 hi).1
 exact MM n f 0 (d0 := I (.ofNat r)) (d1 := I (.ofNat c)) (d2 := I (.ofNat k)) (d3 := Sl.v 1 ⟨len us, fl, CX us⟩) (rows := JN r c us) (m := len us) (i := i) (row := cellL r c t) (x := x)
  (by rw[BZ,Nat.mul_one,show JN r c us=us.map fun t=>OW (cellL r c t) from Cc _ _,List.getElem?_map,hi];rfl) (by rw[AV];exact hii) (by rw[h1,hx]) (fun k hk=>by rw[hx];exact h2 k hk) (by rw[hx];omega)
theorem Kc {r c k t:Nat} {us:List Nat} {x:List Int} (hg:(r,c,us)∈Bq) (ht:t∈us):(pick x (cellL r c t)).length=r*c:=by
 rw[IB,((Co hg).row t ht).2.1]
theorem OM {us:List Nat} {i t:Nat} {rest:List Nat} (h:us.drop i=t::rest):us[i]?=some t:=by
 have:=congrArg List.head? h
 rw[List.head?_drop] at this;exact this
theorem PN (n M f g1 g2:Nat) {r c k:Nat} {us:List Nat} {x y:List Int} (hg:(r,c,us)∈Bq) (hx:x.length=r*c) (hy:y.length=r*c):∀ (rest:List Nat) (w i:Nat),us.drop i=rest→rest.length < w →
 QI (Bp (n+1)) M w (sl g1 x) (sl g2 y) 0 (Gq r c k f us) ⟨len us,f,CX us⟩ (.ofNat (len us)) (.ofNat i)=some (.tuple ⟨[I (Jd r c x y rest).1,I (Jd r c x y rest).2]⟩)
 | _,0,_,_,h=>by omega
 | [], w + 1, i, hd, _ => by
  have h1:us.length≤i:=List.drop_eq_nil_iff.1 hd
  show bb (AY (.ofNat i) (.ofNat (len us))) _ (some (Value.tuple ⟨[I 0,I 12]⟩))=_
  rw[Cs,AV,decide_eq_false (by omega),AA];rfl
 | t :: rest, w + 1, i, hd, hw => by
  obtain⟨hget,hd2,hi⟩:=UL hd
  have hrl:(t::rest).length=rest.length+1:=rfl
  have hp:=Co hg
  have hrc:r*c≤16:=Nat.mul_le_mul hp.r4 hp.c4
  have hat:=OM hd
  have hpl:(pick x (cellL r c t)).length=r*c:=Kc (k:=k) hg (List.mem_of_getElem? hat)
  have ih:=PN n M f g1 g2 (k:=k) hg hx hy rest w (i+1) hd2 (by omega)
  show Un (Bp (n+1)) M (QI (Bp (n+1)) M w) (sl g1 x) (sl g2 y) 0 (Gq r c k f us) ⟨len us,f,CX us⟩ (.ofNat (len us)) (.ofNat i)=_
  unfold Un
  rw[Cs,decide_eq_true (by rw[AV];exact hi),Ak,Cx,Ac]
  show bb (an (Nat.blt i (len us)) true) (oo (AL (CX us) (i*1)) none fun v1041=>(oo (Bi .i64 v1041) none fun x1043=>(oo (Bp (n+1) 34 [OE r c k f us,S g1 x,I (.ofNat i)]) none fun v1053=>(oo (Bj 1 v1053) none fun s1055=>(oo (Bp (n+1) 37 [(Sl.v 1 s1055),S g2 y]) none fun v1057=>(oo (Bf v1057) none fun b1059=>(bb b1059 (some (Value.tuple ⟨[(.int .i64 x1043),(.int .i64 (0:Int))]⟩)) (QI (Bp (n+1)) M w (sl g1 x) (sl g2 y) 0 (Gq r c k f us) ⟨len us,f,CX us⟩ (.ofNat (len us)) (Aj .i64 (Int.add (Int.ofNat i) (1:Int))))))))))) none=_
  rw[show Nat.blt i (len us)=true from by rw[blt_eq,AV];simpa using hi,show an true true=true from rfl,Ak,hget,Ac,BP,Ac,Ws n g1 f hg hat hx,Ac]
  show oo (Bp (n+1) 37 [S 0 (pick x (cellL r c t)),S g2 y]) none _=_
  rw[Pq n 0 g2 (by omega),Ac,BU,Ac,DC i (by have:=hp.len8;omega),ih]
  show bb (decide (pick x (cellL r c t)=y)) (some (Value.tuple ⟨[I (.ofNat t),I 0]⟩)) _=some (Value.tuple ⟨[I (if pick x (cellL r c t)=y then ((Int.ofNat t,0):Int×Int) else Jd r c x y rest).1,I (if pick x (cellL r c t)=y then ((Int.ofNat t,0):Int×Int) else Jd r c x y rest).2]⟩)
  by_cases h:pick x (cellL r c t)=y
  ·rw[decide_eq_true h,if_pos h];rfl
  ·rw[decide_eq_false h,if_neg h];rfl
end Go.BkQ
set_option maxRecDepth 100000
set_option maxHeartbeats 4000000
namespace Go.BkQ
open Go Go.Sp Go.BkOM
theorem p15 (k:Nat) (args:List Value):Bp (k+1) 15 args=m15 (Bp k) L args:=by kernel_rfl
end Go.BkQ
set_option maxRecDepth 100000
set_option maxHeartbeats 4000000
namespace Go.BkQ
open Go Go.Sp Go.BkOM
theorem gT (a b:Nat):Bd (Int.ofNat a) (Int.ofNat b)=Nat.beq a b:=by
 rw[DL]
 by_cases h:a=b
 ·subst h;simp
 ·rw[decide_eq_false (fun e=>h (Int.ofNat.inj e))]
  cases e:Nat.beq a b with
  | false=>rfl
  | true=>exact absurd (Nat.eq_of_beq_eq_true e) h
noncomputable def Ey (r c:Nat) (x:List Int) (us:List Nat):List Int:=(us.filter fun t=>decide (pick x (cellL r c t)=x)).map Int.ofNat
theorem PO (r c:Nat) (x:List Int) (t:Nat) (us:List Nat):Ey r c x (t::us)=if pick x (cellL r c t)=x then Int.ofNat t::Ey r c x us else Ey r c x us:=by
 unfold Ey
 rw[List.filter_cons]
 by_cases h:pick x (cellL r c t)=x
 ·rw[if_pos h,if_pos (by simpa using h)];rfl
 ·rw[if_neg h,if_neg (by simpa using h)]
theorem Yd (q:List Int):(bb (Au Ah (q.map I)) (bb (an (Nat.ble (0+q.length*1) (len (q.map I))) (Au Ah (Aq (q.length*1) (Am 0 (q.map I))))) (some (Value.tuple ⟨[(Sl.v 1 (Sl.mk q.length 0 (Aq (q.length*1) (Am 0 (q.map I))))),(.int .i64 (0:Int))]⟩)) none) none)=some (.tuple ⟨[S 0 q,I 0]⟩):=by
 rw[CK,Ak,lT,Agw,Ak];rfl
theorem K6 (n M f g:Nat) {r c k:Nat} {us:List Nat} {x:List Int} (hg:(r,c,us)∈Bq) (hx:x.length=r*c):∀ (rest:List Nat) (w i cc:Nat) (q:List Int),us.drop i=rest→rest.length < w→q.length≤i→cc / 2=q.length→cc % 2=0 →
 Oi (Bp (n+1)) M w (sl g x) 0 (Gq r c k f us) q.length cc ⟨len us,f,CX us⟩ (.ofNat (len us)) (.ofNat i) (q.map I)=some (.tuple ⟨[S 0 (q++Ey r c x rest),I 0]⟩)
 | _,0,_,_,_,_,h,_,_,_=>by omega
 | [], w + 1, i, cc, q, hd, _, _, _, _ => by
  have h1:us.length≤i:=List.drop_eq_nil_iff.1 hd
  show bb (Au Ah (q.map I)) (bb (AY (.ofNat i) (.ofNat (len us))) _ (bb (Au Ah (q.map I)) (bb (an (Nat.ble (0+q.length*1) (len (q.map I))) (Au Ah (Aq (q.length*1) (Am 0 (q.map I))))) (some (Value.tuple ⟨[(Sl.v 1 (Sl.mk q.length 0 (Aq (q.length*1) (Am 0 (q.map I))))),(.int .i64 (0:Int))]⟩)) none) none)) none=_
  rw[Yd,CK,Ak,Cs,AV,decide_eq_false (by omega),AA,show Ey r c x []=[] from rfl,List.append_nil]
 | t :: rest, w + 1, i, cc, q, hd, hw, hq, hcc, hcc2 => by
  obtain⟨hget,hd2,hi⟩:=UL hd
  have hrl:(t::rest).length=rest.length+1:=rfl
  have hp:=Co hg
  have hat:=OM hd
  obtain⟨z,hz1,hz2⟩:=Wn n g f (k:=k) hg hat hx
  show Um (Bp (n+1)) M (Oi (Bp (n+1)) M w) (sl g x) 0 (Gq r c k f us) q.length cc ⟨len us,f,CX us⟩ (.ofNat (len us)) (.ofNat i) (q.map I)=_
  unfold Um Ul
  show bb (Au Ah (q.map I)) (bb (AY (.ofNat i) (.ofNat (len us))) (oo (EA (.ofNat i)) none fun k1668=>(bb (an (Nat.blt k1668 (len us)) true) (oo (AL (CX us) (k1668*1)) none fun v1671=>(oo (Bi .i64 v1671) none fun x1673=>(oo (Bp (n+1) 36 [OE r c k f us,S g x,I (.ofNat k1668)]) none fun v1679=>(oo (Bi .u16 v1679) none fun x1681=>(bb (Bd x1681 (0:Int)) (bb (GV 1 8 q.length cc 1 (q.map I)) (bb (Au Ah (Br (Am 0 (q.map I)) [(.int .i64 x1673)])) (bb (Au Ah (Br (Am 0 (q.map I)) [(.int .i64 x1673)])) (Oi (Bp (n+1)) M w (sl g x) 0 (Gq r c k f us) (q.length+1) (2*(q.length+1)+bb false 1 0) ⟨len us,f,CX us⟩ (.ofNat (len us)) (Aj .i64 (Int.add (Int.ofNat k1668) (1:Int))) (Br (Am 0 (q.map I)) [(.int .i64 x1673)])) none) none) none) (bb (Au Ah (q.map I)) (Oi (Bp (n+1)) M w (sl g x) 0 (Gq r c k f us) q.length cc ⟨len us,f,CX us⟩ (.ofNat (len us)) (Aj .i64 (Int.add (Int.ofNat k1668) (1:Int))) (q.map I)) none)))))) none)) _) none=_
  rw[CK,Ak,Cs,decide_eq_true (by rw[AV];exact hi),Ak,Cx,Ac,show Nat.blt i (len us)=true from by rw[blt_eq,AV];simpa using hi,show an true true=true from rfl,Ak,hget,Ac,BP,Ac,hz1,Ac,Ab7,Ac,lQ (by have:=hp.len8;omega) hcc hcc2,Ak,lS,CK,Ak,Ak,Ak,DC i (by have:=hp.len8;omega),show Bd (Int.ofNat z) (0:Int)=Bd (Int.ofNat z) (Int.ofNat 0) from rfl,gT,PO]
  by_cases h:pick x (cellL r c t)=x
  ·rw[if_pos h,hz2.2 h]
   have ih:=K6 n M f g (k:=k) hg hx rest w (i+1) (2*(q.length+1)+bb false 1 0) (q++[Int.ofNat t]) hd2 (by omega) (by simp;omega) (by rw[List.length_append];show (2*(q.length+1)+0) / 2=q.length+1;omega) (by show (2*(q.length+1)+0) % 2=0;omega)
   rw[List.length_append,List.append_assoc] at ih
   exact ih
  ·rw[if_neg h,show Nat.beq z 0=false from by cases e:Nat.beq z 0 with | false=>rfl | true=>exact absurd (hz2.1 (Nat.eq_of_beq_eq_true e)) h,AA]
   exact K6 n M f g (k:=k) hg hx rest w (i+1) cc q hd2 (by omega) (by omega) hcc hcc2
end Go.BkQ
set_option maxRecDepth 100000
set_option maxHeartbeats 4000000
namespace Go.BkQ
open Go Go.Sp Go.BkOM
theorem Wt:nt (Bd (0:Int) 0)=false:=rfl
theorem gU (n f g:Nat) {r c k:Nat} {us:List Nat} {x:List Int} (hg:(r,c,us)∈Bq) (hk:k=1∨k=2∨k=3∨k=4) (hR:FL r c k x):Bp (n+8) 17 [FD r c k f us,S g x]=some (.tuple ⟨[S 0 (Ka x (BB r c x us)),I 0]⟩):=by
 have h1:=Jc n f g hg hk hR
 have h2:=dV n f g (k:=k) hg hR.1 (List.length_pos_of_mem (Kb hg))
 obtain⟨t,h4⟩:=PM hg hR.1
 have h2:Bp (n+7) 35 [OE r c k f us,S g x]=some (SR (M9 r c x us)):=h2
 rw[h4] at h2
 rw[p18]
 show fI (Bp (n+7)) L (.ofNat r) (.ofNat c) (.ofNat k) ⟨len us,f,CX us⟩ (sl g x)=_
 have h1':Bp (n+7) 32 [.agg ⟨[I (.ofNat r),I (.ofNat c),I (.ofNat k),Sl.v 1 ⟨len us,f,CX us⟩]⟩,(Sl.v 1 (Sl.mk 1 0 (Aq (1*1) (Am 0 ([(Sl.v 1 (sl g x))]:List Value)))))]=some (.tuple ⟨[Cv 0 (Gq r c k f us),I 0]⟩):=h1
 have h2':Bp (n+7) 35 [Cv 0 (Gq r c k f us),Sl.v 1 (sl g x)]=some (Sl.v 1 ⟨(Ka x (BB r c x us)::t).length,0,RW (Ka x (BB r c x us)::t)⟩):=h2
 have h5:=gI (l:=Ka x (BB r c x us)::t) (i:=0) (by simp)
 have h5:AL (RW (Ka x (BB r c x us)::t)) (0*1)=some (Sl.v 1 (sl 0 (Ka x (BB r c x us)))):=h5
 unfold fI
 simp only[h1',Ac,FW,Dj,EG,TV,NA,Ak,BP,Wt,AA,h2',Dc,Dn (show 0 < (Ka x (BB r c x us)::t).length by simp),h5]
 rfl
theorem Agy (n f g:Nat) {r c k:Nat} {us:List Nat} {x:List Int} (hg:(r,c,us)∈Bq) (hk:k=1∨k=2∨k=3∨k=4) (hR:FL r c k x):Bp (n+8) 14 [FD r c k f us,S g x]=some (.tuple ⟨[SR (M9 r c x us),I 0]⟩):=by
 have h1:=Jc n f g hg hk hR
 have h2:=dV n f g (k:=k) hg hR.1 (List.length_pos_of_mem (Kb hg))
 rw[p20]
 show fG (Bp (n+7)) L (.ofNat r) (.ofNat c) (.ofNat k) ⟨len us,f,CX us⟩ (sl g x)=_
 have h1':Bp (n+7) 32 [.agg ⟨[I (.ofNat r),I (.ofNat c),I (.ofNat k),Sl.v 1 ⟨len us,f,CX us⟩]⟩,(Sl.v 1 (Sl.mk 1 0 (Aq (1*1) (Am 0 ([(Sl.v 1 (sl g x))]:List Value)))))]=some (.tuple ⟨[Cv 0 (Gq r c k f us),I 0]⟩):=h1
 have h2':Bp (n+7) 35 [Cv 0 (Gq r c k f us),Sl.v 1 (sl g x)]=some (Sl.v 1 ⟨(M9 r c x us).length,0,RW (M9 r c x us)⟩):=h2
 unfold fG
 simp only[h1',Ac,FW,Dj,EG,TV,NA,Ak,BP,Wt,AA,h2',Dc]
 rfl
theorem gV (n f g:Nat) {r c k:Nat} {us:List Nat} {x:List Int} (hg:(r,c,us)∈Bq) (hk:k=1∨k=2∨k=3∨k=4) (hR:FL r c k x):Bp (n+8) 15 [FD r c k f us,S g x]=some (.tuple ⟨[S 0 (Ey r c x us),I 0]⟩):=by
 have h1:=Jc n f g hg hk hR
 rw[p15]
 show fH (Bp (n+7)) L (.ofNat r) (.ofNat c) (.ofNat k) ⟨len us,f,CX us⟩ (sl g x)=_
 have h1':Bp (n+7) 32 [.agg ⟨[I (.ofNat r),I (.ofNat c),I (.ofNat k),Sl.v 1 ⟨len us,f,CX us⟩]⟩,(Sl.v 1 (Sl.mk 1 0 (Aq (1*1) (Am 0 ([(Sl.v 1 (sl g x))]:List Value)))))]=some (.tuple ⟨[Cv 0 (Gq r c k f us),I 0]⟩):=h1
 have h2:=K6 (n+6) L f g (k:=k) hg hR.1 us L 0 0 [] List.drop_zero (by have:=(Co hg).len8;show _ < 1000000;omega) (Nat.le_refl _) rfl rfl
 unfold fH
 simp only[h1',Ac,FW,Dj,EG,TV,NA,Ak,BP,Wt,AA,show AL (Gq r c k f us) (0+0+3)=some (Sl.v 1 ⟨len us,f,CX us⟩) from rfl,Dc]
 exact h2
theorem gW (n f g1 g2:Nat) {r c k:Nat} {us:List Nat} {x y:List Int} (hg:(r,c,us)∈Bq) (hk:k=1∨k=2∨k=3∨k=4) (hR:FL r c k x) (hy:FL r c k y):Bp (n+8) 18 [FD r c k f us,S g1 x,S g2 y]=some (.tuple ⟨[I (Jd r c x y us).1,I (Jd r c x y us).2]⟩):=by
 have hp:=Co hg
 have hrc:r*c≤16:=Nat.mul_le_mul hp.r4 hp.c4
 have ho:=MR n 0 f (bs:=[sl g1 x,sl g2 y]) hk hg hp.r1 hp.r4 hp.c1 hp.c4 (fun _=>0) (fun s hs=>by
  rcases List.mem_cons.1 hs with rfl | hs
  ·exact⟨g1,x,rfl,by rw[hR.1];omega,hR.valid.symm⟩
  ·obtain rfl:=List.mem_singleton.1 hs
   exact⟨g2,y,rfl,by rw[hy.1];omega,hy.valid.symm⟩) (by simp)
 rw[p13]
 show fK (Bp (n+7)) L (.ofNat r) (.ofNat c) (.ofNat k) ⟨len us,f,CX us⟩ (sl g1 x) (sl g2 y)=_
 have h1':Bp (n+7) 32 [.agg ⟨[I (.ofNat r),I (.ofNat c),I (.ofNat k),Sl.v 1 ⟨len us,f,CX us⟩]⟩,(Sl.v 1 (Sl.mk 2 0 (Aq (2*1) (Am 0 ([(Sl.v 1 (sl g1 x)),(Sl.v 1 (sl g2 y))]:List Value)))))]=some (.tuple ⟨[Cv 0 (Gq r c k f us),I 0]⟩):=ho
 have h2:=PN (n+6) L f g1 g2 (k:=k) hg hR.1 hy.1 us L 0 List.drop_zero (by have:=hp.len8;show _ < 1000000;omega)
 unfold fK
 simp only[h1',Ac,FW,Dj,EG,TV,NA,Ak,BP,Wt,AA,show AL (Gq r c k f us) (0+0+3)=some (Sl.v 1 ⟨len us,f,CX us⟩) from rfl,Dc]
 exact h2
end Go.BkQ
set_option maxRecDepth 100000
set_option maxHeartbeats 4000000
namespace Go.BkQ
open Go Go.Sp Go.BkOM
noncomputable def atN (l:List Nat) (k:Nat):Nat:=oo (AL l k) 0 fun x=>x
noncomputable def lW (a b:List Nat):List Nat:=AP (fun k=>atN a k) b
noncomputable def lX (p:Nat×Nat×List Nat):Bool:=Au (fun t=>Au (fun s=>an (cO p.2.2 (LX t s)) (eqL (lW (cellL p.1 p.2.1 t) (cellL p.1 p.2.1 s)) (cellL p.1 p.2.1 (LX t s)))) p.2.2) p.2.2
theorem gX:Au lX Bq=true:=by kernel_rfl
noncomputable def eB (p:Nat×Nat×List Nat):Bool:=Au (fun t=>Au (fun u=>cO (AP (fun s=>LX t s) p.2.2) u) p.2.2) p.2.2
theorem eF:Au eB Bq=true:=by kernel_rfl
theorem Wu:∀ {a b:List Nat},eqL a b=true→a=b
 | [],[],_=>rfl
 | [],_::_,h=>by cases h
 | _::_,[],h=>by cases h
 | x :: a, y :: b, h => by
  obtain⟨h1,h2⟩:=Av (show an (Nat.beq x y) (eqL a b)=true from h)
  rw[Nat.eq_of_beq_eq_true h1,Wu h2]
theorem I9 {r c t s:Nat} {us:List Nat} {x:List Int} (hg:(r,c,us)∈Bq) (ht:t∈us) (hs:s∈us):LX t s∈us∧pick (pick x (cellL r c t)) (cellL r c s)=pick x (cellL r c (LX t s)):=by
 have h:=gX
 rw[Bh,List.all_eq_true] at h
 have h:=h _ hg
 unfold lX at h
 rw[Bh,List.all_eq_true] at h
 have h:=h t ht
 rw[Bh,List.all_eq_true] at h
 obtain⟨h1,h2⟩:=Av (h s hs)
 refine⟨Pp.1 h1,?_⟩
 rw[←Wu h2]
 have hp:=Co hg
 unfold pick lW
 rw[Cc,List.map_map]
 refine List.map_congr_left fun k hk=>?_
 have hk2:k < (cellL r c t).length:=by rw[(hp.row t ht).2.1];exact(hp.row s hs).2.2 k hk
 simp only[Function.comp]
 rw[show atN (cellL r c t) k=(cellL r c t)[k] from by unfold atN;rw[BZ,List.getElem?_eq_getElem hk2];rfl]
 simp[List.getD_eq_getElem?_getD,hk2]
theorem UT {r c t u:Nat} {us:List Nat} (hg:(r,c,us)∈Bq) (ht:t∈us) (hu:u∈us):∃ s∈us,LX t s=u:=by
 have h:=eF
 rw[Bh,List.all_eq_true] at h
 have h:=h _ hg
 unfold eB at h
 rw[Bh,List.all_eq_true] at h
 have h:=h t ht
 rw[Bh,List.all_eq_true] at h
 have h:=Pp.1 (h u hu)
 rw[Cc] at h
 exact List.mem_map.1 h
theorem Wv {r c t:Nat} {us:List Nat} {x:List Int} (hg:(r,c,us)∈Bq) (ht:t∈us) (y:List Int):y∈BB r c (pick x (cellL r c t)) us↔y∈BB r c x us:=by
 unfold BB
 rw[List.mem_map,List.mem_map]
 constructor
 ·rintro⟨s,hs,rfl⟩
  obtain⟨h1,h2⟩:=I9 (x:=x) hg ht hs
  exact⟨_,h1,h2.symm⟩
 ·rintro⟨u,hu,rfl⟩
  obtain⟨s,hs,rfl⟩:=UT hg ht hu
  exact⟨s,hs,(I9 (x:=x) hg ht hs).2⟩
end Go.BkQ
set_option maxRecDepth 100000
set_option maxHeartbeats 4000000
namespace Go.BkQ
open Go Go.Sp Go.BkOM
noncomputable def eH (s:Nat) (l:List Nat):Nat:=List.rec (motive:=fun _=>Nat) 0 (fun x _ ih=>bb (Nat.beq x s) (Nat.succ ih) ih) l
theorem XM (s:Nat) (l:List Nat):eH s l=l.count s:=by
 induction l with
 | nil=>rfl
 | cons x l ih =>
  show bb (Nat.beq x s) (Nat.succ (eH s l)) (eH s l)=_
  rw[ih,List.count_cons]
  by_cases h:x=s
  ·subst h;rw[show Nat.beq x x=true from by simp];simp
  ·rw[show Nat.beq x s=false from by cases e:Nat.beq x s with | false=>rfl | true=>exact absurd (Nat.eq_of_beq_eq_true e) h];simp[h]
noncomputable def eO (p:Nat×Nat×List Nat):Bool:=Au (fun t=>an (Au (fun v=>Nat.beq (eH v (AP (fun s=>LX s t) p.2.2)) (eH v p.2.2)) [0,1,2,3,4,5,6,7]) (Au (fun s=>Nat.blt (LX s t) 8) p.2.2)) p.2.2
theorem eP:Au eO Bq=true:=by kernel_rfl
theorem Ww {r c t:Nat} {us:List Nat} (hg:(r,c,us)∈Bq) (ht:t∈us):(us.map fun s=>LX s t).Perm us:=by
 have h:=eP
 rw[Bh,List.all_eq_true] at h
 have h:=h _ hg
 unfold eO at h
 rw[Bh,List.all_eq_true] at h
 obtain⟨h1,h2⟩:=Av (h t ht)
 rw[Bh,List.all_eq_true] at h1 h2
 rw[List.perm_iff_count]
 intro v
 by_cases hv:v < 8
 ·have hm : v ∈ [0, 1, 2, 3, 4, 5, 6, 7] := by
   show v∈List.range 8
   exact List.mem_range.2 hv
  have:=Nat.eq_of_beq_eq_true (h1 v hm)
  rwa [XM,XM,Cc] at this
 ·rw[List.count_eq_zero.2,List.count_eq_zero.2]
  ·exact fun hm=>by have:=((Co hg).row v hm).1;omega
  ·intro hm
   obtain⟨s,hs,rfl⟩:=List.mem_map.1 hm
   have:=h2 s hs
   rw[blt_eq] at this
   exact hv (of_decide_eq_true this)
theorem eQ {r c t:Nat} {us:List Nat} {x y:List Int} (hg:(r,c,us)∈Bq) (ht:t∈us) (hx:x.length=r*c) (hy:y.length=r*c) (h:pick x (cellL r c t)=pick y (cellL r c t)):x=y:=by
 obtain⟨s,hs,h0⟩:=UT hg ht (Kb hg)
 have h1:=(I9 (x:=x) hg ht hs).2
 have h2:=(I9 (x:=y) hg ht hs).2
 rw[h0] at h1 h2
 rw[dY (Co hg).c1 hx] at h1
 rw[dY (Co hg).c1 hy] at h2
 rw[←h1,←h2,h]
theorem Agz {r c t0:Nat} {us:List Nat} {x:List Int} (hg:(r,c,us)∈Bq) (ht:t0∈us) (hx:x.length=r*c):us.countP (fun t=>decide (pick x (cellL r c t)=pick x (cellL r c t0)))=us.countP (fun t=>decide (pick x (cellL r c t)=x)):=by
 rw[←(Ww hg ht).countP_eq,List.countP_map]
 refine List.countP_congr fun s hs=>?_
 simp only[Function.comp,decide_eq_true_eq]
 rw[←(I9 (x:=x) hg hs ht).2]
 constructor
 ·exact fun h=>eQ hg ht (by rw[IB,((Co hg).row s hs).2.1]) hx h
 ·exact fun h=>by rw[h]
def Ke (F:List Int→Nat):List (List Int)→Nat
 | []=>0
 | y::r=>F y+Ke F r
theorem UU (F G : List Int → Nat) : ∀ K, Ke (fun y => F y + G y) K = Ke F K + Ke G K
 | []=>rfl
 | y::r=>by show F y+G y+Ke _ r=F y+Ke F r+(G y+Ke G r);rw[UU F G r];omega
theorem RQ : ∀ K, Ke (fun _ => 0) K = 0
 | []=>rfl
 | _::r=>by show 0+Ke _ r=0;rw[RQ r]
theorem PP {F:List Int→Nat} {n:Nat}:∀ {K:List (List Int)},(∀ y∈K,F y=n)→Ke F K=K.length*n
 | [],_=>by simp[Ke]
 | y :: r, h => by
  show F y+Ke F r=(r.length+1)*n
  rw[h y (by simp),PP fun z hz=>h z (by simp[hz]),Nat.succ_mul];omega
theorem UV (z : List Int) : ∀ {K : List (List Int)}, K.Nodup → z ∈ K → Ke (fun y => if z = y then 1 else 0) K = 1
 | y :: r, hn, hz => by
  have h1:=List.nodup_cons.1 hn
  show (if z=y then 1 else 0)+Ke _ r=1
  by_cases h:z=y
  ·subst h
   rw[if_pos rfl]
   have e:∀ (l:List (List Int)),z ∉ l→Ke (fun y=>if z=y then 1 else 0) l=0:=by
    intro l
    induction l with
    | nil=>intro _;rfl
    | cons a l ih =>
     intro ha
     show (if z=a then 1 else 0)+Ke _ l=0
     rw[if_neg fun e=>ha (by rw[e];simp),ih fun hm=>ha (by simp[hm])]
   rw[e r h1.1]
  ·rw[if_neg h,Nat.zero_add]
   exact UV z h1.2 ((List.mem_cons.1 hz).resolve_left h)
theorem cover (f : Nat → List Int) {K : List (List Int)} (hn : K.Nodup) : ∀ us : List Nat, (∀ t ∈ us, f t ∈ K) → Ke (fun y => us.countP fun t => decide (f t = y)) K = us.length
 | [],_=>by simp only[List.countP_nil];exact RQ K
 | t :: us, h => by
  have e:(fun y=>(t::us).countP fun t=>decide (f t=y))=fun y=>(us.countP fun t=>decide (f t=y))+(if f t=y then 1 else 0):=funext fun y=>by
   rw[List.countP_cons];simp
  rw[e,UU,cover f hn us fun s hs=>h s (by simp[hs]),UV (f t) hn (h t (by simp))];rfl
theorem Wx {r c:Nat} {us:List Nat} {x:List Int} (hg:(r,c,us)∈Bq) (hx:x.length=r*c):(M9 r c x us).length*(Ey r c x us).length=us.length:=by
 have he:CY (r*c) (BB r c x us):=Dr hg fun t h=>h
 obtain⟨h1,h2⟩:=FM he
 have hc:=cover (fun t=>pick x (cellL r c t)) (K:=M9 r c x us) h1.nodup us fun t ht=>(h2 _).2 (List.mem_map_of_mem ht)
 rw[PP (n:=us.countP fun t=>decide (pick x (cellL r c t)=x)) fun y hy=>by
  obtain⟨t0,ht,rfl⟩:=List.mem_map.1 ((h2 y).1 hy)
  exact Agz hg ht hx] at hc
 rw[←hc]
 congr 1
 unfold Ey
 rw[List.length_map,List.countP_eq_length_filter]
end Go.BkQ
set_option maxRecDepth 100000
set_option maxHeartbeats 4000000
namespace Go.BkQ
open Go Go.Sp Go.BkOM
noncomputable def Kg (x:Nat→Int) (l:List Nat):List Value:=AP (fun i=>I (x i)) l
theorem UW (n f:Nat) (x:Nat→Int):AP (fun p:Nat×Nat×Nat=>Bp (n+2) 10 [Sl.v 1 ⟨p.1*p.2.1,f,Kg x (upN (p.1*p.2.1))⟩,I (.ofNat p.1),I (.ofNat p.2.1),I (.ofNat p.2.2)]) triples=AP (fun p:Nat×Nat×Nat=>some (Sl.v 1 ⟨p.1*p.2.1,0,Kg x (cellL p.1 p.2.1 p.2.2)⟩)) triples:=by kernel_rfl
theorem eT:Au (fun p:Nat×Nat×List Nat=>Au (fun t=>fD triples p.1 p.2.1 t) p.2.2) Bq=true:=by kernel_rfl
theorem eU {r c t:Nat} {us:List Nat} (hg:(r,c,us)∈Bq) (ht:t∈us):(r,c,t)∈triples:=by
 have h:=eT
 rw[Bh,List.all_eq_true] at h
 have h:=h _ hg
 rw[Bh,List.all_eq_true] at h
 exact Ub (h t ht)
theorem Wy {x:List Int} {n:Nat} (hx:x.length=n):Kg (fun i=>x.getD i 0) (upN n)=x.map I:=by
 subst hx
 unfold Kg
 rw[Cc,MS]
 apply List.ext_getElem
 ·simp
 ·intro i h1 h2
  have hi:i < x.length:=by simpa using h2
  simp[List.getD_eq_getElem?_getD,hi]
theorem K7 (n f:Nat) {r c t:Nat} {us:List Nat} {x:List Int} (hg:(r,c,us)∈Bq) (ht:t∈us) (hx:x.length=r*c):Bp (n+2) 10 [S f x,I (.ofNat r),I (.ofNat c),I (.ofNat t)]=some (S 0 (pick x (cellL r c t))):=by
 have h:=Iz (UW n f fun i=>x.getD i 0) (r,c,t) (eU hg ht)
 have h:Bp (n+2) 10 [Sl.v 1 ⟨r*c,f,Kg (fun i=>x.getD i 0) (upN (r*c))⟩,I (.ofNat r),I (.ofNat c),I (.ofNat t)]=some (Sl.v 1 ⟨r*c,0,Kg (fun i=>x.getD i 0) (cellL r c t)⟩):=h
 rw[Wy hx] at h
 have e:Kg (fun i=>x.getD i 0) (cellL r c t)=(pick x (cellL r c t)).map I:=by
  unfold Kg pick
  rw[Cc,List.map_map];rfl
 rw[e] at h
 have hl:(pick x (cellL r c t)).length=r*c:=by rw[IB,((Co hg).row t ht).2.1]
 show Bp (n+2) 10 [Sl.v 1 ⟨x.length,f,x.map I⟩,I (.ofNat r),I (.ofNat c),I (.ofNat t)]=some (Sl.v 1 ⟨(pick x (cellL r c t)).length,0,(pick x (cellL r c t)).map I⟩)
 rw[hx,hl]
 exact h
end Go.BkQ
set_option maxRecDepth 100000
set_option maxHeartbeats 4000000
namespace Go.BkQ
open Go Go.Sp Go.BkOM
theorem AhT (k:Nat) (args:List Value):Bp (k+1) 13 args=m13 (Bp k) L args:=by kernel_rfl
theorem RS (pu:Af) (M:Nat) {a b:List Int} (hab:a.length=b.length) (ha:a.length < 900000) (f1 f2:Nat):∀ (d w i:Nat),i+d=a.length→d < w →
 QH pu M w (sl f1 a) (sl f2 b) (.ofNat a.length) (.ofNat i)=some (.bool (Gp (a.drop i) (b.drop i)))
 | _,0,_,_,h=>by omega
 | 0, w + 1, i, hd, _ => by
  show O3 pu M (QH pu M w) (sl f1 a) (sl f2 b) (.ofNat a.length) (.ofNat i)=_
  unfold O3
  simp only[Eo (show ¬ i < a.length from by omega),AA,List.drop_eq_nil_of_le (show a.length≤i by omega)]
  rfl
 | d + 1, w + 1, i, hd, hw => by
  have h1:i < a.length:=by omega
  have h2:i < b.length:=by omega
  show O3 pu M (QH pu M w) (sl f1 a) (sl f2 b) (.ofNat a.length) (.ofNat i)=_
  unfold O3
  simp only[I4,GX,Fj h1,Ak,Cx,Ac,Dn h1,Dn h2,Ox h1,Ox h2,BP,DL,DC i (by omega),RS pu M hab ha f1 f2 d w (i+1) (by omega) (by omega),List.drop_eq_getElem_cons h1,List.drop_eq_getElem_cons h2,Gp,Gs]
  by_cases h:a[i]=b[i] <;> simp[h]
theorem gY (n f1 f2:Nat) {a b:List Int} (hab:a.length=b.length) (ha:a.length < 900000):Bp (n+1) 13 [S f1 a,S f2 b]=some (.bool (Gp a b)):=by
 rw[AhT]
 exact RS (Bp n) L hab ha f1 f2 a.length L 0 (by omega) (by show _ < 1000000;omega)
theorem Wd (k:Nat) (args:List Value):Bp (k+1) 10120 args=MF (Bp k) L args:=by kernel_rfl
theorem PQ (pu:Af) (M:Nat) {a b:List Int} (hab:a.length=b.length) (ha:a.length < 900000) (f1 f2:Nat):∀ (d w i:Nat),i+d=a.length→d < w →
 G5 pu M w (sl f1 a) (sl f2 b) (.ofNat i)=some (.tuple ⟨[.bool (decide (a.drop i=b.drop i))]⟩)
 | _,0,_,_,h=>by omega
 | 0, w + 1, i, hd, _ => by
  show GZ pu M (G5 pu M w) (sl f1 a) (sl f2 b) (.ofNat i)=_
  unfold GZ
  simp only[I4,Eo (show ¬ i < a.length from by omega),AA,List.drop_eq_nil_of_le (show a.length≤i by omega),List.drop_eq_nil_of_le (show b.length≤i by omega)]
  rfl
 | d + 1, w + 1, i, hd, hw => by
  have h1:i < a.length:=by omega
  have h2:i < b.length:=by omega
  have e:decide (a.drop i=b.drop i)=(decide (a[i]=b[i]) && decide (a.drop (i+1)=b.drop (i+1))):=by
   rw[List.drop_eq_getElem_cons h1,List.drop_eq_getElem_cons h2,←Bool.decide_and]
   exact decide_eq_decide.2 (by rw[List.cons.injEq])
  show GZ pu M (G5 pu M w) (sl f1 a) (sl f2 b) (.ofNat i)=_
  unfold GZ
  simp only[I4,GX,Fj h1,Ak,Cx,Ac,Dn h1,Dn h2,Ox h1,Ox h2,BP,DL,DC i (by omega),PQ pu M hab ha f1 f2 d w (i+1) (by omega) (by omega),e]
  by_cases h:a[i]=b[i]
  ·rw[decide_eq_true h];rfl
  ·rw[decide_eq_false h];rfl
theorem Gn (n f1 f2:Nat) {a b:List Int} (ha:a.length < 900000):Bp (n+1) 10120 [S f1 a,S f2 b]=some (.tuple ⟨[.bool (decide (a=b))]⟩):=by
 rw[Wd]
 show bb (nt (Bd (Int.ofNat a.length) (Int.ofNat b.length))) (some (Value.tuple ⟨[.bool false]⟩)) (G5 (Bp n) L L (sl f1 a) (sl f2 b) (.ofNat 0))=_
 rw[DL]
 by_cases h:a.length=b.length
 ·rw[decide_eq_true (congrArg Int.ofNat h),show nt true=false from rfl,AA]
  exact PQ (Bp n) L h ha f1 f2 a.length L 0 (by omega) (by show _ < 1000000;omega)
 ·have:¬ a=b:=fun e=>h (by rw[e])
  rw[decide_eq_false (fun e=>h (Int.ofNat.inj e)),decide_eq_false this];rfl
end Go.BkQ
set_option maxRecDepth 100000
set_option maxHeartbeats 4000000
namespace Go.BkQ
open Go Go.Sp Go.BkOM
def four:List Nat:=[1,2,3,4]
def UX:List (Nat×Nat×Nat):=four.flatMap fun r=>four.flatMap fun c=>four.map fun k=>(r,c,k)
noncomputable def TW (x:Nat→Int) (k:Nat) (l:List Nat):List Value:=AP (fun i=>I (Int.tmod (Aj .i64 (x i)) (.ofNat k))) l
theorem Ye (pu : Af) (y0 y1 y2 y3 : Int) (x : Nat → Int) (s : Sl) : AP (fun p : Nat × Nat × Nat => Uj pu L L 0 0 (Aj .i64 (Int.mul (.ofNat p.1) (.ofNat p.2.1))) 0 [.int .u8 y0, .int .u8 y1, .int .u8 y2, .int .u8 y3, .int .u8 (x 0), .int .u8 (x 1), .int .u8 (x 2), .int .u8 (x 3), .int .u8 (x 4), .int .u8 (x 5), .int .u8 (x 6), .int .u8 (x 7), .int .u8 (x 8), .int .u8 (x 9), .int .u8 (x 10), .int .u8 (x 11), .int .u8 (x 12), .int .u8 (x 13), .int .u8 (x 14), .int .u8 (x 15)] 0 0 0 (.ofNat p.1) (.ofNat p.2.1) (.ofNat p.2.2) s []) UX
 = AP (fun p:Nat×Nat×Nat=>some (.tuple ⟨[.agg ⟨[I (.ofNat p.1),I (.ofNat p.2.1),I (.ofNat p.2.2),Sl.v 1 s]⟩,Sl.v 1 ⟨p.1*p.2.1,0,TW x p.2.2 (upN (p.1*p.2.1))⟩]⟩)) UX:=by kernel_rfl
def AgA:List (List Nat):=[[0],[0,2],[0,4],[0,5],[0,2,4,5],[0,1,2,3],[0,6],[0,7],[0,2,6,7],[0,1,2,3,4,5,6,7]]
noncomputable def Yf:List Value:=AP (fun us=>Sl.v 1 ⟨len us,0,CX us⟩) AgA
noncomputable def XN (g:Nat):List Nat:=oo (AL AgA g) [] fun us=>us
theorem eX:AP (fun g=>AL Yf (0+g*1)) (upN 10)=AP (fun g=>some (Sl.v 1 ⟨len (XN g),0,CX (XN g)⟩)) (upN 10):=by kernel_rfl
noncomputable def lY:Bool:=Au (fun r=>Au (fun c=>Au (fun g=>zL r c (XN g)) (upN (bb (Nat.beq r c) 10 5))) four) four
theorem Yg:lY=true:=by kernel_rfl
theorem Yh {r c:Nat} {us:List Nat} (h:zL r c us=true):(r,c,us)∈Bq:=by
 unfold zL at h
 revert h
 generalize Bq=g
 intro h
 induction g with
 | nil=>cases h
 | cons p l ih =>
  rcases WI (show Dp (an (Nat.beq p.1 r) (an (Nat.beq p.2.1 c) (eqL p.2.2 us))) (List.rec (motive:=fun _=>Bool) false (fun p _ ih=>Dp (an (Nat.beq p.1 r) (an (Nat.beq p.2.1 c) (eqL p.2.2 us))) ih) l)=true from h) with h | h
  ·obtain⟨h1,h⟩:=Av h
   obtain⟨h2,h3⟩:=Av h
   obtain⟨p1,p2,p3⟩:=p
   rw[show p1=r from Nat.eq_of_beq_eq_true h1,show p2=c from Nat.eq_of_beq_eq_true h2,show p3=us from Wu h3]
   exact List.mem_cons_self
  ·exact List.mem_cons_of_mem _ (ih h)
noncomputable def a4 (y:Int):Int:=Aj .i64 (Int.add 1 (Int.tmod (Aj .i64 y) 4))
theorem Yi (n:Nat) (y0 y1 y2 y3:Int) (x:Nat→Int):Bp (n+1) 9 [.agg ⟨[.int .u8 y0,.int .u8 y1,.int .u8 y2,.int .u8 y3,.int .u8 (x 0),.int .u8 (x 1),.int .u8 (x 2),.int .u8 (x 3),.int .u8 (x 4),.int .u8 (x 5),.int .u8 (x 6),.int .u8 (x 7),.int .u8 (x 8),.int .u8 (x 9),.int .u8 (x 10),.int .u8 (x 11),.int .u8 (x 12),.int .u8 (x 13),.int .u8 (x 14),.int .u8 (x 15)]⟩,I 4,I 4]=bb (Bd (a4 y0) (a4 y1)) (Qu (Bp n) L 10 21 10 [.int .u8 y0,.int .u8 y1,.int .u8 y2,.int .u8 y3,.int .u8 (x 0),.int .u8 (x 1),.int .u8 (x 2),.int .u8 (x 3),.int .u8 (x 4),.int .u8 (x 5),.int .u8 (x 6),.int .u8 (x 7),.int .u8 (x 8),.int .u8 (x 9),.int .u8 (x 10),.int .u8 (x 11),.int .u8 (x 12),.int .u8 (x 13),.int .u8 (x 14),.int .u8 (x 15)] 0 0 0 (a4 y0) (a4 y1) (a4 y2) Yf) (Qu (Bp n) L 10 21 5 [.int .u8 y0,.int .u8 y1,.int .u8 y2,.int .u8 y3,.int .u8 (x 0),.int .u8 (x 1),.int .u8 (x 2),.int .u8 (x 3),.int .u8 (x 4),.int .u8 (x 5),.int .u8 (x 6),.int .u8 (x 7),.int .u8 (x 8),.int .u8 (x 9),.int .u8 (x 10),.int .u8 (x 11),.int .u8 (x 12),.int .u8 (x 13),.int .u8 (x 14),.int .u8 (x 15)] 0 0 0 (a4 y0) (a4 y1) (a4 y2) Yf):=by kernel_rfl
theorem gZ (pu:Af) (y0 y1 y2 y3 R C K lim:Int) (x:Nat→Int) {G:Nat} {us:List Nat} (h1:nt (Bd lim 0)=true) (h2:Int.tmod (Aj .i64 y3) lim = .ofNat G) (h3:G < 10) (h4:AL Yf (0+G*1)=some (Sl.v 1 ⟨len us,0,CX us⟩)) :
 Qu pu L 10 21 lim [.int .u8 y0,.int .u8 y1,.int .u8 y2,.int .u8 y3,.int .u8 (x 0),.int .u8 (x 1),.int .u8 (x 2),.int .u8 (x 3),.int .u8 (x 4),.int .u8 (x 5),.int .u8 (x 6),.int .u8 (x 7),.int .u8 (x 8),.int .u8 (x 9),.int .u8 (x 10),.int .u8 (x 11),.int .u8 (x 12),.int .u8 (x 13),.int .u8 (x 14),.int .u8 (x 15)] 0 0 0 R C K Yf=Uj pu L L 0 0 (Aj .i64 (Int.mul R C)) 0 [.int .u8 y0,.int .u8 y1,.int .u8 y2,.int .u8 y3,.int .u8 (x 0),.int .u8 (x 1),.int .u8 (x 2),.int .u8 (x 3),.int .u8 (x 4),.int .u8 (x 5),.int .u8 (x 6),.int .u8 (x 7),.int .u8 (x 8),.int .u8 (x 9),.int .u8 (x 10),.int .u8 (x 11),.int .u8 (x 12),.int .u8 (x 13),.int .u8 (x 14),.int .u8 (x 15)] 0 0 0 R C K ⟨len us,0,CX us⟩ []:=by
 have e3:AL ([.int .u8 y0,.int .u8 y1,.int .u8 y2,.int .u8 y3,.int .u8 (x 0),.int .u8 (x 1),.int .u8 (x 2),.int .u8 (x 3),.int .u8 (x 4),.int .u8 (x 5),.int .u8 (x 6),.int .u8 (x 7),.int .u8 (x 8),.int .u8 (x 9),.int .u8 (x 10),.int .u8 (x 11),.int .u8 (x 12),.int .u8 (x 13),.int .u8 (x 14),.int .u8 (x 15)]:List Value) 3=some (.int .u8 y3):=rfl
 have ec:Au Ah ([.int .u8 y0,.int .u8 y1,.int .u8 y2,.int .u8 y3,.int .u8 (x 0),.int .u8 (x 1),.int .u8 (x 2),.int .u8 (x 3),.int .u8 (x 4),.int .u8 (x 5),.int .u8 (x 6),.int .u8 (x 7),.int .u8 (x 8),.int .u8 (x 9),.int .u8 (x 10),.int .u8 (x 11),.int .u8 (x 12),.int .u8 (x 13),.int .u8 (x 14),.int .u8 (x 15)]:List Value)=true:=rfl
 unfold Qu
 simp only[e3,ec,show Bi .u8 (.int .u8 y3)=some y3 from rfl,h1,Ak,h2,Cx,Ac,Dn h3,h4,Dc]
theorem Yj {y:Int} (h:0≤y∧y < 256):Aj .i64 y=y:=by
 obtain⟨m,rfl⟩:=Int.eq_ofNat_of_zero_le h.1
 exact Oe _ (by omega) (by omega)
theorem Qp {y:Int} (h:0≤y∧y < 256) {m:Nat} (hm:0 < m):∃ A,A < m∧Int.tmod (Aj .i64 y) (.ofNat m) = .ofNat A:=by
 rw[Yj h]
 obtain⟨a,rfl⟩:=Int.eq_ofNat_of_zero_le h.1
 exact⟨a % m,Nat.mod_lt _ hm,rfl⟩
theorem eY {y:Int} (h:0≤y∧y < 256):∃ A,A∈four∧a4 y = .ofNat A:=by
 obtain⟨A,hA,e⟩:=Qp h (m:=4) (by omega)
 refine⟨A+1,?_,?_⟩
 ·obtain rfl | rfl | rfl | rfl:A=0∨A=1∨A=2∨A=3:=by omega
  all_goals simp[four]
 ·unfold a4
  rw[show (4:Int) = .ofNat 4 from rfl,e]
  obtain rfl | rfl | rfl | rfl:A=0∨A=1∨A=2∨A=3:=by omega
  all_goals rfl
theorem Yk {r c k:Nat} (hr:r∈four) (hc:c∈four) (hk:k∈four):(r,c,k)∈UX:=by
 unfold UX
 exact List.mem_flatMap.2 ⟨r,hr,List.mem_flatMap.2 ⟨c,hc,List.mem_map.2 ⟨k,hk,rfl⟩⟩⟩
theorem eZ {k:Nat} (h:k∈four):k=1∨k=2∨k=3∨k=4:=by simpa [four] using h
theorem iB (n:Nat) (y0 y1 y2 y3:Int) (x:Nat→Int) (h0:0≤y0∧y0 < 256) (h1:0≤y1∧y1 < 256) (h2:0≤y2∧y2 < 256) (h3:0≤y3∧y3 < 256) (hx:∀ i,0≤x i∧x i < 256) :
 ∃ r c k us X,Bp (n+1) 9 [.agg ⟨[.int .u8 y0,.int .u8 y1,.int .u8 y2,.int .u8 y3,.int .u8 (x 0),.int .u8 (x 1),.int .u8 (x 2),.int .u8 (x 3),.int .u8 (x 4),.int .u8 (x 5),.int .u8 (x 6),.int .u8 (x 7),.int .u8 (x 8),.int .u8 (x 9),.int .u8 (x 10),.int .u8 (x 11),.int .u8 (x 12),.int .u8 (x 13),.int .u8 (x 14),.int .u8 (x 15)]⟩,I 4,I 4]=some (.tuple ⟨[FD r c k 0 us,S 0 X]⟩)∧(r,c,us)∈Bq∧(k=1∨k=2∨k=3∨k=4)∧FL r c k X:=by
 obtain⟨r,hr,er⟩:=eY h0
 obtain⟨c,hc,ec⟩:=eY h1
 obtain⟨k,hk,ek⟩:=eY h2
 have key:∀ (lim:Nat),0 < lim→lim≤10→lim=bb (Nat.beq r c) 10 5→∃ us,(r,c,us)∈Bq∧Qu (Bp n) L 10 21 (.ofNat lim) [.int .u8 y0,.int .u8 y1,.int .u8 y2,.int .u8 y3,.int .u8 (x 0),.int .u8 (x 1),.int .u8 (x 2),.int .u8 (x 3),.int .u8 (x 4),.int .u8 (x 5),.int .u8 (x 6),.int .u8 (x 7),.int .u8 (x 8),.int .u8 (x 9),.int .u8 (x 10),.int .u8 (x 11),.int .u8 (x 12),.int .u8 (x 13),.int .u8 (x 14),.int .u8 (x 15)] 0 0 0 (.ofNat r) (.ofNat c) (.ofNat k) Yf=Uj (Bp n) L L 0 0 (Aj .i64 (Int.mul (.ofNat r) (.ofNat c))) 0 [.int .u8 y0,.int .u8 y1,.int .u8 y2,.int .u8 y3,.int .u8 (x 0),.int .u8 (x 1),.int .u8 (x 2),.int .u8 (x 3),.int .u8 (x 4),.int .u8 (x 5),.int .u8 (x 6),.int .u8 (x 7),.int .u8 (x 8),.int .u8 (x 9),.int .u8 (x 10),.int .u8 (x 11),.int .u8 (x 12),.int .u8 (x 13),.int .u8 (x 14),.int .u8 (x 15)] 0 0 0 (.ofNat r) (.ofNat c) (.ofNat k) ⟨len us,0,CX us⟩ []:=by
  intro lim hl hl2 hlim
  obtain⟨G,hG,eG⟩:=Qp h3 hl
  refine⟨XN G,?_,?_⟩
  ·have h:=Yg
   unfold lY at h
   rw[Bh,List.all_eq_true] at h
   have h:=h r hr
   rw[Bh,List.all_eq_true] at h
   have h:=h c hc
   rw[Bh,List.all_eq_true] at h
   exact Yh (h G (by rw[MS,List.mem_range,←hlim];exact hG))
  ·refine gZ (Bp n) y0 y1 y2 y3 _ _ _ (.ofNat lim) x (G:=G) ?_ eG (by omega) (Iz eX G (by rw[MS,List.mem_range];omega))
   rw[DL,decide_eq_false (by show ¬ Int.ofNat lim=Int.ofNat 0;exact fun e=>by have:=Int.ofNat.inj e;omega)];rfl
 have run:=fun us:List Nat=>Iz (Ye (Bp n) y0 y1 y2 y3 x ⟨len us,0,CX us⟩) (r,c,k) (Yk hr hc hk)
 have fin:∀ us:List Nat,(r,c,us)∈Bq→∃ r' c' k' us' X,some (Value.tuple ⟨[.agg ⟨[I (.ofNat r),I (.ofNat c),I (.ofNat k),Sl.v 1 ⟨len us,0,CX us⟩]⟩,Sl.v 1 ⟨r*c,0,TW x k (upN (r*c))⟩]⟩)=some (.tuple ⟨[FD r' c' k' 0 us',S 0 X]⟩)∧(r',c',us')∈Bq∧(k'=1∨k'=2∨k'=3∨k'=4)∧FL r' c' k' X:=by
  intro us hg
  refine⟨r,c,k,us,(List.range (r*c)).map fun i=>Int.tmod (Aj .i64 (x i)) (.ofNat k),?_,hg,eZ hk,?_,?_⟩
  ·unfold TW
   rw[Cc,MS]
   show some (Value.tuple ⟨[_,Sl.v 1 ⟨r*c,0,_⟩]⟩)=some (Value.tuple ⟨[_,Sl.v 1 ⟨((List.range (r*c)).map fun i=>Int.tmod (Aj .i64 (x i)) (.ofNat k)).length,0,((List.range (r*c)).map fun i=>Int.tmod (Aj .i64 (x i)) (.ofNat k)).map I⟩]⟩)
   rw[List.length_map,List.length_range,List.map_map];rfl
  ·simp
  ·intro z hz
   obtain⟨i,_,rfl⟩:=List.mem_map.1 hz
   obtain⟨A,hA,e⟩:=Qp (hx i) (m:=k) (by have:=eZ hk;omega)
   rw[e]
   exact⟨Int.natCast_nonneg A,Int.ofNat_lt.2 hA⟩
 rw[Yi,er,ec,ek,DL]
 by_cases e:r=c
 ·subst e
  rw[decide_eq_true rfl,Ak]
  obtain⟨us,hg,e1⟩:=key 10 (by omega) (by omega) (by rw[show Nat.beq r r=true from by simp];rfl)
  rw[show (10:Int) = .ofNat 10 from rfl,e1]
  have h:=run us
  rw[show Uj (Bp n) L L 0 0 (Aj .i64 (Int.mul (.ofNat r) (.ofNat r))) 0 [.int .u8 y0,.int .u8 y1,.int .u8 y2,.int .u8 y3,.int .u8 (x 0),.int .u8 (x 1),.int .u8 (x 2),.int .u8 (x 3),.int .u8 (x 4),.int .u8 (x 5),.int .u8 (x 6),.int .u8 (x 7),.int .u8 (x 8),.int .u8 (x 9),.int .u8 (x 10),.int .u8 (x 11),.int .u8 (x 12),.int .u8 (x 13),.int .u8 (x 14),.int .u8 (x 15)] 0 0 0 (.ofNat r) (.ofNat r) (.ofNat k) ⟨len us,0,CX us⟩ []=_ from h]
  exact fin us hg
 ·rw[decide_eq_false fun h=>e (Int.ofNat.inj h),AA]
  obtain⟨us,hg,e1⟩:=key 5 (by omega) (by omega) (by rw[show Nat.beq r c=false from by cases h:Nat.beq r c with | false=>rfl | true=>exact absurd (Nat.eq_of_beq_eq_true h) e];rfl)
  rw[show (5:Int) = .ofNat 5 from rfl,e1]
  have h:=run us
  rw[show Uj (Bp n) L L 0 0 (Aj .i64 (Int.mul (.ofNat r) (.ofNat c))) 0 [.int .u8 y0,.int .u8 y1,.int .u8 y2,.int .u8 y3,.int .u8 (x 0),.int .u8 (x 1),.int .u8 (x 2),.int .u8 (x 3),.int .u8 (x 4),.int .u8 (x 5),.int .u8 (x 6),.int .u8 (x 7),.int .u8 (x 8),.int .u8 (x 9),.int .u8 (x 10),.int .u8 (x 11),.int .u8 (x 12),.int .u8 (x 13),.int .u8 (x 14),.int .u8 (x 15)] 0 0 0 (.ofNat r) (.ofNat c) (.ofNat k) ⟨len us,0,CX us⟩ []=_ from h]
  exact fin us hg
end Go.BkQ
namespace Go.BkH
section
variable {α:Type} (lt:α→α→Bool)
def TY (x:α):List α→List α
 | []=>[x]
 | y::r=>if lt y x=true then y::TY x r else x::TY y r
def pass:List α→List α
 | []=>[]
 | x::r=>TY lt x r
def Je:Nat→List α→List α
 | 0,l=>l
 | n+1,l=>Je n (pass lt l)
end
variable {α:Type} {lt:α→α→Bool}
theorem Kh:∀ (x:α) (r:List α),(TY lt x r).Perm (x::r)
 | x,[]=>.refl _
 | x, y :: r => by
  unfold TY
  by_cases h:lt y x=true
  ·rw[if_pos h];exact((Kh x r).cons y).trans (.swap x y r)
  ·rw[if_neg h];exact(Kh y r).cons x
theorem Yl:∀ l:List α,(pass lt l).Perm l
 | []=>.refl _
 | x::r=>Kh x r
theorem Ki:∀ (n:Nat) (l:List α),(Je lt n l).Perm l
 | 0,_=>.refl _
 | n+1,l=>(Ki n _).trans (Yl l)
def zW (lt:α→α→Bool) (a b:List α):Prop:=b.Pairwise (fun x y=>lt x y=true)∧∀ x∈a,∀ y∈b,lt x y=true
theorem Qq (hasym : ∀ a b, lt a b = true → lt b a = false) : ∀ (x : α) (b : List α), (x :: b).Pairwise (fun x y => lt x y = true) → TY lt x b = x :: b
 | _,[],_=>rfl
 | x, y :: b, h => by
  obtain⟨h1,h2⟩:=List.pairwise_cons.1 h
  unfold TY
  rw[if_neg (by rw[hasym _ _ (h1 y (by simp))];simp),Qq hasym y b h2]
theorem Qr (D:α→α→Prop) (hasym:∀ a b,lt a b=true→lt b a=false) (htrans:∀ a b c,lt a b=true→lt b c=true→lt a c=true) (htri:∀ a b,D a b→lt a b=false→lt b a=true) :
 ∀ (a:List α) (x:α) (b:List α),(x::a).Pairwise D→(∀ p q,D p q→D q p)→zW lt (x::a) b→∃ a' m,TY lt x (a++b)=a'++m::b∧(a'++[m]).Perm (x::a)∧zW lt a' (m::b)∧a'.length=a.length
 | [],x,b,_,_,hT=>⟨[],x,Qq hasym x b (List.pairwise_cons.2 ⟨hT.2 x (by simp),hT.1⟩),.refl _,⟨List.pairwise_cons.2 ⟨hT.2 x (by simp),hT.1⟩,by simp⟩,rfl⟩
 | y :: a, x, b, hD, hs, hT => by
  obtain⟨d1,d2⟩:=List.pairwise_cons.1 hD
  obtain⟨d3,d4⟩:=List.pairwise_cons.1 d2
  show ∃ a' m,(if lt y x=true then y::TY lt x (a++b) else x::TY lt y (a++b))=a'++m::b∧_
  by_cases h:lt y x=true
  ·rw[if_pos h]
   obtain⟨a',m,e1,e2,e3,e4⟩:=Qr D hasym htrans htri a x b (List.pairwise_cons.2 ⟨fun z hz=>d1 z (by simp[hz]),d4⟩) hs ⟨hT.1,fun z hz=>hT.2 z (by rcases List.mem_cons.1 hz with rfl | hz <;> simp[*])⟩
   have hx:x∈a'++[m]:=e2.symm.subset (by simp)
   have hym:lt y m=true:=by
    rcases List.mem_append.1 hx with hx | hx
    ·exact htrans _ _ _ h (e3.2 x hx m (by simp))
    ·rw[←List.mem_singleton.1 hx];exact h
   refine⟨y::a',m,by rw[e1];rfl,(e2.cons y).trans (.swap x y a),⟨e3.1,fun z hz w hw=>?_⟩,by simp[e4]⟩
   rcases List.mem_cons.1 hz with rfl | hz
   ·rcases List.mem_cons.1 hw with rfl | hw
    ·exact hym
    ·exact hT.2 z (by simp) w hw
   ·exact e3.2 z hz w hw
  ·rw[if_neg h]
   obtain⟨a',m,e1,e2,e3,e4⟩:=Qr D hasym htrans htri a y b d2 hs ⟨hT.1,fun z hz=>hT.2 z (by simp[hz])⟩
   have hxy:lt x y=true:=htri y x (hs _ _ (d1 y (by simp))) (by simpa using h)
   have hx:y∈a'++[m]:=e2.symm.subset (by simp)
   have hxm:lt x m=true:=by
    rcases List.mem_append.1 hx with hx | hx
    ·exact htrans _ _ _ hxy (e3.2 y hx m (by simp))
    ·rw[←List.mem_singleton.1 hx];exact hxy
   refine⟨x::a',m,by rw[e1];rfl,e2.cons x,⟨e3.1,fun z hz w hw=>?_⟩,by simp[e4]⟩
   rcases List.mem_cons.1 hz with rfl | hz
   ·rcases List.mem_cons.1 hw with rfl | hw
    ·exact hxm
    ·exact hT.2 z (by simp) w hw
   ·exact e3.2 z hz w hw
theorem KJ (D:α→α→Prop) (hasym:∀ a b,lt a b=true→lt b a=false) (htrans:∀ a b c,lt a b=true→lt b c=true→lt a c=true) (htri:∀ a b,D a b→lt a b=false→lt b a=true) (hs:∀ p q,D p q→D q p) :
 ∀ (n:Nat) (a b:List α),a.length≤n→a.Pairwise D→zW lt a b→(Je lt n (a++b)).Pairwise fun x y=>lt x y=true
 | 0, a, b, hn, _, hT => by
  obtain rfl:=List.eq_nil_of_length_eq_zero (show a.length=0 by omega)
  exact hT.1
 | n + 1, [], b, _, _, hT => by
  show (Je lt n (pass lt b)).Pairwise _
  have:pass lt b=b:=by
   cases b with
   | nil=>rfl
   | cons x r=>exact Qq hasym x r hT.1
  rw[this]
  exact KJ D hasym htrans htri hs n [] b (by simp) .nil hT
 | n + 1, x :: a, b, hn, hD, hT => by
  obtain⟨a',m,e1,e2,e3,e4⟩:=Qr D hasym htrans htri a x b hD hs hT
  show (Je lt n (TY lt x (a++b))).Pairwise _
  rw[e1]
  have hD':(a'++[m]).Pairwise D:=e2.symm.pairwise hD fun h=>hs _ _ h
  exact KJ D hasym htrans htri hs n a' (m::b) (by simp at hn;omega) (List.pairwise_append.1 hD').1 e3
theorem QC (D:α→α→Prop) (hasym:∀ a b,lt a b=true→lt b a=false) (htrans:∀ a b c,lt a b=true→lt b c=true→lt a c=true) (htri:∀ a b,D a b→lt a b=false→lt b a=true) (hs:∀ p q,D p q→D q p) {l:List α} (h:l.Pairwise D):(Je lt l.length l).Pairwise fun x y=>lt x y=true:=by
 have:=KJ D hasym htrans htri hs l.length l [] (Nat.le_refl _) h ⟨.nil,by simp⟩
 rwa [List.append_nil] at this
end Go.BkH
set_option maxRecDepth 100000
set_option maxHeartbeats 4000000
namespace Go.BkQ
open Go Go.Sp Go.BkOM Go.BkH
section
variable (n M:Nat) (s s3 s4:Sl) (n2 c2:Nat) (za zb R C Kk:Int) (q2:List Value)
theorem UY (hq2:Au Ah q2=true) (ih0:Sl→Nat→Nat→Nat→Nat→Sl→Int→Int→Int→Int→Int→Sl→List Value→List Value→Option Value) {m:Nat} (hm:m < 900000) {K:List (List Int)} (hK:K.length < 900000) (he:CY m K) {y:List Int} (hy:y.length=m) (n1 c1 c3:Nat) :
 ∀ (d w i:Nat) (b:Bool),i+d=K.length→d < w →
 QF (Bp (n+1)) M ih0 w s n1 c1 n2 c2 (sl 0 y) b s3 za zb K.length c3 (.ofNat K.length) (.ofNat i) R C Kk s4 (RW K) q2=OY (Bp (n+1)) M ih0 s n1 c1 n2 c2 (sl 0 y) (b || decide (y∈K.drop i)) s3 za zb R C Kk s4 (RW K) q2
 | _,0,_,_,_,h=>by omega
 | 0, w + 1, i, b, hd, _ => by
  show OZ (Bp (n+1)) M ih0 (QF (Bp (n+1)) M ih0 w) s n1 c1 n2 c2 (sl 0 y) b s3 za zb K.length c3 (.ofNat K.length) (.ofNat i) R C Kk s4 (RW K) q2=_
  unfold OZ
  simp only[Ca,hq2,Ak,Eo (show ¬ i < K.length from by omega),AA,List.drop_eq_nil_of_le (show K.length≤i by omega)]
  simp
 | d + 1, w + 1, i, b, hd, hw => by
  have h1:i < K.length:=by omega
  have hi:K[i].length=m:=he _ (List.getElem_mem h1)
  have h2:Bp (n+1) 10120 [Sl.v 1 (sl 0 K[i]),Sl.v 1 (sl 0 y)]=some (.tuple ⟨[.bool (decide (K[i]=y))]⟩):=Gn n 0 0 (by omega)
  have ih:=fun b=>UY hq2 ih0 hm hK he hy n1 c1 c3 d w (i+1) b (by omega) (by omega)
  have e:decide (y∈K.drop i)=(decide (K[i]=y) || decide (y∈K.drop (i+1))):=by
   rw[List.drop_eq_getElem_cons h1,←Bool.decide_or]
   exact decide_eq_decide.2 (by rw[List.mem_cons];exact⟨fun h=>h.imp Eq.symm id,fun h=>h.imp Eq.symm id⟩)
  show OZ (Bp (n+1)) M ih0 (QF (Bp (n+1)) M ih0 w) s n1 c1 n2 c2 (sl 0 y) b s3 za zb K.length c3 (.ofNat K.length) (.ofNat i) R C Kk s4 (RW K) q2=_
  unfold OZ
  simp only[Ca,hq2,Ak,Fj h1,Cx,Ac,Dn h1,gI h1,Dc,DC i (by omega),h2,FW,Dj,EG,BU,ih,e]
  cases b with
  | true=>simp only[Ak,Bool.true_or]
  | false=>simp only[AA,Bool.false_or]
def FN:List (List Int)→List (List Int)→List (List Int)
 | K,[]=>K
 | K,y::r=>FN (if y∈K then K else K++[y]) r
theorem zX (hq2:Au Ah q2=true) (ih0:Sl→Nat→Nat→Nat→Nat→Sl→Int→Int→Int→Int→Int→Sl→List Value→List Value→Option Value) {K:List (List Int)} (hK:K.length < 100) {y:List Int} {c1 i:Nat} (h1:c1 / 2=K.length) (h2:c1 % 2=0) (hi:i < 900000) (b:Bool) (hb:b=decide (y∈K)) :
 ∃ c1',c1' / 2=(if y∈K then K else K++[y]).length∧c1' % 2=0∧OY (Bp n) M ih0 s K.length c1 n2 c2 (sl 0 y) b s3 za (.ofNat i) R C Kk s4 (RW K) q2=ih0 s (if y∈K then K else K++[y]).length c1' n2 c2 s3 za (.ofNat (i+1)) R C Kk s4 (RW (if y∈K then K else K++[y])) q2:=by
 subst hb
 by_cases h:y∈K
 ·refine⟨c1,by rw[if_pos h];exact h1,h2,?_⟩
  rw[if_pos h,decide_eq_true h]
  unfold OY QE
  simp only[Ca,hq2,Ak,show nt true=false from rfl,AA,DC i (by omega)]
 ·refine⟨2*(K.length+1)+bb false 1 0,?_,?_,?_⟩
  ·rw[if_neg h,List.length_append];show (2*(K.length+1)+0) / 2=K.length+1;omega
  ·show (2*(K.length+1)+0) % 2=0;omega
  ·rw[if_neg h,decide_eq_false h]
   unfold OY QE
   simp only[Ca,hq2,Ak,show nt false=true from rfl,Qk (show K.length≤2000 from by omega) h1 h2,lU,DC i (by omega),List.length_append,List.length_singleton]
end
section
variable (n M f g:Nat) {r c k:Nat} {us:List Nat} {x:List Int}
theorem KU {m:Nat}:∀ {l K:List (List Int)},CY m K→CY m l→CY m (FN K l)
 | [],_,h,_=>h
 | y :: l, K, h, hl => by
  show CY m (FN (if y∈K then K else K++[y]) l)
  refine KU (fun z hz=>?_) fun z hz=>hl z (by simp[hz])
  by_cases hy:y∈K
  ·rw[if_pos hy] at hz;exact h z hz
  ·rw[if_neg hy] at hz
   rcases List.mem_append.1 hz with hz | hz
   ·exact h z hz
   ·rw[List.mem_singleton.1 hz];exact hl y (by simp)
theorem UZ:∀ {l K:List (List Int)} (z:List Int),z∈FN K l↔z∈K∨z∈l
 | [],K,z=>by simp[FN]
 | y :: l, K, z => by
  show z∈FN (if y∈K then K else K++[y]) l↔_
  rw[UZ]
  by_cases hy:y∈K
  ·rw[if_pos hy,List.mem_cons]
   exact⟨fun h=>h.imp id .inr,fun h=>h.elim .inl fun h=>h.elim (fun e=>.inl (e ▸ hy)) .inr⟩
  ·rw[if_neg hy,List.mem_append,List.mem_singleton,List.mem_cons,or_assoc]
theorem Qs:∀ {l K:List (List Int)},K.Nodup→(FN K l).Nodup
 | [],_,h=>h
 | y :: l, K, h => by
  show (FN (if y∈K then K else K++[y]) l).Nodup
  refine Qs ?_
  by_cases hy:y∈K
  ·rw[if_pos hy];exact h
  ·rw[if_neg hy]
   exact List.nodup_append.2 ⟨h,by simp,by intro a ha b hb e;rw[List.mem_singleton.1 hb] at e;rw[e] at ha;exact hy ha⟩
theorem U0:∀ {l K:List (List Int)},(FN K l).length≤K.length+l.length
 | [],_=>Nat.le_refl _
 | y :: l, K => by
  show (FN (if y∈K then K else K++[y]) l).length≤_
  refine Nat.le_trans (U0 (l:=l)) ?_
  by_cases hy:y∈K
  ·rw[if_pos hy,List.length_cons];omega
  ·rw[if_neg hy,List.length_append,List.length_cons];simp;omega
theorem Nc (hg:(r,c,us)∈Bq) (hk:k=1∨k=2∨k=3∨k=4) (hR:FL r c k x) (hM:100 < M):∀ (rest:List Nat) (w i c1 c2:Nat) (K:List (List Int)) (q:List Int),us.drop i=rest→rest.length < w→K.length≤i→q.length≤i→CY (r*c) K→c1 / 2=K.length→c1 % 2=0→c2 / 2=q.length→c2 % 2=0 →
 ∃ c1' c2',c1' / 2=(FN K (BB r c x rest)).length∧c1' % 2=0∧c2' / 2=(q++Ey r c x rest).length∧c2' % 2=0 ∧
 Gl (Bp (n + 8)) M w (sl f x) K.length c1 q.length c2 ⟨len us, g, CX us⟩ (.ofNat (len us)) (.ofNat i) (.ofNat r) (.ofNat c) (.ofNat k) ⟨len us, g, CX us⟩ (RW K) (q.map I)
  = XQ (Bp (n+8)) M (sl f x) (FN K (BB r c x rest)).length c1' (q++Ey r c x rest).length c2' (.ofNat r) (.ofNat c) (.ofNat k) ⟨len us,g,CX us⟩ (RW (FN K (BB r c x rest))) ((q++Ey r c x rest).map I)
 | _,0,_,_,_,_,_,_,h,_,_,_,_,_,_,_=>by omega
 | [], w + 1, i, c1, c2, K, q, hd, _, _, _, _, a1, a2, a3, a4 => by
  have h1:us.length≤i:=List.drop_eq_nil_iff.1 hd
  refine⟨c1,c2,a1,a2,?_,a4,?_⟩
  ·rw[show Ey r c x []=[] from rfl,List.append_nil];exact a3
  ·show O0 (Bp (n+8)) M (Gl (Bp (n+8)) M w) (sl f x) K.length c1 q.length c2 ⟨len us,g,CX us⟩ (.ofNat (len us)) (.ofNat i) (.ofNat r) (.ofNat c) (.ofNat k) ⟨len us,g,CX us⟩ (RW K) (q.map I)=_
   unfold O0
   simp only[Ca,CK,Ak,Eo (show ¬ i < len us from by rw[AV];omega),AA,show Ey r c x []=[] from rfl,List.append_nil,show BB r c x []=[] from rfl,FN]
 | t :: rest, w + 1, i, c1, c2, K, q, hd, hw, hKi, hqi, he, a1, a2, a3, a4 => by
  obtain⟨hget,hd2,hi⟩:=UL hd
  have hrl:(t::rest).length=rest.length+1:=rfl
  have hp:=Co hg
  have hrc:r*c≤16:=Nat.mul_le_mul hp.r4 hp.c4
  have ht:t∈us:=List.mem_of_getElem? (OM hd)
  have hpl:(pick x (cellL r c t)).length=r*c:=Kc (k:=k) hg ht
  have h8:=hp.len8
  have e1:Bp (n+8) 10 [Sl.v 1 (sl f x),.int .i64 (.ofNat r),.int .i64 (.ofNat c),.int .i64 (.ofNat t)]=some (Sl.v 1 (sl 0 (pick x (cellL r c t)))):=K7 (n+6) f hg ht hR.1
  have e2:Bp (n+8) 11 [.agg ⟨[.int .i64 (.ofNat r),.int .i64 (.ofNat c),.int .i64 (.ofNat k),Sl.v 1 ⟨len us,g,CX us⟩]⟩,Sl.v 1 (sl f x),.int .i64 (.ofNat t)]=some (.tuple ⟨[Sl.v 1 (sl 0 (pick x (cellL r c t))),I 0]⟩):=fV n f g hk hg ht hR
  have e3:Bp (n+8) 10120 [Sl.v 1 (sl 0 (pick x (cellL r c t))),Sl.v 1 (sl 0 (pick x (cellL r c t)))]=some (.tuple ⟨[.bool true]⟩):=by
   have:=Gn (n+7) 0 0 (a:=pick x (cellL r c t)) (b:=pick x (cellL r c t)) (by omega)
   rw[decide_eq_true rfl] at this;exact this
  have e4:Bp (n+8) 10120 [Sl.v 1 (sl f x),Sl.v 1 (sl 0 (pick x (cellL r c t)))]=some (.tuple ⟨[.bool (decide (x=pick x (cellL r c t)))]⟩):=Gn (n+7) f 0 (by have:=hR.1;omega)
  have hblt:an (Nat.blt i (len us)) true=true:=Dn (by rw[AV];exact hi)
  have hilt:AY (.ofNat i) (.ofNat (len us))=true:=Fj (by rw[AV];exact hi)
  have old : ∀ (c1 n2 c2 : Nat) (q2 : List Value), Au Ah q2 = true → c1 / 2 = K.length → c1 % 2 = 0 → ∃ c1', c1' / 2 = (if pick x (cellL r c t) ∈ K then K else K ++ [pick x (cellL r c t)]).length ∧ c1' % 2 = 0 ∧
   QG (Bp (n+8)) M (Gl (Bp (n+8)) M w) (sl f x) K.length c1 n2 c2 (sl 0 (pick x (cellL r c t))) ⟨len us,g,CX us⟩ (.ofNat (len us)) (.ofNat i) (.ofNat r) (.ofNat c) (.ofNat k) ⟨len us,g,CX us⟩ (RW K) q2
   = Gl (Bp (n+8)) M w (sl f x) (if pick x (cellL r c t)∈K then K else K++[pick x (cellL r c t)]).length c1' n2 c2 ⟨len us,g,CX us⟩ (.ofNat (len us)) (.ofNat (i+1)) (.ofNat r) (.ofNat c) (.ofNat k) ⟨len us,g,CX us⟩ (RW (if pick x (cellL r c t)∈K then K else K++[pick x (cellL r c t)])) q2:=by
   intro c1 n2 c2 q2 hq2 b1 b2
   obtain⟨c1',g1,g2,g3⟩:=zX (n+8) M (sl f x) ⟨len us,g,CX us⟩ ⟨len us,g,CX us⟩ n2 c2 (.ofNat (len us)) (.ofNat r) (.ofNat c) (.ofNat k) q2 hq2 (Gl (Bp (n+8)) M w) (K:=K) (by omega) (y:=pick x (cellL r c t)) (c1:=c1) (i:=i) b1 b2 (by omega) _ rfl
   refine⟨c1',g1,g2,?_⟩
   rw[←g3]
   unfold QG
   rw[Ca,hq2,Ak,Ak]
   have:=UY (n+7) M (sl f x) ⟨len us,g,CX us⟩ ⟨len us,g,CX us⟩ n2 c2 (.ofNat (len us)) (.ofNat i) (.ofNat r) (.ofNat c) (.ofNat k) q2 hq2 (Gl (Bp (n+8)) M w) (m:=r*c) (by omega) (K:=K) (by omega) he hpl K.length c1 c1 K.length M 0 false (by omega) (by omega)
   rw[List.drop_zero,Bool.false_or] at this
   exact this
  have hK':(if pick x (cellL r c t)∈K then K else K++[pick x (cellL r c t)]).length≤i+1:=by
   by_cases h:pick x (cellL r c t)∈K
   ·rw[if_pos h];omega
   ·rw[if_neg h,List.length_append];simp;omega
  have he':CY (r*c) (if pick x (cellL r c t)∈K then K else K++[pick x (cellL r c t)]):=KU (l:=[pick x (cellL r c t)]) he fun z hz=>by rw[List.mem_singleton.1 hz];exact hpl
  show ∃ c1' c2',_∧_∧_∧_∧O0 (Bp (n+8)) M (Gl (Bp (n+8)) M w) (sl f x) K.length c1 q.length c2 ⟨len us,g,CX us⟩ (.ofNat (len us)) (.ofNat i) (.ofNat r) (.ofNat c) (.ofNat k) ⟨len us,g,CX us⟩ (RW K) (q.map I)=_
  unfold O0 Ui
  simp only[Ca,CK,Ak,hilt,Cx,Ac,hblt,hget,BP,e1,Dc,e2,FW,Dj,EG,Wt,AA,e3,e4,BU,show nt true=false from rfl,show BB r c x (t::rest)=pick x (cellL r c t)::BB r c x rest from rfl,FN,PO]
  by_cases hs:pick x (cellL r c t)=x
  ·rw[if_pos hs,decide_eq_true hs.symm]
   simp only[Ak,lQ (show q.length≤2000 from by omega) a3 a4,lS,CK]
   obtain⟨c1',g1,g2,g3⟩:=old c1 (q.length+1) (2*(q.length+1)+0) ((q++[Int.ofNat t]).map I) (CK _) a1 a2
   rw[g3]
   obtain⟨d1,d2,k1,k2,k3,k4,k5⟩:=Nc hg hk hR hM rest w (i+1) c1' (2*(q.length+1)+0) _ (q++[Int.ofNat t]) hd2 (by omega) hK' (by simp;omega) he' g1 g2 (by rw[List.length_append];show (2*(q.length+1)+0) / 2=q.length+1;omega) (by show (2*(q.length+1)+0) % 2=0;omega)
   rw[List.append_assoc] at k3 k5
   refine⟨d1,d2,k1,k2,k3,k4,?_⟩
   rw[List.length_append] at k5
   exact k5
  ·rw[if_neg hs,decide_eq_false fun e=>hs e.symm]
   simp only[AA]
   obtain⟨c1',g1,g2,g3⟩:=old c1 q.length c2 (q.map I) (CK _) a1 a2
   rw[g3]
   exact Nc hg hk hR hM rest w (i+1) c1' c2 _ q hd2 (by omega) hK' (by omega) he' g1 g2 a3 a4
end
end Go.BkQ
set_option maxRecDepth 100000
set_option maxHeartbeats 4000000
namespace Go.BkQ
open Go Go.Sp Go.BkOM Go.BkH
section
variable (n M:Nat) (s s4:Sl) (n2 c1 c2:Nat) (za R C Kk:Int) (q2:List Value)
theorem Nf (hq2:Au Ah q2=true) (ih0:Sl→Nat→Nat→Nat→Nat→Int→Int→Int→Int→Int→Sl→List Value→List Value→Option Value) (zi:Int) {m:Nat} (hm:m < 900000):∀ (B:List (List Int)) (w:Nat) (A:List (List Int)) (x:List Int),B.length < w→(A++x::B).length < 900000→CY m (A++x::B) →
 Nh (Bp (n+1)) M ih0 w s (A++x::B).length c1 n2 c2 (.ofNat (A.length+1)) za zi R C Kk s4 (RW (A++x::B)) q2=QD (Bp (n+1)) M ih0 s (A++x::B).length c1 n2 c2 za zi R C Kk s4 (RW (A++TY Gp x B)) q2
 | _,0,_,_,h,_,_=>by omega
 | [], w + 1, A, x, _, _, _ => by
  show OX (Bp (n+1)) M ih0 (Nh (Bp (n+1)) M ih0 w) s (A++[x]).length c1 n2 c2 (.ofNat (A.length+1)) za zi R C Kk s4 (RW (A++[x])) q2=_
  unfold OX
  simp only[Ca,hq2,Ak,Eo (show ¬ A.length+1 < (A++[x]).length from by simp),AA]
  rfl
 | y :: B, w + 1, A, x, hw, hl, he => by
  have hlen:(A++x::y::B).length=A.length+B.length+2:=by simp;omega
  have h1:A.length+1 < (A++x::y::B).length:=by omega
  have h0:A.length < (A++x::y::B).length:=by omega
  have gy:AL (RW (A++x::y::B)) (0+(A.length+1)*1)=some (Sl.v 1 (sl 0 y)):=L6 (l:=A++x::y::B) (i:=A.length+1) (by simp) _ (by omega)
  have gx:AL (RW (A++x::y::B)) (0+A.length*1)=some (Sl.v 1 (sl 0 x)):=L6 (l:=A++x::y::B) (i:=A.length) (by simp) _ (by omega)
  have hx:x.length=m:=he x (by simp)
  have hy:y.length=m:=he y (by simp)
  have e1:Bp (n+1) 13 [Sl.v 1 (sl 0 y),Sl.v 1 (sl 0 x)]=some (.bool (Gp y x)):=gY n 0 0 (by omega) (by omega)
  have hs1:BM ([(Sl.v 1 (sl 0 x))]:List Value) (0+(A.length+1)*1) (RW (A++x::y::B))=RW ((A++x::y::B).set (A.length+1) x):=dB x h1
  have hs2:BM ([(Sl.v 1 (sl 0 y))]:List Value) (0+A.length*1) (RW ((A++x::y::B).set (A.length+1) x))=RW (A++y::x::B):=by
   rw[dB y (by simp)]
   congr 1
   simp[List.set_append]
  have hlS:len (RW ((A++x::y::B).set (A.length+1) x))=(A++x::y::B).length:=by rw[KZ];simp
  have hnext:∀ u:List Int,(A++[u]).length=A.length+1:=fun u=>by simp
  show OX (Bp (n+1)) M ih0 (Nh (Bp (n+1)) M ih0 w) s (A++x::y::B).length c1 n2 c2 (.ofNat (A.length+1)) za zi R C Kk s4 (RW (A++x::y::B)) q2=_
  unfold OX Uh
  simp only[Ca,hq2,Ak,Fj h1,Cx,Ac,Dn h1,Dn h0,gy,gx,Dc,XK A.length (by omega),e1,BU,hs1,hs2,KZ,hlS,dC h1,dC h0,DC (A.length+1) (by omega)]
  have hL:∀ u v:List Int,(A++x::y::B).length=((A++[u])++v::B).length:=fun u v=>by simp
  by_cases h:Gp y x=true
  ·rw[h,Ak]
   have ih:=Nf hq2 ih0 zi hm B w (A++[y]) x (by simp at hw;omega) (by rw[←hL];exact hl) (fun z hz=>he z (by simp at hz ⊢;rcases hz with h | h | h | h <;> simp[h]))
   rw[←hL,hnext,List.append_assoc,List.append_assoc] at ih
   rw[show TY Gp x (y::B)=y::TY Gp x B from by show (if _ then _ else _)=_;rw[if_pos h]]
   exact ih
  ·rw[Bool.eq_false_iff.2 h,AA]
   have ih:=Nf hq2 ih0 zi hm B w (A++[x]) y (by simp at hw;omega) (by rw[←hL];exact hl) (fun z hz=>he z (by simpa using hz))
   rw[←hL,hnext,List.append_assoc,List.append_assoc] at ih
   rw[show TY Gp x (y::B)=x::TY Gp y B from by show (if _ then _ else _)=_;rw[if_neg h]]
   exact ih
theorem OA (hq2:Au Ah q2=true) {m:Nat} (hm:m < 900000) {N:Nat} (hN:N < 800) (hM:1000 < M):∀ (d w i:Nat) (l:List (List Int)),d < w→i+d=N→l.length=N→CY m l →
 KY (Bp (n+1)) M w s l.length c1 n2 c2 (.ofNat N) (.ofNat i) R C Kk s4 (RW l) q2=V5 (Bp (n+1)) M s l.length c1 n2 c2 R C Kk s4 (RW (Je Gp d l)) q2
 | _,0,_,_,h,_,_,_=>by omega
 | 0, w + 1, i, l, _, hi, hl, _ => by
  show V6 (Bp (n+1)) M (KY (Bp (n+1)) M w) s l.length c1 n2 c2 (.ofNat N) (.ofNat i) R C Kk s4 (RW l) q2=_
  unfold V6
  simp only[Ca,hq2,Ak,Eo (show ¬ i < N from by omega),AA]
  rfl
 | d + 1, w + 1, i, l, hw, hi, hl, he => by
  show V6 (Bp (n+1)) M (KY (Bp (n+1)) M w) s l.length c1 n2 c2 (.ofNat N) (.ofNat i) R C Kk s4 (RW l) q2=_
  unfold V6
  simp only[Ca,hq2,Ak,Fj (show i < N from by omega)]
  match l,hl,he with
  | [],hl,_=>simp at hl;omega
  | x :: B, hl, he =>
   have h1:=Nf n M s s4 n2 c1 c2 (.ofNat N) R C Kk q2 hq2 (KY (Bp (n+1)) M w) (.ofNat i) hm B M [] x (by simp at hl;omega) (by simp at hl ⊢;omega) he
   have h1:Nh (Bp (n+1)) M (KY (Bp (n+1)) M w) M s (x::B).length c1 n2 c2 1 (.ofNat N) (.ofNat i) R C Kk s4 (RW (x::B)) q2=QD (Bp (n+1)) M (KY (Bp (n+1)) M w) s (x::B).length c1 n2 c2 (.ofNat N) (.ofNat i) R C Kk s4 (RW (TY Gp x B)) q2:=h1
   rw[h1]
   have hp:(TY Gp x B).length=(x::B).length:=(Kh x B).length_eq
   have ih:=OA hq2 hm hN hM d w (i+1) (TY Gp x B) (by omega) (by omega) (by rw[hp];exact hl) (fun z hz=>he z ((Kh x B).subset hz))
   rw[hp] at ih
   unfold QD
   simp only[Ca,hq2,Ak,DC i (by omega)]
   exact ih
theorem Wz {r c:Nat} {us:List Nat} {x:List Int} (hg:(r,c,us)∈Bq):Je Gp (FN [] (BB r c x us)).length (FN [] (BB r c x us))=M9 r c x us:=by
 have he:CY (r*c) (BB r c x us):=Dr hg fun t h=>h
 have heA:CY (r*c) (FN [] (BB r c x us)):=KU (fun z hz=>by cases hz) he
 obtain⟨h1,h2⟩:=FM he
 refine M8 ?_ h1 fun z=>?_
 ·refine QC (lt:=Gp) (fun a b:List Int=>a≠b∧a.length=b.length) (fun _ _ h=>JO h) (fun _ _ _ h1 h2=>Gv h1 h2) (fun a b (h:a≠b∧a.length=b.length) h2=>LZ h.2 h.1 h2) (fun p q (h:p≠q∧p.length=q.length)=>⟨Ne.symm h.1,h.2.symm⟩) ?_
  have hn:(FN [] (BB r c x us)).Nodup:=Qs .nil
  refine List.Pairwise.imp_of_mem (fun {a b} ha hb hne=>⟨hne,by rw[heA a ha,heA b hb]⟩) hn
 ·rw[(Ki _ _).mem_iff,UZ]
  exact⟨fun h=>(h2 z).2 (h.resolve_left fun h=>by cases h),fun h=>.inr ((h2 z).1 h)⟩
end
noncomputable def zZ (l:List Nat):Bool:=List.rec (motive:=fun _=>Bool) true (fun a r ih=>an (Au (fun b=>Nat.blt a b) r) ih) l
theorem XO:∀ {l:List Nat},zZ l=true→l.Pairwise (· < ·)
 | [],_=>.nil
 | a :: r, h => by
  obtain⟨h1,h2⟩:=Av (show an (Au (fun b=>Nat.blt a b) r) (zZ r)=true from h)
  rw[Bh,List.all_eq_true] at h1
  exact List.pairwise_cons.2 ⟨fun b hb=>by have:=h1 b hb;rw[blt_eq] at this;exact of_decide_eq_true this,XO h2⟩
theorem iC:Au (fun p:Nat×Nat×List Nat=>zZ p.2.2) Bq=true:=by kernel_rfl
theorem Aaa {r c:Nat} {us:List Nat} (hg:(r,c,us)∈Bq):us.Pairwise (· < ·):=by
 have h:=iC
 rw[Bh,List.all_eq_true] at h
 exact XO (h _ hg)
theorem OB {r c:Nat} {x y:List Int}:∀ {us:List Nat},us.Pairwise (· < ·)→y∈BB r c x us→∃ t,t∈us∧Jd r c x y us=(.ofNat t,0)∧pick x (cellL r c t)=y∧∀ u∈us,u < t→pick x (cellL r c u)≠y
 | [],_,h=>by cases h
 | t :: us, hp, h => by
  obtain⟨h1,h2⟩:=List.pairwise_cons.1 hp
  unfold Jd
  by_cases e:pick x (cellL r c t)=y
  ·rw[if_pos e]
   refine⟨t,by simp,rfl,e,fun u hu hut=>?_⟩
   rcases List.mem_cons.1 hu with rfl | hu
   ·omega
   ·have:=h1 u hu;omega
  ·rw[if_neg e]
   have h:y∈BB r c x us:=by
    rcases List.mem_cons.1 (show y∈pick x (cellL r c t)::BB r c x us from h) with h | h
    ·exact absurd h.symm e
    ·exact h
   obtain⟨t',a1,a2,a3,a4⟩:=OB h2 h
   refine⟨t',by simp[a1],a2,a3,fun u hu hut=>?_⟩
   rcases List.mem_cons.1 hu with rfl | hu
   ·exact e
   ·exact a4 u hu hut
section
variable (n M f g:Nat) {r c k:Nat} {us:List Nat} {x:List Int}
theorem RU (hg:(r,c,us)∈Bq) (hx:x.length=r*c) {y:List Int} (hy:y.length=r*c) {t:Nat} (ht:∀ u∈us,u < t→pick x (cellL r c u)≠y) (ih0:Sl→Sl→Sl→Int→Int→Int→Int→Int→Sl→Option Value) (s1 s2:Sl) (za zi R C Kk:Int) (hR:R = .ofNat r) (hC:C = .ofNat c):∀ (rest:List Nat) (w j:Nat),us.drop j=rest→rest.length < w →
 V3 (Bp (n+8)) M ih0 w (sl f x) s1 (sl 0 y) (.ofNat t) s2 za zi ⟨len us,g,CX us⟩ (.ofNat (len us)) (.ofNat j) R C Kk ⟨len us,g,CX us⟩=ZI (Bp (n+8)) M ih0 (sl f x) s1 s2 za zi R C Kk ⟨len us,g,CX us⟩
 | _,0,_,_,h=>by omega
 | [], w + 1, j, hd, _ => by
  have h1:us.length≤j:=List.drop_eq_nil_iff.1 hd
  show VZ (Bp (n+8)) M ih0 (V3 (Bp (n+8)) M ih0 w) (sl f x) s1 (sl 0 y) (.ofNat t) s2 za zi ⟨len us,g,CX us⟩ (.ofNat (len us)) (.ofNat j) R C Kk ⟨len us,g,CX us⟩=_
  unfold VZ
  simp only[Eo (show ¬ j < len us from by rw[AV];omega),AA]
 | u :: rest, w + 1, j, hd, hw => by
  subst hR hC
  obtain⟨hget,hd2,hi⟩:=UL hd
  have hrl:(u::rest).length=rest.length+1:=rfl
  have hp:=Co hg
  have hrc:r*c≤16:=Nat.mul_le_mul hp.r4 hp.c4
  have hu:u∈us:=List.mem_of_getElem? (OM hd)
  have hpl:(pick x (cellL r c u)).length=r*c:=Kc (k:=1) hg hu
  have h8:=hp.len8
  have e1:Bp (n+8) 10 [Sl.v 1 (sl f x),.int .i64 (.ofNat r),.int .i64 (.ofNat c),.int .i64 (.ofNat u)]=some (Sl.v 1 (sl 0 (pick x (cellL r c u)))):=K7 (n+6) f hg hu hx
  have e3:Bp (n+8) 10120 [Sl.v 1 (sl 0 (pick x (cellL r c u))),Sl.v 1 (sl 0 y)]=some (.tuple ⟨[.bool (decide (pick x (cellL r c u)=y))]⟩):=Gn (n+7) 0 0 (by omega)
  have ih:=RU hg hx hy ht ih0 s1 s2 za zi _ _ Kk rfl rfl rest w (j+1) hd2 (by omega)
  show VZ (Bp (n+8)) M ih0 (V3 (Bp (n+8)) M ih0 w) (sl f x) s1 (sl 0 y) (.ofNat t) s2 za zi ⟨len us,g,CX us⟩ (.ofNat (len us)) (.ofNat j) (.ofNat r) (.ofNat c) Kk ⟨len us,g,CX us⟩=_
  unfold VZ ZJ
  simp only[Fj (show j < len us from by rw[AV];exact hi),Ak,Cx,Ac,Dn (show j < len us from by rw[AV];exact hi),hget,BP,Cs,e1,Dc,e3,FW,Dj,EG,BU,DC j (by omega),ih]
  by_cases h:u < t
  ·rw[decide_eq_true h,Ak,decide_eq_false (ht u hu h),AA]
  ·rw[decide_eq_false h,AA,AA]
theorem Ym (hg:(r,c,us)∈Bq) {y:List Int} (hy:y∈BB r c x us):M9 r c y us=M9 r c x us:=by
 obtain⟨t,ht,rfl⟩:=List.mem_map.1 hy
 obtain⟨h1,h2⟩:=FM (Dr (x:=pick x (cellL r c t)) hg fun t h=>h)
 obtain⟨h3,h4⟩:=FM (Dr (x:=x) hg fun t h=>h)
 exact M8 h1 h3 fun z=>(h2 z).trans ((Wv hg ht z).trans (h4 z).symm)
theorem VL (hg:(r,c,us)∈Bq) (hk:k=1∨k=2∨k=3∨k=4) (hR:FL r c k x) (hM:100 < M) {K:List (List Int)} (hK:K=M9 r c x us) (hK8:K.length < 100):∀ (d w i:Nat),i+d=K.length→d < w →
 K8 (Bp (n+9)) M w (sl f x) ⟨K.length,0,RW K⟩ ⟨K.length,0,RW K⟩ (.ofNat K.length) (.ofNat i) (.ofNat r) (.ofNat c) (.ofNat k) ⟨len us,g,CX us⟩=some (.bool true)
 | _,0,_,_,h=>by omega
 | 0, w + 1, i, hd, _ => by
  show V4 (Bp (n+9)) M (K8 (Bp (n+9)) M w) (sl f x) ⟨K.length,0,RW K⟩ ⟨K.length,0,RW K⟩ (.ofNat K.length) (.ofNat i) (.ofNat r) (.ofNat c) (.ofNat k) ⟨len us,g,CX us⟩=_
  unfold V4
  simp only[Eo (show ¬ i < K.length from by omega),AA]
  rfl
 | d + 1, w + 1, i, hd, hw => by
  have h1:i < K.length:=by omega
  have h0:0 < K.length:=by omega
  have hp:=Co hg
  have hrc:r*c≤16:=Nat.mul_le_mul hp.r4 hp.c4
  have hmem:∀ z∈K,z∈BB r c x us:=fun z hz=>by
   rw[hK] at hz
   exact((FM (Dr (x:=x) hg fun t h=>h)).2 z).1 hz
  have hy:K[i]∈BB r c x us:=hmem _ (List.getElem_mem h1)
  obtain⟨t,ht,ea,et,hmin⟩:=OB (Aaa hg) hy
  have hRy:FL r c k K[i]:=by rw[←et];exact hR.pick hp ht
  have ef:=gU (n+1) g 0 hg hk hRy
  obtain⟨tl,hh⟩:=PM (x:=K[i]) hg hRy.1
  rw[Ym hg hy,←hK] at hh
  have hmin0:Ka K[i] (BB r c K[i] us)=K[0]:=by
   have e:=congrArg List.head? hh
   rw[List.head?_cons,List.head?_eq_getElem?,List.getElem?_eq_getElem h0] at e
   exact(Option.some.inj e).symm
  rw[hmin0] at ef
  have ef:Bp (n+9) 17 [.agg ⟨[.int .i64 (.ofNat r),.int .i64 (.ofNat c),.int .i64 (.ofNat k),Sl.v 1 ⟨len us,g,CX us⟩]⟩,Sl.v 1 (sl 0 K[i])]=some (.tuple ⟨[Sl.v 1 (sl 0 K[0]),I 0]⟩):=ef
  have eA:=gW (n+1) g f 0 hg hk hR hRy
  rw[ea] at eA
  have eA:Bp (n+9) 18 [.agg ⟨[.int .i64 (.ofNat r),.int .i64 (.ofNat c),.int .i64 (.ofNat k),Sl.v 1 ⟨len us,g,CX us⟩]⟩,Sl.v 1 (sl f x),Sl.v 1 (sl 0 K[i])]=some (.tuple ⟨[I (.ofNat t),I 0]⟩):=eA
  have g0:AL (RW K) (0*1)=some (Sl.v 1 (sl 0 K[0])):=L6 (l:=K) (i:=0) (by simp[h0]) _ rfl
  have gi:AL (RW K) (i*1)=some (Sl.v 1 (sl 0 K[i])):=L6 (l:=K) (i:=i) (by simp[h1]) _ (by omega)
  have hK0:K[0].length=r*c:=Dr hg (fun t h=>h) _ (hmem _ (List.getElem_mem h0))
  have e3:Bp (n+9) 10120 [Sl.v 1 (sl 0 K[0]),Sl.v 1 (sl 0 K[0])]=some (.tuple ⟨[.bool true]⟩):=by
   have:=Gn (n+8) 0 0 (a:=K[0]) (b:=K[0]) (by omega)
   rw[decide_eq_true rfl] at this;exact this
  have e4:Bp (n+9) 10120 [Sl.v 1 (sl 0 K[i]),Sl.v 1 (sl 0 K[i])]=some (.tuple ⟨[.bool true]⟩):=by
   have:=Gn (n+8) 0 0 (a:=K[i]) (b:=K[i]) (by have:=hRy.1;omega)
   rw[decide_eq_true rfl] at this;exact this
  have e1:Bp (n+9) 10 [Sl.v 1 (sl f x),.int .i64 (.ofNat r),.int .i64 (.ofNat c),.int .i64 (.ofNat t)]=some (Sl.v 1 (sl 0 K[i])):=by
   have:=K7 (n+7) f hg ht hR.1
   rw[et] at this;exact this
  have ih:=VL hg hk hR hM hK hK8 d w (i+1) (by omega) (by omega)
  have h8:t≤7:=(hp.row t ht).1
  have tl:=RU (n+1) M f g hg hR.1 (y:=K[i]) hRy.1 (t:=t) hmin (K8 (Bp (n+9)) M w) ⟨K.length,0,RW K⟩ ⟨K.length,0,RW K⟩ (.ofNat K.length) (.ofNat i) (.ofNat r) (.ofNat c) (.ofNat k) rfl rfl us M 0 List.drop_zero (by have:=hp.len8;omega)
  show V4 (Bp (n+9)) M (K8 (Bp (n+9)) M w) (sl f x) ⟨K.length,0,RW K⟩ ⟨K.length,0,RW K⟩ (.ofNat K.length) (.ofNat i) (.ofNat r) (.ofNat c) (.ofNat k) ⟨len us,g,CX us⟩=_
  unfold V4 SA
  simp only[Fj h1,Ak,Cx,Ac,Dn h1,Dn h0,gi,Dc,ef,FW,Dj,EG,BP,eA,Wt,AA,g0,e3,BU,show nt true=false from rfl,show AY (.ofNat t) 0=false from Eo (show ¬ t < 0 from by omega),show AY 7 (.ofNat t)=false from Eo (show ¬ 7 < t from by omega),e1,e4]
  refine Eq.trans tl ?_
  unfold ZI
  rw[DC i (by omega)]
  exact ih
end
end Go.BkQ
