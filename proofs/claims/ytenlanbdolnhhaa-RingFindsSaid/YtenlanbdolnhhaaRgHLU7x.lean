/- From, as the program and the reference have it. -/
import Derived.Test.YtenlanbdolnhhaaRgHLU5x

set_option maxRecDepth 100000
set_option maxHeartbeats 4000000
namespace Go.RgP
open Go Go.Sp Go.RgHM
noncomputable def frV (n f:Nat) (q:List (Nat×List Nat)) (e:Int):Value:=tup2 (Sl.v 2 ⟨q.length,f,qW n q⟩) (IV e)
theorem q37 (k:Nat) (args:List Value):puN (k+1) 37 args=m37 (puN k) L args:=by kernel_rfl
theorem q38 (k:Nat) (args:List Value):puN (k+1) 38 args=m38 (puN k) L args:=by kernel_rfl
def okI (r:List Int):Bool:=r.all fun x=>decide (0≤x∧x≤6)
theorem okI_cons (x:Int) (r:List Int):okI (x::r)=(decide (0≤x∧x≤6) && okI r):=rfl
theorem sum37 (pu:PureF) (L n fl:Nat) {Ds:List Int} (hD:Ds.length≤1000):∀ (r:List Int) (w i:Nat) (z:Int),Ds.drop i=r→r.length < w→i≤Ds.length→0≤z→z≤6*(i:Int) →
 l37_5 pu L w (Int.ofNat n) z ⟨Ds.length,fl,iLI Ds⟩ (Int.ofNat Ds.length) (Int.ofNat i) ⟨Ds.length,fl,iLI Ds⟩=bif okI r then m37_1 pu L (Int.ofNat n) (z+r.sum) ⟨Ds.length,fl,iLI Ds⟩ else some (frV 0 2 [] 1):=by
 intro r
 induction r with
 | nil =>
  intro w i z hd hw hi h0 h1
  obtain⟨w,rfl⟩:∃ v,w=v+1:=⟨w - 1,by omega⟩
  have h1:Ds.length≤i:=List.drop_eq_nil_iff.1 hd
  show b37_5 pu L (l37_5 pu L w) (Int.ofNat n) z ⟨Ds.length,fl,iLI Ds⟩ (Int.ofNat Ds.length) (Int.ofNat i) ⟨Ds.length,fl,iLI Ds⟩=_
  unfold b37_5
  rw[ilt_nat,show Nat.blt i Ds.length=false from by rw[blt_eq];simp;omega,bb_false]
  show _=m37_1 pu L (Int.ofNat n) (z+0) ⟨Ds.length,fl,iLI Ds⟩
  rw[Int.add_zero]
 | cons x r ih =>
  intro w i z hd hw hi h0 h1
  obtain⟨w,rfl⟩:∃ v,w=v+1:=⟨w - 1,by simp at hw;omega⟩
  obtain⟨hd2,hi2,_⟩:=dropI_next hd
  have hr:(x::r).length=r.length+1:=rfl
  have hlt:Nat.blt i Ds.length=true:=by rw[blt_eq];simp;omega
  show b37_5 pu L (l37_5 pu L w) (Int.ofNat n) z ⟨Ds.length,fl,iLI Ds⟩ (Int.ofNat Ds.length) (Int.ofNat i) ⟨Ds.length,fl,iLI Ds⟩=_
  unfold b37_5
  rw[ilt_nat,hlt,bb_true,toN_mk,oo_some]
  show bb (an (Nat.blt i Ds.length) true) (oo (nthL (iLI Ds) (i*1)) none _) none=_
  rw[hlt,show an true true=true from rfl,bb_true,iLI_get hd,oo_some,show ∀ z,toI .i64 (IV z)=some z from fun _=>rfl,oo_some,okI_cons]
  unfold m37_6
  rw[ilt_eq,ilt_eq]
  by_cases hx:x < 0
  ·rw[decide_eq_true hx,decide_eq_false (show ¬ (0≤x∧x≤6) by omega)];rfl
  ·rw[decide_eq_false hx,bb_false]
   by_cases hx2:6 < x
   ·rw[decide_eq_true hx2,decide_eq_false (show ¬ (0≤x∧x≤6) by omega)];rfl
   ·have hz:wrapF .i64 (Int.add z x)=z+x:=wrapI _ (by show _≤z+x;omega) (by show z+x≤_;omega)
    rw[decide_eq_false hx2,decide_eq_true (show 0≤x∧x≤6 by omega),bb_false,Bool.true_and,hz,wrapS i (by omega),ih w (i+1) (z+x) hd2 (by omega) (by omega) (by omega) (by omega),List.sum_cons,Int.add_assoc]
theorem sum38 (k n fl:Nat) {Ds:List Int} (hD:Ds.length≤1000):∀ (r:List Int) (w i:Nat) (z:Int),Ds.drop i=r→r.length < w→i≤Ds.length→0≤z→z≤6*(i:Int) →
 l38_8 (puN (k+1)) L w (Int.ofNat n) ⟨Ds.length,fl,iLI Ds⟩ z (Int.ofNat i)=bif okI r then m38_0 (puN (k+1)) L (Int.ofNat n) ⟨Ds.length,fl,iLI Ds⟩ (z+r.sum) else some (frV 0 2 [] 1):=by
 intro r
 induction r with
 | nil =>
  intro w i z hd hw hi h0 h1
  obtain⟨w,rfl⟩:∃ v,w=v+1:=⟨w - 1,by omega⟩
  have h1:Ds.length≤i:=List.drop_eq_nil_iff.1 hd
  show b38_8 (puN (k+1)) L (l38_8 (puN (k+1)) L w) (Int.ofNat n) ⟨Ds.length,fl,iLI Ds⟩ z (Int.ofNat i)=_
  unfold b38_8
  show bb (ilt (Int.ofNat i) (Int.ofNat Ds.length)) _ _=_
  rw[ilt_nat,show Nat.blt i Ds.length=false from by rw[blt_eq];simp;omega,bb_false]
  show _=m38_0 (puN (k+1)) L (Int.ofNat n) ⟨Ds.length,fl,iLI Ds⟩ (z+0)
  rw[Int.add_zero]
 | cons x r ih =>
  intro w i z hd hw hi h0 h1
  obtain⟨w,rfl⟩:∃ v,w=v+1:=⟨w - 1,by simp at hw;omega⟩
  obtain⟨hd2,hi2,_⟩:=dropI_next hd
  have hr:(x::r).length=r.length+1:=rfl
  have hlt:Nat.blt i Ds.length=true:=by rw[blt_eq];simp;omega
  show b38_8 (puN (k+1)) L (l38_8 (puN (k+1)) L w) (Int.ofNat n) ⟨Ds.length,fl,iLI Ds⟩ z (Int.ofNat i)=_
  unfold b38_8
  show bb (ilt (Int.ofNat i) (Int.ofNat Ds.length)) (oo (toN (Int.ofNat i)) none fun k16815=>(bb (an (Nat.blt k16815 Ds.length) true) (oo (nthL (iLI Ds) (k16815*1)) none fun v16818=>(oo (toI .i64 v16818) none fun x16820=>(oo (puN (k+1) 73 [.int .i64 x16820,.int .i64 (0:Int),.int .i64 (6:Int)]) none fun v16822=>(oo (vBool v16822) none fun b16824=>bb (nt b16824) (some (frV 0 2 [] 1)) (bb (an (Nat.blt k16815 Ds.length) true) (oo (nthL (iLI Ds) (k16815*1)) none fun v16833=>(oo (toI .i64 v16833) none fun x16835=>(l38_8 (puN (k+1)) L w (Int.ofNat n) ⟨Ds.length,fl,iLI Ds⟩ (wrapF .i64 (Int.add z x16835)) (wrapF .i64 (Int.add (Int.ofNat k16815) (1:Int)))))) none))))) none)) _=_
  have e73:puN (k+1) 73 [.int .i64 x,.int .i64 (0:Int),.int .i64 (6:Int)]=some (.bool (decide (0≤x∧x≤6))):=pu_is k x 0 6
  rw[ilt_nat,hlt,bb_true,toN_mk,oo_some,hlt,show an true true=true from rfl,bb_true,iLI_get hd,oo_some,show ∀ z,toI .i64 (IV z)=some z from fun _=>rfl,oo_some,e73,oo_some,vBool_mk,oo_some,okI_cons]
  by_cases hx:0≤x∧x≤6
  ·have hz:wrapF .i64 (Int.add z x)=z+x:=wrapI _ (by show _≤z+x;omega) (by show z+x≤_;omega)
   rw[decide_eq_true hx,show nt true=false from rfl,bb_false,bb_true,oo_some,show ∀ z,toI .i64 (IV z)=some z from fun _=>rfl,oo_some,Bool.true_and,hz,wrapS i (by omega),ih w (i+1) (z+x) hd2 (by omega) (by omega) (by omega) (by omega),List.sum_cons,Int.add_assoc]
  ·rw[decide_eq_false hx];rfl
def kk (k:Nat) (S:Int):Bool:=decide ((k:Int)*((k:Int) - 1)=S)
theorem kk_eq {k:Nat} (hk:k≤10) (S:Int):ieq (wrapF .i64 (Int.mul (Int.ofNat k) (wrapF .i64 (Int.sub (Int.ofNat k) (1:Int))))) S=kk k S:=by
 have h:k=0∨k=1∨k=2∨k=3∨k=4∨k=5∨k=6∨k=7∨k=8∨k=9∨k=10:=by omega
 rw[ieq_eq]
 unfold kk
 have w1:wrapF .i64 (Int.sub (Int.ofNat k) (1:Int))=(k:Int) - 1:=wrapI _ (by show _≤(k:Int) - 1;omega) (by show (k:Int) - 1≤_;omega)
 have w2:-100≤(k:Int)*((k:Int) - 1)∧(k:Int)*((k:Int) - 1)≤100:=by rcases h with rfl | rfl | rfl | rfl | rfl | rfl | rfl | rfl | rfl | rfl | rfl <;> decide
 have w3:wrapF .i64 (Int.mul (Int.ofNat k) ((k:Int) - 1))=(k:Int)*((k:Int) - 1):=wrapI _ (by show _≤(k:Int)*((k:Int) - 1);omega) (by show (k:Int)*((k:Int) - 1)≤_;omega)
 rw[w1,w3]
 by_cases h:(k:Int)*((k:Int) - 1)=S
 ·rw[decide_eq_true h,h];simp
 ·rw[decide_eq_false h];simpa using h
noncomputable def fromQ (n:Nat) (D:List Nat) (S:Int):Nat→Nat→List (List Nat)
 | 0,_=>[]
 | j+1,k=>(bif kk k S then (ext n k 0 []).filter (goodF n D) else [])++fromQ n D S j (k+1)
theorem ret37 (pu:PureF) (L n c:Nat) (q:List (Nat×List Nat)):m37_2 pu L q.length c (qW n q)=some (frV n 0 q 0):=by
 unfold m37_2
 exact fin_qW n q _
theorem ret38 (pu:PureF) (L n c:Nat) (q:List (Nat×List Nat)):m38_1 pu L q.length c (qW n q)=some (frV n 0 q 0):=by
 unfold m38_1
 exact fin_qW n q _
theorem from37 (K fl:Nat) {n B:Nat} {D:List Nat} (S:Int) (h0:0 < n) (hn:n≤21) (hD:D.length=n - 1) (hB:B≤7) (hBn:B≤n+1):∀ (j w k:Nat) (q:List (Nat×List Nat)) (c:Nat),k+j=B→j < w→Cap c q.length→q.length≤60000*k →
 ∃ c',Cap c' (q++z0 (fromQ n D S j k)).length∧l37_3 (puN (K+14)) L w (Int.ofNat n) S (Int.ofNat B) (Int.ofNat k) ⟨D.length,fl,vL D⟩ q.length c (qW n q)=some (frV n 0 (q++z0 (fromQ n D S j k)) 0):=by
 intro j
 induction j with
 | zero =>
  intro w k q c hk hw hc hq
  obtain⟨w,rfl⟩:∃ v,w=v+1:=⟨w - 1,by omega⟩
  have e:q++z0 (fromQ n D S 0 k)=q:=List.append_nil q
  rw[e]
  refine⟨c,hc,?_⟩
  have hb:l37_3 (puN (K+14)) L (w+1) (Int.ofNat n) S (Int.ofNat B) (Int.ofNat k) ⟨D.length,fl,vL D⟩ q.length c (qW n q)=b37_3 (puN (K+14)) L (l37_3 (puN (K+14)) L w) (Int.ofNat n) S (Int.ofNat B) (Int.ofNat k) ⟨D.length,fl,vL D⟩ q.length c (qW n q):=rfl
  rw[hb]
  unfold b37_3
  rw[qW_closed,bb_true,ilt_nat,show Nat.blt k B=false from by rw[blt_eq];simp;omega,bb_false,ret37]
 | succ j ih =>
  intro w k q c hk hw hc hq
  obtain⟨w,rfl⟩:∃ v,w=v+1:=⟨w - 1,by omega⟩
  have hb:l37_3 (puN (K+14)) L (w+1) (Int.ofNat n) S (Int.ofNat B) (Int.ofNat k) ⟨D.length,fl,vL D⟩ q.length c (qW n q)=b37_3 (puN (K+14)) L (l37_3 (puN (K+14)) L w) (Int.ofNat n) S (Int.ofNat B) (Int.ofNat k) ⟨D.length,fl,vL D⟩ q.length c (qW n q):=rfl
  rw[hb]
  unfold b37_3
  rw[qW_closed,bb_true,ilt_nat,show Nat.blt k B=true from by rw[blt_eq];simp;omega,bb_true,kk_eq (by omega)]
  have next : ∀ (q' : List (Nat × List Nat)) (c' : Nat), Cap c' q'.length → q'.length ≤ 60000 * (k + 1) → ∃ c'', Cap c'' (q' ++ z0 (fromQ n D S j (k + 1))).length ∧
   m37_4 (puN (K+14)) L (l37_3 (puN (K+14)) L w) (Int.ofNat n) S (Int.ofNat B) (Int.ofNat k) ⟨D.length,fl,vL D⟩ q'.length c' (qW n q')=some (frV n 0 (q'++z0 (fromQ n D S j (k+1))) 0):=by
   intro q' c' hc' hq'
   obtain⟨c'',k1,k2⟩:=ih w (k+1) q' c' (by omega) (by omega) hc' hq'
   refine⟨c'',k1,?_⟩
   unfold m37_4
   rw[qW_closed,bb_true,wrapS k (by omega)]
   exact k2
  have go:fromQ n D S (j+1) k=(bif kk k S then (ext n k 0 []).filter (goodF n D) else [])++fromQ n D S j (k+1):=rfl
  rw[go,z0_app,←List.append_assoc]
  cases hkk:kk k S with
  | false =>
   rw[bb_false,show q++z0 (bif false then (ext n k 0 []).filter (goodF n D) else [])=q from List.append_nil q]
   exact next q c hc (by omega)
  | true =>
   have hP:Part n 0 [] k:=part_nil h0 hn (by omega)
   have hbig:=cho_big hP (r:=n) (by omega)
   obtain⟨c1,k1,k2⟩:=from_grown (K+7 - k) fl hD k n 0 [] q c hP (by omega) (.inr trivial) hc (by omega)
   rw[show K+7 - k+k+7=K+14 by omega] at k2
   have hle:(z0 ((ext n k 0 []).filter (goodF n D))).length≤60000:=by
    rw[z0_len];exact Nat.le_trans (List.length_filter_le _ _) hbig
   rw[bb_true,cap_ok hc,bb_true,bb_true]
   have k2' : puN (K + 14) 10811 [.agg ⟨[.int .i64 (Int.ofNat n), .int .u32 (0 : Int)]⟩, .int .i64 (0 : Int), .int .i64 (Int.ofNat k), .func (.func 85) ⟨[]⟩ ⟨[.pointer (some ⟨0, 0, none⟩)]⟩, .func (.func 87) ⟨[]⟩ ⟨[.pointer (some ⟨0, 0, none⟩), .pointer (some ⟨1, 0, none⟩)]⟩,
    .agg ⟨[Sl.v 1 ⟨D.length,fl,vL D⟩]⟩,.agg ⟨[.slice (some ⟨2,0,some 2⟩) q.length c]⟩,.agg ⟨qW n q⟩]=_:=k2
   rw[k2',oo_some]
   show ∃ c',Cap c' (q++z0 ((ext n k 0 []).filter (goodF n D))++z0 (fromQ n D S j (k+1))).length∧_=some (frV n 0 (q++z0 ((ext n k 0 []).filter (goodF n D))++z0 (fromQ n D S j (k+1))) 0)
   obtain⟨c2,g1,g2⟩:=next (q++z0 ((ext n k 0 []).filter (goodF n D))) c1 k1 (by rw[List.length_append];omega)
   refine⟨c2,g1,?_⟩
   rw[←g2]
   generalize q++z0 ((ext n k 0 []).filter (goodF n D))=q2
   show bb (isDead deadV) (bb (allL closed1 (qW n q2)) (bb (allL closed1 (qW n q2)) _ none) none) none=_
   rw[qW_closed,bb_true,bb_true];rfl
theorem over38 (K fl:Nat) {n:Nat} {D:List Nat} (S:Int) (k:Nat) (ih0:Int→Sl→Int→Nat→Nat→Int→List Value→Option Value) {sls:List (Nat×List Nat)} (hs:∀ p∈sls,Good n p.2) (hl:sls.length≤60000) (hDl:D.length=n - 1) :
 ∀ (r : List (Nat × List Nat)) (w i : Nat) (q : List (Nat × List Nat)) (c : Nat), sls.drop i = r → r.length < w → i ≤ sls.length → Cap c q.length → q.length + r.length ≤ 1000000000 →
  ∃ c', Cap c' (q ++ r.filter fun p => goodF n D p.2).length ∧ l38_5 (puN (K + 4)) L ih0 w (Int.ofNat n) ⟨D.length, fl, vL D⟩ S q.length c (Int.ofNat k) ⟨sls.length, 0, qW n sls⟩ (Int.ofNat i) (qW n q) =
   m38_4 (puN (K+4)) L ih0 (Int.ofNat n) ⟨D.length,fl,vL D⟩ S (q++r.filter fun p=>goodF n D p.2).length c' (Int.ofNat k) (qW n (q++r.filter fun p=>goodF n D p.2)):=by
 intro r
 induction r with
 | nil =>
  intro w i q c hd hw hi hc hq
  obtain⟨w,rfl⟩:∃ v,w=v+1:=⟨w - 1,by omega⟩
  have h1:sls.length≤i:=List.drop_eq_nil_iff.1 hd
  rw[show q++([]:List (Nat×List Nat)).filter (fun p=>goodF n D p.2)=q from List.append_nil q]
  refine⟨c,hc,?_⟩
  have hb:l38_5 (puN (K+4)) L ih0 (w+1) (Int.ofNat n) ⟨D.length,fl,vL D⟩ S q.length c (Int.ofNat k) ⟨sls.length,0,qW n sls⟩ (Int.ofNat i) (qW n q)=b38_5 (puN (K+4)) L ih0 (l38_5 (puN (K+4)) L ih0 w) (Int.ofNat n) ⟨D.length,fl,vL D⟩ S q.length c (Int.ofNat k) ⟨sls.length,0,qW n sls⟩ (Int.ofNat i) (qW n q):=rfl
  rw[hb]
  unfold b38_5
  rw[qW_closed,bb_true]
  show bb (ilt (Int.ofNat i) (Int.ofNat sls.length)) _ _=_
  rw[ilt_nat,show Nat.blt i sls.length=false from by rw[blt_eq];simp;omega,bb_false]
 | cons p r ih =>
  intro w i q c hd hw hi hc hq
  obtain⟨w,rfl⟩:∃ v,w=v+1:=⟨w - 1,by simp at hw;omega⟩
  obtain⟨h1,h2,h3⟩:=drop_at hd
  have hp:=hs p (List.mem_of_getElem? h1)
  have hpl:=hp.few
  have hn:=hp.le
  have hr:(p::r).length=r.length+1:=rfl
  have hlt:Nat.blt i sls.length=true:=by rw[blt_eq];simp;omega
  have hlen:Nat.ble (i*2+2) (len (qW n sls))=true:=by rw[len_eq,qW_len];exact Nat.ble_eq_true_of_le (by omega)
  obtain⟨g1,g2⟩:=qW_get n sls i p h1
  have hb:l38_5 (puN (K+4)) L ih0 (w+1) (Int.ofNat n) ⟨D.length,fl,vL D⟩ S q.length c (Int.ofNat k) ⟨sls.length,0,qW n sls⟩ (Int.ofNat i) (qW n q)=b38_5 (puN (K+4)) L ih0 (l38_5 (puN (K+4)) L ih0 w) (Int.ofNat n) ⟨D.length,fl,vL D⟩ S q.length c (Int.ofNat k) ⟨sls.length,0,qW n sls⟩ (Int.ofNat i) (qW n q):=rfl
  rw[hb]
  have last : ∀ b : Bool, ∃ c', Cap c' (q ++ (bif b then [p] else []) ++ r.filter fun p => goodF n D p.2).length ∧
   m38_7 (puN (K + 4)) L ih0 (l38_5 (puN (K + 4)) L ih0 w) (Int.ofNat n) ⟨D.length, fl, vL D⟩ S q.length c (Int.ofNat k) ⟨sls.length, 0, qW n sls⟩ (Int.ofNat i) b (qW n q) =
    m38_4 (puN (K+4)) L ih0 (Int.ofNat n) ⟨D.length,fl,vL D⟩ S (q++(bif b then [p] else [])++r.filter fun p=>goodF n D p.2).length c' (Int.ofNat k) (qW n (q++(bif b then [p] else [])++r.filter fun p=>goodF n D p.2)):=by
   intro b
   cases b with
   | true =>
    obtain⟨c',k1,k2⟩:=ih w (i+1) (q++[p]) (2*(q.length+1)+bb false 1 0) h2 (by omega) (by omega) (by rw[List.length_append];exact cap_new _) (by rw[List.length_append];show q.length+1+r.length≤_;omega)
    refine⟨c',k1,?_⟩
    unfold m38_7
    rw[bb_true,toN_mk,oo_some]
    show bb (an (Nat.blt i sls.length) true) (bb (Nat.ble (i*2+2) (len (qW n sls))) (oo (nthL (qW n sls) (i*2)) none _) none) none=_
    rw[hlt,show an true true=true from rfl,bb_true,hlen,bb_true,g1,oo_some,show ∀ z,toI .i64 (IV z)=some z from fun _=>rfl,oo_some]
    show oo (nthL (qW n sls) (i*2+1)) none _=_
    have e:appL (dropL 0 (qW n q)) [.int .i64 (Int.ofNat n),Sl.v 1 (mkS p)]=qW n (q++[p]):=by rw[qW_app,appL_eq,qW_drop];rfl
    rw[g2,oo_some,show ∀ sl:Sl,toSl 1 (Sl.v 1 sl)=some sl from fun _=>rfl,oo_some,grow_qW (by omega) (by omega) hc,bb_true,e,qW_closed,bb_true]
    unfold m38_6
    rw[qW_closed,bb_true,wrapS i (by omega)]
    have e2:(q++[p]).length=q.length+1:=by simp
    rw[e2] at k2
    exact k2
   | false =>
    obtain⟨c',k1,k2⟩:=ih w (i+1) q c h2 (by omega) (by omega) hc (by omega)
    rw[show q++(bif false then [p] else [])=q from List.append_nil q]
    refine⟨c',k1,?_⟩
    unfold m38_7
    rw[bb_false,qW_closed,bb_true]
    unfold m38_6
    rw[qW_closed,bb_true,wrapS i (by omega)]
    exact k2
  have ef:q++(p::r).filter (fun p=>goodF n D p.2)=q++(bif goodF n D p.2 then [p] else [])++r.filter fun p=>goodF n D p.2:=by
   rw[List.filter_cons]
   cases goodF n D p.2 with
   | true=>rw[List.append_assoc];rfl
   | false=>rw[List.append_assoc];rfl
  rw[ef]
  unfold b38_5
  rw[qW_closed,bb_true]
  show ∃ c',_∧bb (ilt (Int.ofNat i) (Int.ofNat sls.length)) (oo (toN (Int.ofNat i)) none _) _=_
  rw[ilt_nat,hlt,bb_true,toN_mk,oo_some]
  show ∃ c',_∧bb (an (Nat.blt i sls.length) true) (bb (Nat.ble (i*2+2) (len (qW n sls))) (oo (nthL (qW n sls) (i*2)) none _) none) none=_
  have e75:puN (K+4) 75 [.agg ⟨[.int .i64 (Int.ofNat n),Sl.v 1 (mkS p)]⟩]=some (Sl.v 1 ⟨(dists n p.2).length,0,vL (dists n p.2)⟩):=pu_dists75 (K+2) p.1 hp.fine
  have e72:puN (K+4) 72 [Sl.v 1 ⟨(dists n p.2).length,0,vL (dists n p.2)⟩,Sl.v 1 ⟨D.length,fl,vL D⟩]=some (.bool (decide (dists n p.2=D))):=pu_same72 (K+2) 0 fl (by rw[dists_len];omega) (by omega)
  have e69:puN (K+4) 69 [.agg ⟨[.int .i64 (Int.ofNat n),Sl.v 1 (mkS p)]⟩]=some (seaF n 0 (minT n (bitsOf p.2))):=pu_firstR (K+1) p.1 hp
  have hml:(minT n (bitsOf p.2)).length < 900000:=by
   obtain⟨b,_,hb⟩:=(minT_least (n:=n) (s:=bitsOf p.2) hp.pos).1
   rw[hb]
   have:=marks_len (n:=n) (s:=turnN n (bitsOf p.2) b)
   omega
  have e72b:puN (K+4) 72 [Sl.v 1 ⟨(minT n (bitsOf p.2)).length,0,vL (minT n (bitsOf p.2))⟩,Sl.v 1 (mkS p)]=some (.bool (decide (minT n (bitsOf p.2)=p.2))):=pu_same72 (K+2) 0 p.1 hml (by omega)
  rw[hlt,show an true true=true from rfl,bb_true,hlen,bb_true,g1,oo_some,show ∀ z,toI .i64 (IV z)=some z from fun _=>rfl,oo_some]
  show ∃ c',_∧oo (nthL (qW n sls) (i*2+1)) none _=_
  rw[g2,oo_some,show ∀ sl:Sl,toSl 1 (Sl.v 1 sl)=some sl from fun _=>rfl,oo_some,e75,oo_some,show ∀ sl:Sl,toSl 1 (Sl.v 1 sl)=some sl from fun _=>rfl,oo_some,e72,oo_some,vBool_mk,oo_some]
  unfold goodF
  by_cases hg:dists n p.2=D
  ·rw[decide_eq_true hg,Bool.and_true]
   simp only[bb_true,oo_some,show ∀ z,toI .i64 (IV z)=some z from fun _=>rfl,toSl_mk]
   rw[e69,oo_some]
   unfold seaF
   rw[vAgg_mk,oo_some,ll_cons',ll_cons',ll_nil',show ∀ z,toI .i64 (IV z)=some z from fun _=>rfl,oo_some,show ∀ sl:Sl,toSl 1 (Sl.v 1 sl)=some sl from fun _=>rfl,oo_some,e72b,oo_some,vBool_mk,oo_some]
   exact last _
  ·rw[decide_eq_false hg,Bool.and_false,bb_false]
   exact last false
noncomputable def fromR (n:Nat) (D:List Nat) (S:Int):Nat→Nat→List (Nat×List Nat)
 | 0,_=>[]
 | j+1,k=>(bif kk k S then (refW n k).filter (fun p=>goodF n D p.2) else [])++fromR n D S j (k+1)
theorem from38 (K fl:Nat) {n B:Nat} {D:List Nat} (S:Int) (h0:0 < n) (hn:n≤21) (hD:D.length=n - 1) (hB:B=min n 6+1):∀ (j w k:Nat) (q:List (Nat×List Nat)) (c:Nat),k+j=B→j < w→Cap c q.length→q.length≤60000*k →
 l38_2 (puN (K+14)) L w (Int.ofNat n) ⟨D.length,fl,vL D⟩ S q.length c (Int.ofNat k) (qW n q)=some (frV n 0 (q++fromR n D S j k) 0):=by
 intro j
 induction j with
 | zero =>
  intro w k q c hk hw hc hq
  obtain⟨w,rfl⟩:∃ v,w=v+1:=⟨w - 1,by omega⟩
  have e:q++fromR n D S 0 k=q:=List.append_nil q
  rw[e]
  have hb:l38_2 (puN (K+14)) L (w+1) (Int.ofNat n) ⟨D.length,fl,vL D⟩ S q.length c (Int.ofNat k) (qW n q)=b38_2 (puN (K+14)) L (l38_2 (puN (K+14)) L w) (Int.ofNat n) ⟨D.length,fl,vL D⟩ S q.length c (Int.ofNat k) (qW n q):=rfl
  rw[hb]
  unfold b38_2 m38_3
  rw[qW_closed,bb_true,bb_true,bb_true,bb_false,ret38,show (6:Int)=Int.ofNat 6 from rfl,ilt_nat,ilt_nat]
  by_cases h6:6 < k
  ·rw[show Nat.blt 6 k=true from by rw[blt_eq];exact decide_eq_true h6];rfl
  ·rw[show Nat.blt 6 k=false from by rw[blt_eq];exact decide_eq_false h6,show Nat.blt n k=true from by rw[blt_eq];simp;omega];rfl
 | succ j ih =>
  intro w k q c hk hw hc hq
  obtain⟨w,rfl⟩:∃ v,w=v+1:=⟨w - 1,by omega⟩
  have hb:l38_2 (puN (K+14)) L (w+1) (Int.ofNat n) ⟨D.length,fl,vL D⟩ S q.length c (Int.ofNat k) (qW n q)=b38_2 (puN (K+14)) L (l38_2 (puN (K+14)) L w) (Int.ofNat n) ⟨D.length,fl,vL D⟩ S q.length c (Int.ofNat k) (qW n q):=rfl
  rw[hb]
  unfold b38_2
  rw[qW_closed,bb_true,show (6:Int)=Int.ofNat 6 from rfl,ilt_nat,ilt_nat,show Nat.blt 6 k=false from by rw[blt_eq];simp;omega,show nt false=true from rfl,bb_true,show Nat.blt n k=false from by rw[blt_eq];simp;omega,show nt false=true from rfl]
  unfold m38_3
  rw[bb_true,qW_closed,bb_true,kk_eq (by omega)]
  have next : ∀ (q' : List (Nat × List Nat)) (c' : Nat), Cap c' q'.length → q'.length ≤ 60000 * (k + 1) →
   m38_4 (puN (K+14)) L (l38_2 (puN (K+14)) L w) (Int.ofNat n) ⟨D.length,fl,vL D⟩ S q'.length c' (Int.ofNat k) (qW n q')=some (frV n 0 (q'++fromR n D S j (k+1)) 0):=by
   intro q' c' hc' hq'
   unfold m38_4
   rw[qW_closed,bb_true,wrapS k (by omega)]
   exact ih w (k+1) q' c' (by omega) (by omega) hc' hq'
  have go:fromR n D S (j+1) k=(bif kk k S then (refW n k).filter (fun p=>goodF n D p.2) else [])++fromR n D S j (k+1):=rfl
  rw[go,←List.append_assoc]
  cases hkk:kk k S with
  | false =>
   rw[show nt false=true from rfl,bb_true,show q++(bif false then (refW n k).filter (fun p=>goodF n D p.2) else [])=q from List.append_nil q]
   exact next q c hc (by omega)
  | true =>
   obtain⟨r1,r2⟩:=ref_good (m:=k) h0 hn (by omega)
   have hs:=pu_seals (K+13 - k) h0 hn (m:=k) (by omega) (by omega)
   rw[show K+13 - k+k+1=K+14 by omega] at hs
   have hs':puN (K+14) 10840 [.agg ⟨[.int .i64 (Int.ofNat n),Sl.v 1 (Sl.mk 0 2 [])]⟩,.int .i64 (Int.ofNat k)]=_:=hs
   rw[show nt true=false from rfl,bb_false,hs',oo_some]
   unfold sealsV
   rw[vTup_mk,oo_some,ll_cons',ll_nil',show ∀ sl:Sl,toSl 2 (Sl.v 2 sl)=some sl from fun _=>rfl,oo_some]
   obtain⟨c1,g1,g2⟩:=over38 (K+10) fl S k (l38_2 (puN (K+14)) L w) r1 r2 hD (refW n k) L 0 q c List.drop_zero (by show _ < 1000000;omega) (by omega) hc (by omega)
   have g2':l38_5 (puN (K+14)) L (l38_2 (puN (K+14)) L w) L (Int.ofNat n) ⟨D.length,fl,vL D⟩ S q.length c (Int.ofNat k) ⟨(refW n k).length,0,qW n (refW n k)⟩ (0:Int) (qW n q)=_:=g2
   rw[g2']
   have hle:=List.length_filter_le (fun p:Nat×List Nat=>goodF n D p.2) (refW n k)
   exact next _ c1 g1 (by rw[List.length_append];omega)
theorem ext_low:∀ (r m p:Nat) (l:List Nat),∀ x∈ext r m p l,∀ y∈x,y∈l∨p≤y
 | r, 0, p, l, x, hx, y, hy => by
  rw[ext_zero] at hx
  rw[List.mem_singleton.1 hx] at hy
  exact .inl hy
 | 0,m+1,p,l,x,hx,_,_=>by cases hx
 | r + 1, m + 1, p, l, x, hx, y, hy => by
  have hx:x∈ext r m (p+1) (l++[p])++ext r (m+1) (p+1) l:=hx
  rcases List.mem_append.1 hx with hx | hx
  ·rcases ext_low r m (p+1) (l++[p]) x hx y hy with h | h
   ·rcases List.mem_append.1 h with h | h
    ·exact .inl h
    ·rw[List.mem_singleton.1 h];exact .inr (Nat.le_refl _)
   ·exact .inr (by omega)
  ·rcases ext_low r (m+1) (p+1) l x hx y hy with h | h
   ·exact .inl h
   ·exact .inr (by omega)
theorem same_found {n k:Nat} (D:List Nat) (h0:0 < n) (hn:n≤21) (hk:k≤6):((refW n k).filter fun p=>goodF n D p.2).map (·.2)=(ext n k 0 []).filter (goodF n D):=by
 cases k with
 | zero =>
  rw[ext_zero]
  show (([(2,[])]:List (Nat×List Nat)).filter fun p=>goodF n D p.2).map (·.2)=[[]].filter (goodF n D)
  rw[List.filter_cons,List.filter_cons]
  cases goodF n D [] <;> rfl
 | succ k =>
  obtain⟨n,rfl⟩:∃ v,n=v+1:=⟨n - 1,by omega⟩
  have hP:Part (n+1) 0 [] (k+1):=part_nil h0 hn hk
  have go:ext (n+1) (k+1) 0 []=ext n k 1 [0]++ext n (k+1) 1 []:=rfl
  have hno:(ext n (k+1) 1 []).filter (goodF (n+1) D)=[]:=filter_none fun x hx=>by
   cases hg:goodF (n+1) D x with
   | false=>rfl
   | true =>
    exfalso
    obtain⟨g,hlen,_⟩:=ext_good n (k+1) 1 [] hP.skip (by omega) x hx
    unfold goodF at hg
    rw[Bool.and_eq_true,decide_eq_true_eq] at hg
    have h0:=min_zero g hg.1 (by intro e;rw[e] at hlen;simp at hlen)
    rcases ext_low n (k+1) 1 [] x hx 0 h0 with h | h
    ·cases h
    ·omega
  rw[go,List.filter_append,hno,List.append_nil]
  show ((z0 (ext n k 1 [0])).filter fun p=>goodF (n+1) D p.2).map (·.2)=_
  unfold z0
  rw[List.filter_map,List.map_map]
  show ((ext n k 1 [0]).filter fun l=>goodF (n+1) D l).map (fun l=>l)=_
  rw[List.map_id']
theorem from_same {n:Nat} (D:List Nat) (S:Int) (h0:0 < n) (hn:n≤21):∀ (j k:Nat),k+j≤7→(fromR n D S j k).map (·.2)=fromQ n D S j k
 | 0,_,_=>rfl
 | j + 1, k, h => by
  show ((bif kk k S then (refW n k).filter (fun p=>goodF n D p.2) else [])++fromR n D S j (k+1)).map (·.2)=(bif kk k S then (ext n k 0 []).filter (goodF n D) else [])++fromQ n D S j (k+1)
  rw[List.map_append,from_same D S h0 hn j (k+1) (by omega)]
  cases kk k S with
  | false=>rfl
  | true =>
   show ((refW n k).filter fun p=>goodF n D p.2).map (·.2)++_=(ext n k 0 []).filter (goodF n D)++_
   rw[same_found D h0 hn (by omega)]
theorem fromQ_few {n:Nat} (D:List Nat) (S:Int) (h0:0 < n) (hn:n≤21):∀ (j k:Nat),k+j≤7→(∀ l∈fromQ n D S j k,l.length≤6)∧(fromQ n D S j k).length≤60000*j
 | 0,_,_=>⟨fun l hl=>by (cases hl),Nat.zero_le _⟩
 | j + 1, k, h => by
  obtain⟨i1,i2⟩:=fromQ_few D S h0 hn j (k+1) (by omega)
  have hP:Part n 0 [] k:=part_nil h0 hn (by omega)
  have hbig:=cho_big hP (r:=n) (by omega)
  have hle:=List.length_filter_le (goodF n D) (ext n k 0 [])
  have go:fromQ n D S (j+1) k=(bif kk k S then (ext n k 0 []).filter (goodF n D) else [])++fromQ n D S j (k+1):=rfl
  rw[go]
  cases kk k S with
  | false=>exact⟨i1,by show (fromQ n D S j (k+1)).length≤_;omega⟩
  | true =>
   refine⟨fun l hl=>?_,by show ((ext n k 0 []).filter (goodF n D)++fromQ n D S j (k+1)).length≤_;rw[List.length_append];omega⟩
   rcases List.mem_append.1 (show l∈(ext n k 0 []).filter (goodF n D)++fromQ n D S j (k+1) from hl) with hl | hl
   ·exact(ext_good n k 0 [] hP (by omega) l (List.mem_filter.1 hl).1).1.few
   ·exact i1 l hl
theorem okI_nat:∀ {r:List Int},okI r=true→∃ D:List Nat,r=D.map Int.ofNat
 | [],_=>⟨[],rfl⟩
 | x :: r, h => by
  rw[okI_cons,Bool.and_eq_true,decide_eq_true_eq] at h
  obtain⟨D,rfl⟩:=okI_nat h.2
  exact⟨x.toNat::D,by rw[List.map_cons];congr 1;show x=((x.toNat:Nat):Int);omega⟩
theorem from_both (k fl:Nat) (x:Int) {Ds:List Int} (hD:Ds.length≤60):∃ (n f g:Nat) (q1 q2:List (Nat×List Nat)) (e:Int),q1.map (·.2)=q2.map (·.2)∧(∀ p∈q1,p.2.length≤6)∧q1.length≤500000 ∧
 puN (k+15) 37 [IV x,slI fl Ds]=some (frV n f q1 e)∧puN (k+15) 38 [IV x,slI fl Ds]=some (frV n g q2 e):=by
 have e73:∀ a b c:Int,puN (k+14) 73 [.int .i64 a,.int .i64 b,.int .i64 c]=some (.bool (decide (b≤a∧a≤c))):=fun a b c=>pu_is (k+13) a b c
 have s37:puN (k+15) 37 [IV x,slI fl Ds]=m37_ (puN (k+14)) L x ⟨Ds.length,fl,iLI Ds⟩:=by rw[q37];rfl
 have s38:puN (k+15) 38 [IV x,slI fl Ds]=m38_ (puN (k+14)) L x ⟨Ds.length,fl,iLI Ds⟩:=by rw[q38];rfl
 by_cases hx:1≤x∧x≤21
 ·have t37 : m37_ (puN (k + 14)) L x ⟨Ds.length, fl, iLI Ds⟩ = m37_0 (puN (k + 14)) L x false ⟨Ds.length, fl, iLI Ds⟩ := by
   unfold m37_
   rw[ilt_eq,ilt_eq,decide_eq_false (by omega),decide_eq_false (by omega)];rfl
  have hxn:x=Int.ofNat x.toNat:=by show x=((x.toNat:Nat):Int);omega
  generalize hnn:x.toNat=n at hxn
  have hn0:0 < n:=by omega
  have hn:n≤21:=by omega
  have w1:wrapF .i64 (Int.sub x (1:Int))=Int.ofNat (n - 1):=by
   have e:Int.sub x (1:Int)=Int.ofNat (n - 1):=by show x - 1=((n - 1:Nat):Int);omega
   rw[e];exact wrapI _ (by show _≤((n - 1:Nat):Int);omega) (by show ((n - 1:Nat):Int)≤_;omega)
  by_cases hl:Ds.length=n - 1
  ·have u37:=sum37 (puN (k+14)) L n fl (Ds:=Ds) (by omega) Ds L 0 0 List.drop_zero (by show _ < 1000000;omega) (by omega) (by omega) (by omega)
   have u38:=sum38 (k+13) n fl (Ds:=Ds) (by omega) Ds L 0 0 List.drop_zero (by show _ < 1000000;omega) (by omega) (by omega) (by omega)
   have v37:puN (k+15) 37 [IV x,slI fl Ds]=l37_5 (puN (k+14)) L L (Int.ofNat n) 0 ⟨Ds.length,fl,iLI Ds⟩ (Int.ofNat Ds.length) (Int.ofNat 0) ⟨Ds.length,fl,iLI Ds⟩:=by
    rw[s37,t37]
    unfold m37_0
    rw[bb_false,w1]
    show bb (nt (ieq (Int.ofNat Ds.length) (Int.ofNat (n - 1)))) _ _=_
    rw[ieq_nat,hl,show Nat.beq (n - 1) (n - 1)=true from Nat.beq_refl _,show nt true=false from rfl,bb_false,hxn]
    rfl
   have v38:puN (k+15) 38 [IV x,slI fl Ds]=l38_8 (puN (k+13+1)) L L (Int.ofNat n) ⟨Ds.length,fl,iLI Ds⟩ 0 (Int.ofNat 0):=by
    rw[s38]
    unfold m38_
    rw[e73,oo_some,vBool_mk,oo_some,decide_eq_true hx,show nt true=false from rfl,bb_false,w1]
    show bb (nt (ieq (Int.ofNat Ds.length) (Int.ofNat (n - 1)))) _ _=_
    rw[ieq_nat,hl,show Nat.beq (n - 1) (n - 1)=true from Nat.beq_refl _,show nt true=false from rfl,bb_false,hxn]
    rfl
   rw[v37,v38,u37,u38,Int.zero_add]
   cases hok:okI Ds with
   | false=>exact⟨0,2,2,[],[],1,rfl,fun p hp=>by (cases hp),by simp,rfl,rfl⟩
   | true =>
    obtain⟨D,rfl⟩:=okI_nat hok
    have hDl:D.length=n - 1:=by rw[←hl,List.length_map]
    have hmin:wrapF .i64 (Int.add (bb (ilt (Int.ofNat n) (6:Int)) (Int.ofNat n) (6:Int)) (1:Int))=Int.ofNat (min n 6+1):=by
     rw[show (6:Int)=Int.ofNat 6 from rfl,ilt_nat,blt_eq]
     by_cases h:n < 6
     ·rw[decide_eq_true h,bb_true,wrapS n (by omega),show min n 6=n by omega]
     ·rw[decide_eq_false h,bb_false,wrapS 6 (by omega),show min n 6=6 by omega]
    obtain⟨c',_,r37⟩:=from37 k fl (D.map Int.ofNat).sum hn0 hn hDl (B:=min n 6+1) (by omega) (by omega) (min n 6+1) L 0 [] 0 (by omega) (by show _ < 1000000;omega) ⟨rfl,rfl⟩ (by simp)
    have r38:=from38 k fl (D.map Int.ofNat).sum hn0 hn hDl (B:=min n 6+1) rfl (min n 6+1) L 0 [] 0 (by omega) (by show _ < 1000000;omega) ⟨rfl,rfl⟩ (by simp)
    obtain⟨f1,f2⟩:=fromQ_few D (D.map Int.ofNat).sum hn0 hn (min n 6+1) 0 (by omega)
    refine⟨n,0,0,z0 (fromQ n D (D.map Int.ofNat).sum (min n 6+1) 0),fromR n D (D.map Int.ofNat).sum (min n 6+1) 0,0,?_,fun p hp=>?_,?_,?_,?_⟩
    ·rw[from_same D _ hn0 hn _ _ (by omega)]
     unfold z0
     rw[List.map_map]
     show (fromQ n D (D.map Int.ofNat).sum (min n 6+1) 0).map (fun l=>l)=_
     rw[List.map_id']
    ·obtain⟨l,hl2,rfl⟩:=List.mem_map.1 hp
     exact f1 l hl2
    ·rw[z0_len];omega
    ·show m37_1 (puN (k+14)) L (Int.ofNat n) (D.map Int.ofNat).sum ⟨(D.map Int.ofNat).length,fl,iLI (D.map Int.ofNat)⟩=_
     unfold m37_1
     rw[hmin,←vL_iLI,List.length_map]
     exact r37
    ·show m38_0 (puN (k+13+1)) L (Int.ofNat n) ⟨(D.map Int.ofNat).length,fl,iLI (D.map Int.ofNat)⟩ (D.map Int.ofNat).sum=_
     unfold m38_0
     rw[←vL_iLI,List.length_map]
     exact r38
  ·refine⟨0,2,2,[],[],5,rfl,fun p hp=>by (cases hp),by simp,?_,?_⟩
   ·rw[s37,t37]
    unfold m37_0
    rw[bb_false,w1]
    show bb (nt (ieq (Int.ofNat Ds.length) (Int.ofNat (n - 1)))) _ _=_
    rw[ieq_nat,beq_ne hl];rfl
   ·rw[s38]
    unfold m38_
    rw[e73,oo_some,vBool_mk,oo_some,decide_eq_true hx,show nt true=false from rfl,bb_false,w1]
    show bb (nt (ieq (Int.ofNat Ds.length) (Int.ofNat (n - 1)))) _ _=_
    rw[ieq_nat,beq_ne hl];rfl
 ·refine⟨0,2,2,[],[],1,rfl,fun p hp=>by (cases hp),by simp,?_,?_⟩
  ·rw[s37]
   unfold m37_ m37_0
   rw[ilt_eq,ilt_eq]
   by_cases h:x < 1
   ·rw[decide_eq_true h];rfl
   ·rw[decide_eq_false h,bb_false,decide_eq_true (by omega)];rfl
  ·rw[s38]
   unfold m38_
   rw[e73,oo_some,vBool_mk,oo_some,decide_eq_false hx];rfl
end Go.RgP
set_option maxRecDepth 100000
set_option maxHeartbeats 4000000
namespace Go.RgP
open Go Go.Sp Go.RgHM
theorem q24 (k:Nat) (args:List Value):puN (k+1) 24 args=m24 (puN k) L args:=by kernel_rfl
theorem q39 (k:Nat) (args:List Value):puN (k+1) 39 args=m39 (puN k) L args:=by kernel_rfl
theorem pu_eq24 (k n f g:Nat) {l:List Nat} (hl:l.length < 900000):puN (k+2) 24 [seaF n f l,seaF n g l]=some (.bool true):=by
 have e23:puN (k+1) 23 [Sl.v 1 ⟨l.length,f,vL l⟩,Sl.v 1 ⟨l.length,g,vL l⟩]=some (.bool true):=by
  have:=pu_same k f g (a:=l.map Int.ofNat) (b:=l.map Int.ofNat) (by simpa using hl)
  rw[decide_eq_true rfl] at this
  unfold slI at this
  rw[←vL_iLI,List.length_map] at this
  exact this
 rw[q24]
 show bb (ieq (Int.ofNat n) (Int.ofNat n)) (oo (puN (k+1) 23 [Sl.v 1 ⟨l.length,f,vL l⟩,Sl.v 1 ⟨l.length,g,vL l⟩]) none _) _=_
 rw[ieq_nat,show Nat.beq n n=true from Nat.beq_refl n,bb_true,e23];rfl
theorem alike_loop (k n f g:Nat) {q1 q2:List (Nat×List Nat)} (he:q1.map (·.2)=q2.map (·.2)) (hs:∀ p∈q1,p.2.length≤6) (hl:q1.length≤500000):∀ (j w i:Nat),i+j=q1.length→j < w →
 l39_1 (puN (k+2)) L w ⟨q1.length,f,qW n q1⟩ ⟨q2.length,g,qW n q2⟩ (Int.ofNat i)=some (.bool true):=by
 have hlen:q1.length=q2.length:=by have:=congrArg List.length he;simpa using this
 intro j
 induction j with
 | zero =>
  intro w i hi hw
  obtain⟨w,rfl⟩:∃ v,w=v+1:=⟨w - 1,by omega⟩
  show b39_1 (puN (k+2)) L (l39_1 (puN (k+2)) L w) ⟨q1.length,f,qW n q1⟩ ⟨q2.length,g,qW n q2⟩ (Int.ofNat i)=_
  unfold b39_1
  show bb (ilt (Int.ofNat i) (Int.ofNat q1.length)) _ _=_
  rw[ilt_nat,show Nat.blt i q1.length=false from by rw[blt_eq];simp;omega];rfl
 | succ j ih =>
  intro w i hi hw
  obtain⟨w,rfl⟩:∃ v,w=v+1:=⟨w - 1,by omega⟩
  show b39_1 (puN (k+2)) L (l39_1 (puN (k+2)) L w) ⟨q1.length,f,qW n q1⟩ ⟨q2.length,g,qW n q2⟩ (Int.ofNat i)=_
  have i1:i < q1.length:=by omega
  have i2:i < q2.length:=by omega
  have a1:q1[i]?=some q1[i]:=List.getElem?_eq_getElem i1
  have a2:q2[i]?=some q2[i]:=List.getElem?_eq_getElem i2
  have ee:q1[i].2=q2[i].2:=by
   have:=congrArg (fun l=>l[i]?) he
   simp only[List.getElem?_map,a1,a2,Option.map_some] at this
   exact Option.some.inj this
  obtain⟨g1,g2⟩:=qW_get n q1 i q1[i] a1
  obtain⟨g3,g4⟩:=qW_get n q2 i q2[i] a2
  have h6:=hs q1[i] (List.getElem_mem i1)
  have hlt:Nat.blt i q1.length=true:=by rw[blt_eq];simp;omega
  have hlt2:Nat.blt i q2.length=true:=by rw[blt_eq];simp;omega
  have hb1:Nat.ble (i*2+2) (len (qW n q1))=true:=by rw[len_eq,qW_len];exact Nat.ble_eq_true_of_le (by omega)
  have hb2:Nat.ble (i*2+2) (len (qW n q2))=true:=by rw[len_eq,qW_len];exact Nat.ble_eq_true_of_le (by omega)
  have e24:puN (k+2) 24 [.agg ⟨[.int .i64 (Int.ofNat n),Sl.v 1 (mkS q1[i])]⟩,.agg ⟨[.int .i64 (Int.ofNat n),Sl.v 1 (mkS q2[i])]⟩]=some (.bool true):=by
   have:=pu_eq24 k n q1[i].1 q2[i].1 (l:=q1[i].2) (by omega)
   unfold mkS
   rw[←ee];exact this
  unfold b39_1
  show bb (ilt (Int.ofNat i) (Int.ofNat q1.length)) (oo (toN (Int.ofNat i)) none fun k16986=>(bb (an (Nat.blt k16986 q1.length) true) (bb (Nat.ble (k16986*2+2) (len (qW n q1))) (oo (nthL (qW n q1) (k16986*2)) none fun v16990=>(oo (toI .i64 v16990) none fun x16992=>(oo (nthL (qW n q1) (k16986*2+1)) none fun v16994=>(oo (toSl 1 v16994) none fun s16996=>(bb (an (Nat.blt k16986 q2.length) true) (bb (Nat.ble (k16986*2+2) (len (qW n q2))) (oo (nthL (qW n q2) (k16986*2)) none fun v17000=>(oo (toI .i64 v17000) none fun x17002=>(oo (nthL (qW n q2) (k16986*2+1)) none fun v17004=>(oo (toSl 1 v17004) none fun s17006=>(oo (puN (k+2) 24 [.agg ⟨[.int .i64 x16992,Sl.v 1 s16996]⟩,.agg ⟨[.int .i64 x17002,Sl.v 1 s17006]⟩]) none fun v17008=>(oo (vBool v17008) none fun b17010=>(bb (nt b17010) (some (.bool false)) (l39_1 (puN (k+2)) L w ⟨q1.length,f,qW n q1⟩ ⟨q2.length,g,qW n q2⟩ (wrapF .i64 (Int.add (Int.ofNat k16986) (1:Int))))))))))) none) none))))) none) none)) _=_
  simp only[ilt_nat,hlt,bb_true,toN_mk,oo_some,show an true true=true from rfl,hb1,g1,show ∀ z,toI .i64 (IV z)=some z from fun _=>rfl,g2,toSl_mk,hlt2,hb2,g3,g4,e24,vBool_mk,show nt true=false from rfl,bb_false,wrapS i (show i < 1000000 by omega)]
  exact ih w (i+1) (by omega) (by omega)
theorem pu_alike39 (k n f g:Nat) {q1 q2:List (Nat×List Nat)} (he:q1.map (·.2)=q2.map (·.2)) (hs:∀ p∈q1,p.2.length≤6) (hl:q1.length≤500000):puN (k+3) 39 [Sl.v 2 ⟨q1.length,f,qW n q1⟩,Sl.v 2 ⟨q2.length,g,qW n q2⟩]=some (.bool true):=by
 have hlen:q1.length=q2.length:=by have:=congrArg List.length he;simpa using this
 rw[q39]
 show bb (nt (ieq (Int.ofNat q1.length) (Int.ofNat q2.length))) (some (.bool false)) (l39_1 (puN (k+2)) L L ⟨q1.length,f,qW n q1⟩ ⟨q2.length,g,qW n q2⟩ (0:Int))=_
 rw[ieq_nat,show Nat.beq q1.length q2.length=true from by rw[hlen];exact Nat.beq_refl _,show nt true=false from rfl,bb_false]
 exact alike_loop k n f g he hs hl q1.length L 0 (by omega) (by show _ < 1000000;omega)
theorem finds_law (pu:PureF) (hpu:∀ g,Nat.beq g 14=false→pu g=puN 20 g) (h14:pu 14 []=some (.bool true)) (x y:Int) (fl:Nat) (Ds:List Int) :
 m5 pu L [IV x,IV y,slI fl Ds]=some (.bool true):=by
 show m5_ pu L x y ⟨Ds.length,fl,iLI Ds⟩=_
 unfold m5_
 show bb (ilt (Int.ofNat 60) (Int.ofNat Ds.length)) _ _=_
 rw[ilt_nat,blt_eq]
 by_cases h60:60 < Ds.length
 ·rw[decide_eq_true h60,bb_true,h14];rfl
 ·rw[decide_eq_false h60,bb_false]
  obtain⟨n,f,g,l,e,hl,h35,h36⟩:=find_both 6 x y
  obtain⟨n2,f2,g2,q1,q2,e2,he,hs,hq,h37,h38⟩:=from_both 5 fl x (Ds:=Ds) (by omega)
  have k35:pu 35 [.int .i64 x,.int .i64 y]=some (fdV n f l e):=by rw[hpu 35 rfl];exact h35
  have k36:pu 36 [.int .i64 x,.int .i64 y]=some (fdV n g l e):=by rw[hpu 36 rfl];exact h36
  have k37:pu 37 [.int .i64 x,Sl.v 1 ⟨Ds.length,fl,iLI Ds⟩]=some (frV n2 f2 q1 e2):=by rw[hpu 37 rfl];exact h37
  have k38:pu 38 [.int .i64 x,Sl.v 1 ⟨Ds.length,fl,iLI Ds⟩]=some (frV n2 g2 q2 e2):=by rw[hpu 38 rfl];exact h38
  have k24:pu 24 [.agg ⟨[.int .i64 (Int.ofNat n),Sl.v 1 ⟨l.length,f,vL l⟩]⟩,.agg ⟨[.int .i64 (Int.ofNat n),Sl.v 1 ⟨l.length,g,vL l⟩]⟩]=some (.bool true):=by rw[hpu 24 rfl];exact pu_eq24 18 n f g (by omega)
  have k39:pu 39 [Sl.v 2 ⟨q1.length,f2,qW n2 q1⟩,Sl.v 2 ⟨q2.length,g2,qW n2 q2⟩]=some (.bool true):=by rw[hpu 39 rfl];exact pu_alike39 17 n2 f2 g2 he hs hq
  have er:∀ z:Int,ieq z z=true:=fun z=>by rw[ieq_eq];simp
  have t1:∀ z,toI .i64 (IV z)=some z:=fun _=>rfl
  have t2:∀ sl:Sl,toSl 2 (Sl.v 2 sl)=some sl:=fun _=>rfl
  unfold fdV seaF tup2 at k35 k36
  unfold frV tup2 at k37 k38
  simp only[k35,k36,k37,k38,k24,k39,h14,oo_some,vTup_mk,ll_cons',ll_nil',vAgg_mk,t1,toSl_mk,t2,vBool_mk,er,bb_true]
  rfl
end Go.RgP
