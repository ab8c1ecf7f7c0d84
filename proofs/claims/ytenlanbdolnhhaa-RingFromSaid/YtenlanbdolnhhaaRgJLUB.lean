/- RingFrom: the law. -/
import Derived.Test.YtenlanbdolnhhaaRgJL61x

set_option maxRecDepth 100000
set_option maxHeartbeats 4000000
namespace Go.RgP
open Go Go.Sp Go.RgJM
theorem cnt_six {n:Nat} {l:List Nat} (h:Good n l) (d:Nat):cntD n l d≤6:=Nat.le_trans List.countP_le_length h.few
theorem okI_dists {n:Nat} {l:List Nat} (h:Good n l):okI ((dists n l).map Int.ofNat)=true:=by
 unfold okI
 rw[List.all_eq_true]
 intro x hx
 obtain⟨y,hy,rfl⟩:=List.mem_map.1 hx
 unfold dists at hy
 obtain⟨i,_,rfl⟩:=List.mem_map.1 hy
 have:=cnt_six h (i+1)
 rw[decide_eq_true_eq]
 show 0≤((cntD n l (i+1):Nat):Int)∧((cntD n l (i+1):Nat):Int)≤6
 omega
theorem pu_from (k:Nat) {n:Nat} {l:List Nat} (h:Good n l):puN (k+15) 37 [IV (Int.ofNat n),slv (dists n l)]=some (frV n 0 (z0 (fromL n (dists n l))) 0):=by
 have hn0:=h.pos
 have hn:=h.le
 generalize hDD:dists n l=D
 have hDl:D.length=n - 1:=by rw[←hDD];exact dists_len n l
 have hok:okI (D.map Int.ofNat)=true:=by rw[←hDD];exact okI_dists h
 have w1:wrapF .i64 (Int.sub (Int.ofNat n) (1:Int))=Int.ofNat (n - 1):=by
  have e:Int.sub (Int.ofNat n) (1:Int)=Int.ofNat (n - 1):=by show (n:Int) - 1=((n - 1:Nat):Int);omega
  rw[e];exact wrapI _ (by show _≤((n - 1:Nat):Int);omega) (by show ((n - 1:Nat):Int)≤_;omega)
 have u37:=sum37 (puN (k+14)) L n 0 (Ds:=D.map Int.ofNat) (by simp;omega) (D.map Int.ofNat) L 0 0 List.drop_zero (by simp;show _ < 1000000;omega) (by omega) (by omega) (by omega)
 have hmin:wrapF .i64 (Int.add (bb (ilt (Int.ofNat n) (6:Int)) (Int.ofNat n) (6:Int)) (1:Int))=Int.ofNat (min n 6+1):=by
  rw[show (6:Int)=Int.ofNat 6 from rfl,ilt_nat,blt_eq]
  by_cases h:n < 6
  ·rw[decide_eq_true h,bb_true,wrapS n (by omega),show min n 6=n by omega]
  ·rw[decide_eq_false h,bb_false,wrapS 6 (by omega),show min n 6=6 by omega]
 obtain⟨c',_,r37⟩:=from37 k 0 (D.map Int.ofNat).sum hn0 hn hDl (B:=min n 6+1) (by omega) (by omega) (min n 6+1) L 0 [] 0 (by omega) (by show _ < 1000000;omega) ⟨rfl,rfl⟩ (by simp)
 rw[q37]
 show m37_ (puN (k+14)) L (Int.ofNat n) ⟨D.length,0,vL D⟩=_
 unfold m37_
 rw[show ilt (Int.ofNat n) 1=false from by rw[show (1:Int)=Int.ofNat 1 from rfl,ilt_nat,blt_eq];simp;omega,bb_false,show ilt 21 (Int.ofNat n)=false from by rw[show (21:Int)=Int.ofNat 21 from rfl,ilt_nat,blt_eq];simp;omega]
 unfold m37_0
 rw[bb_false,w1]
 show bb (nt (ieq (Int.ofNat D.length) (Int.ofNat (n - 1)))) _ (l37_5 (puN (k+14)) L L (Int.ofNat n) (0:Int) ⟨D.length,0,vL D⟩ (Int.ofNat D.length) (0:Int) ⟨D.length,0,vL D⟩)=_
 rw[ieq_nat,hDl,show Nat.beq (n - 1) (n - 1)=true from Nat.beq_refl _,show nt true=false from rfl,bb_false]
 rw[←vL_iLI,List.length_map,hDl,hok,Int.zero_add] at u37
 refine Eq.trans u37 ?_
 show m37_1 (puN (k+14)) L (Int.ofNat n) (D.map Int.ofNat).sum ⟨n - 1,0,vL D⟩=_
 unfold m37_1
 rw[hmin]
 rw[hDl] at r37
 exact r37
theorem q19 (k:Nat) (args:List Value):puN (k+1) 19 args=m19 (puN k) L args:=by kernel_rfl
theorem pu_fst19 (k f:Nat) {n:Nat} {l:List Nat} (h:Good n l):puN (k+5) 19 [seaF n f l]=some (tup2 (seaF n 0 (minT n (bitsOf l))) (IV 0)):=by
 have hn:=h.le
 have hm:=first_min h.pos hn (bitsOf_lt h.lt)
 rw[q19]
 show oo (puN (k+4) 61 [seaF n f l]) none _=_
 rw[show puN (k+4) 61 [seaF n f l]=_ from pu_opened (k+2) f h.pos h.le h.few h.up h.lt,oo_some]
 show oo (puN (k+4) 68 [tv n (bitsOf l)]) none _=_
 rw[pu_first k h.pos hn (bitsOf_lt h.lt),oo_some]
 show oo (puN (k+4) 66 [tv n (firstN n (bitsOf l))]) none _=_
 rw[pu_seal (k+1) (by omega),hm.1,oo_some];rfl
theorem grow_RW {c:Nat} {q:List (List Nat)} (hq:q.length≤100000) (hc:Cap c q.length):growC 1 24 q.length c 1 (RW q)=true:=by
 unfold growC roomy
 rw[RW_len,hc.1,hc.2]
 rw[show Nat.ble ((4*(q.length+1)+4096)*24) 281474976710656=true from Nat.ble_eq_true_of_le (by omega),show Nat.ble (q.length+1) q.length=false from by rw[ble_eq];simp,show Nat.ble (0+q.length*1) q.length=true from Nat.ble_eq_true_of_le (by omega),Nat.zero_add,Nat.mul_one,show Nat.beq q.length q.length=true from Nat.beq_refl _]
 rfl
theorem marks_same {n s t:Nat} (hn:n≤31) (hs:s < 2 ^ n) (ht:t < 2 ^ n):Nat.beq s t=decide (marksN n s=marksN n t):=by
 rw[beq_dec]
 apply decide_eq_decide.2
 exact⟨fun e=>by rw[e],fun e=>marks_inj hn hs ht e⟩
section
variable (k:Nat) {n:Nat} {l:List Nat}
theorem try_loop {pu:PureF} (hpu:∀ g,Nat.beq g 14=false→pu g=puN 20 g) (h:Good n l) (hn11:n≤11) (s:Nat) {R:Option Value} :
 ∀ (j w x c : Nat) (q : List (List Nat)), x + j = 2 ^ n → j < w → Cap c q.length → q.length ≤ x →
  (∀ c',Cap c' (q++((List.range' x j).filter (inAll n (dists n l))).map (marksN n)).length→m13_0 pu L (Int.ofNat n) (Int.ofNat s) ⟨(dists n l).length,0,vL (dists n l)⟩ (q++((List.range' x j).filter (inAll n (dists n l))).map (marksN n)).length c' (RW (q++((List.range' x j).filter (inAll n (dists n l))).map (marksN n)))=R) →
  l13_8 pu L w (Int.ofNat n) (Int.ofNat s) ⟨(dists n l).length,0,vL (dists n l)⟩ q.length c (Int.ofNat (2 ^ n)) (Int.ofNat x) (RW q)=R:=by
 have hp:2 ^ n≤2048:=Nat.le_trans (Nat.pow_le_pow_right (by omega) hn11) (by decide)
 intro j
 induction j with
 | zero =>
  intro w x c q hx hw hc hq hR
  obtain⟨w,rfl⟩:∃ v,w=v+1:=⟨w - 1,by omega⟩
  have hb:l13_8 pu L (w+1) (Int.ofNat n) (Int.ofNat s) ⟨(dists n l).length,0,vL (dists n l)⟩ q.length c (Int.ofNat (2 ^ n)) (Int.ofNat x) (RW q)=b13_8 pu L (l13_8 pu L w) (Int.ofNat n) (Int.ofNat s) ⟨(dists n l).length,0,vL (dists n l)⟩ q.length c (Int.ofNat (2 ^ n)) (Int.ofNat x) (RW q):=rfl
  rw[hb]
  unfold b13_8
  rw[RW_closed,bb_true,ilt_nat,show Nat.blt x (2 ^ n)=false from by rw[blt_eq];simp;omega,bb_false]
  have:=hR c (by simpa using hc)
  rw[show q++((List.range' x 0).filter (inAll n (dists n l))).map (marksN n)=q from List.append_nil q] at this
  exact this
 | succ j ih =>
  intro w x c q hx hw hc hq hR
  obtain⟨w,rfl⟩:∃ v,w=v+1:=⟨w - 1,by omega⟩
  have hb:l13_8 pu L (w+1) (Int.ofNat n) (Int.ofNat s) ⟨(dists n l).length,0,vL (dists n l)⟩ q.length c (Int.ofNat (2 ^ n)) (Int.ofNat x) (RW q)=b13_8 pu L (l13_8 pu L w) (Int.ofNat n) (Int.ofNat s) ⟨(dists n l).length,0,vL (dists n l)⟩ q.length c (Int.ofNat (2 ^ n)) (Int.ofNat x) (RW q):=rfl
  rw[hb]
  have hxn:x < 2 ^ n:=by omega
  have hn:=h.le
  have hx32:=lt32 (n:=n) (by omega) hxn
  have hw32:wrapF .u32 (Int.add (Int.ofNat x) (1:Int))=Int.ofNat (x+1):=by
   have e:Int.add (Int.ofNat x) (1:Int)=Int.ofNat (x+1):=rfl
   rw[e];exact wrap32 (by omega)
  have hcons:(List.range' x (j+1)).filter (inAll n (dists n l))=(bif inAll n (dists n l) x then [x] else [])++(List.range' (x+1) j).filter (inAll n (dists n l)):=by
   rw[List.range'_succ,List.filter_cons]
   cases inAll n (dists n l) x <;> rfl
  have next:∀ b:Bool,inAll n (dists n l) x=b→m13_10 pu L (l13_8 pu L w) (Int.ofNat n) (Int.ofNat s) ⟨(dists n l).length,0,vL (dists n l)⟩ q.length c (Int.ofNat x) (Int.ofNat (2 ^ n)) (Int.ofNat x) b (RW q)=R:=by
   intro b hbb
   rw[hcons,hbb] at hR
   cases b with
   | true =>
    have e48:pu 48 [.int .u32 (Int.ofNat x)]=some (Sl.v 1 ⟨(marksN n x).length,0,vL (marksN n x)⟩):=by
     rw[hpu 48 rfl]
     have:=pu_marks48 19 x
     rw[marks_more hx32 hxn (by omega)] at this
     exact this
    have e:appL (dropL 0 (RW q)) [Sl.v 1 ⟨(marksN n x).length,0,vL (marksN n x)⟩]=RW (q++[marksN n x]):=by
     rw[RW_app,appL_eq,dropL_eq,List.drop_zero];rfl
    unfold m13_10
    rw[bb_true,e48,oo_some,show ∀ sl:Sl,toSl 1 (Sl.v 1 sl)=some sl from fun _=>rfl,oo_some,grow_RW (by omega) hc,bb_true,e,RW_closed,bb_true]
    unfold m13_9
    rw[RW_closed,bb_true,hw32]
    have e2:(q++[marksN n x]).length=q.length+1:=by simp
    have e3:∀ t:List Nat,q++((bif true then [x] else [])++t).map (marksN n)=q++[marksN n x]++t.map (marksN n):=fun t=>by
     rw[List.map_append,←List.append_assoc];rfl
    have:=ih w (x+1) (2*(q.length+1)+bb false 1 0) (q++[marksN n x]) (by omega) (by omega) (by rw[e2];exact cap_new _) (by rw[e2];omega) fun c' hc'=>by
     have:=hR c' (by rw[e3];exact hc')
     rw[e3] at this;exact this
    rw[e2] at this
    exact this
   | false =>
    unfold m13_10
    rw[bb_false,RW_closed,bb_true]
    unfold m13_9
    rw[RW_closed,bb_true,hw32]
    exact ih w (x+1) c q (by omega) (by omega) hc (by omega) hR
  have e50:pu 50 [.int .u32 (Int.ofNat x)]=some (IV (Int.ofNat (marksN n x).length)):=by
   rw[hpu 50 rfl]
   have:=pu_ones 19 hx32
   rw[marks_more hx32 hxn (by omega)] at this
   exact this
  have e58:pu 58 [.int .i64 (Int.ofNat n),.int .u32 (Int.ofNat x)]=some (U (bitsOf (minT n x))):=by rw[hpu 58 rfl];exact pu_least 16 h.pos hn hxn
  have e51:pu 51 [.int .i64 (Int.ofNat n),.int .u32 (Int.ofNat x)]=some (slv (dists n (marksN n x))):=by rw[hpu 51 rfl];exact pu_apart 17 h.pos hn hxn
  have e23:pu 23 [slv (dists n (marksN n x)),Sl.v 1 ⟨(dists n l).length,0,vL (dists n l)⟩]=some (.bool (decide (dists n (marksN n x)=dists n l))):=by rw[hpu 23 rfl];exact pu_sameN 19 (by rw[dists_len];omega)
  have hmin:Nat.beq (bitsOf (minT n x)) x=decide (minT n x=marksN n x):=by
   obtain⟨b,_,e⟩:=(minT_least (n:=n) (s:=x) h.pos).1
   have e2:bitsOf (minT n x)=turnN n x b:=by rw[e];exact bitsOf_marks (by omega) turn_lt
   rw[e2,marks_same (n:=n) (by omega) turn_lt hxn,←e]
  have hin:inAll n (dists n l) x=(Nat.ble (marksN n x).length 6 && (decide (minT n x=marksN n x) && decide (dists n (marksN n x)=dists n l))):=by
   unfold inAll goodF
   rw[bitsOf_marks (by omega) hxn]
  unfold b13_8
  rw[RW_closed,bb_true,ilt_nat,show Nat.blt x (2 ^ n)=true from by rw[blt_eq];simp;omega,bb_true,e50,oo_some,show ∀ z,toI .i64 (IV z)=some z from fun _=>rfl,oo_some,show (6:Int)=Int.ofNat 6 from rfl,ilt_nat]
  have h6:nt (Nat.blt 6 (marksN n x).length)=Nat.ble (marksN n x).length 6:=by
   rw[blt_eq,ble_eq]
   by_cases h:6 < (marksN n x).length
   ·rw[decide_eq_true h,decide_eq_false (by omega)];rfl
   ·rw[decide_eq_false h,decide_eq_true (by omega)];rfl
  rw[h6]
  cases hb6:Nat.ble (marksN n x).length 6 with
  | false =>
   rw[bb_false]
   exact next false (by rw[hin,hb6];rfl)
  | true =>
   rw[bb_true,e58,oo_some,show toI .u32 (U (bitsOf (minT n x)))=some (Int.ofNat (bitsOf (minT n x))) from rfl,oo_some,ieq_nat,hmin]
   by_cases hm:minT n x=marksN n x
   ·rw[decide_eq_true hm,bb_true,e51,oo_some]
    unfold slv at e23 ⊢
    rw[show ∀ sl:Sl,toSl 1 (Sl.v 1 sl)=some sl from fun _=>rfl,oo_some,e23,oo_some,vBool_mk,oo_some]
    exact next _ (by rw[hin,hb6,decide_eq_true hm];rfl)
   ·rw[decide_eq_false hm,bb_false]
    exact next false (by rw[hin,decide_eq_false hm];simp)
theorem seen_loop {pu:PureF} (hpu:∀ g,Nat.beq g 14=false→pu g=puN 20 g) (h14:pu 14 []=some (.bool true)) (h:Good n l) {F:List (List Nat)} (c:Nat) (hF:∀ x∈F,x.length≤6) (hl:F.length≤1000)
 (hfin:m13_2 pu L (Int.ofNat n) (Int.ofNat (bitsOf l)) (Int.ofNat (F.countP fun x=>decide (x=minT n (bitsOf l)))) (Int.ofNat (F.countP fun x=>decide (x=minT n (flipS n l))))=some (.bool true)) :
 ∀ (r : List (List Nat)) (w i a b : Nat), F.drop i = r → r.length < w → i ≤ F.length → a + (r.countP fun x => decide (x = minT n (bitsOf l))) = (F.countP fun x => decide (x = minT n (bitsOf l))) → b + (r.countP fun x => decide (x = minT n (flipS n l))) = (F.countP fun x => decide (x = minT n (flipS n l))) →
  l13_4 pu L w (Int.ofNat n) (Int.ofNat (bitsOf l)) F.length c (Int.ofNat a) (Int.ofNat b) ⟨(z0 F).length,0,qW n (z0 F)⟩ (Int.ofNat (z0 F).length) (Int.ofNat i) (RW F)=some (.bool true):=by
 have hn:=h.le
 have h0:=h.pos
 have hs:=bitsOf_lt h.lt
 obtain⟨hfp,hflt⟩:=flip_perm h
 have cF:=List.countP_le_length (p:=fun x=>decide (x=minT n (bitsOf l))) (l:=F)
 have cG:=List.countP_le_length (p:=fun x=>decide (x=minT n (flipS n l))) (l:=F)
 -- the first turn of a set, as a list
 have first:∀ t,t < 2 ^ n→pu 58 [.int .i64 (Int.ofNat n),.int .u32 (Int.ofNat t)]=some (U (bitsOf (minT n t)))∧pu 48 [.int .u32 (Int.ofNat (bitsOf (minT n t)))]=some (slv (minT n t)):=fun t ht=>by
  refine⟨by rw[hpu 58 rfl];exact pu_least 16 h0 hn ht,?_⟩
  rw[hpu 48 rfl]
  obtain⟨b,_,e⟩:=(minT_least (n:=n) (s:=t) h0).1
  have e2:bitsOf (minT n t)=turnN n t b:=by rw[e];exact bitsOf_marks (by omega) turn_lt
  have:=pu_marks48 19 (bitsOf (minT n t))
  rw[e2,marks_more (lt32 (n:=n) (by omega) turn_lt) turn_lt (by omega),←e] at this
  rw[e2];exact this
 obtain⟨f1,f2⟩:=first (bitsOf l) hs
 obtain⟨g1,g2⟩:=first (flipS n l) hflt
 have e49:pu 49 [.int .i64 (Int.ofNat n),.int .u32 (Int.ofNat (bitsOf l)),.int .i64 (-1:Int),.int .i64 (0:Int)]=some (U (flipS n l)):=by
  rw[hpu 49 rfl]
  have:=pu_moved 18 h0 hn hs (m:=-1) (b:=0) (by omega) (by omega) (by omega) (by omega)
  rw[h.marks] at this
  exact this
 intro r
 induction r with
 | nil =>
  intro w i a b hd hw hi ha hb
  obtain⟨w,rfl⟩:∃ v,w=v+1:=⟨w - 1,by omega⟩
  have h1:F.length≤i:=List.drop_eq_nil_iff.1 hd
  have hbb:l13_4 pu L (w+1) (Int.ofNat n) (Int.ofNat (bitsOf l)) F.length c (Int.ofNat a) (Int.ofNat b) ⟨(z0 F).length,0,qW n (z0 F)⟩ (Int.ofNat (z0 F).length) (Int.ofNat i) (RW F)=b13_4 pu L (l13_4 pu L w) (Int.ofNat n) (Int.ofNat (bitsOf l)) F.length c (Int.ofNat a) (Int.ofNat b) ⟨(z0 F).length,0,qW n (z0 F)⟩ (Int.ofNat (z0 F).length) (Int.ofNat i) (RW F):=rfl
  rw[hbb]
  unfold b13_4
  rw[RW_closed,bb_true,ilt_nat,z0_len,show Nat.blt i F.length=false from by rw[blt_eq];simp;omega,bb_false]
  have ha:a=_:=ha
  have hb:b=_:=hb
  rw[ha,hb]
  exact hfin
 | cons x r ih =>
  intro w i a b hd hw hi ha hb
  obtain⟨w,rfl⟩:∃ v,w=v+1:=⟨w - 1,by simp at hw;omega⟩
  obtain⟨h1,h2,h3⟩:=drop_at hd
  have hx6:=hF x (List.mem_of_getElem? h1)
  have hxe:F[i]=x:=by rw[List.getElem?_eq_getElem h3] at h1;exact Option.some.inj h1
  have hbb:l13_4 pu L (w+1) (Int.ofNat n) (Int.ofNat (bitsOf l)) F.length c (Int.ofNat a) (Int.ofNat b) ⟨(z0 F).length,0,qW n (z0 F)⟩ (Int.ofNat (z0 F).length) (Int.ofNat i) (RW F)=b13_4 pu L (l13_4 pu L w) (Int.ofNat n) (Int.ofNat (bitsOf l)) F.length c (Int.ofNat a) (Int.ofNat b) ⟨(z0 F).length,0,qW n (z0 F)⟩ (Int.ofNat (z0 F).length) (Int.ofNat i) (RW F):=rfl
  rw[hbb]
  have hz:(z0 F)[i]?=some (0,x):=by unfold z0;rw[List.getElem?_map,h1];rfl
  obtain⟨k1,k2⟩:=qW_get n (z0 F) i (0,x) hz
  have hr:(x::r).length=r.length+1:=rfl
  have hlt:Nat.blt i (z0 F).length=true:=by rw[z0_len,blt_eq];simp;omega
  have hlen:Nat.ble (i*2+2) (len (qW n (z0 F)))=true:=by rw[len_eq,qW_len,z0_len];exact Nat.ble_eq_true_of_le (by omega)
  have e23:pu 23 [Sl.v 1 (mkS (0,x)),Sl.v 1 ⟨F[i].length,0,vL F[i]⟩]=some (.bool true):=by
   rw[hxe,hpu 23 rfl]
   have:=pu_sameN 19 (a:=x) (b:=x) (by omega)
   rw[decide_eq_true rfl] at this;exact this
  have s23:∀ y:List Nat,pu 23 [Sl.v 1 (mkS (0,x)),slv y]=some (.bool (decide (x=y))):=fun y=>by
   rw[hpu 23 rfl];exact pu_sameN 19 (a:=x) (b:=y) (by omega)
  rw[List.countP_cons] at ha hb
  have e7:∀ a':Nat,a'+(r.countP fun x=>decide (x=minT n (bitsOf l)))=(F.countP fun x=>decide (x=minT n (bitsOf l)))→m13_7 pu L (l13_4 pu L w) (Int.ofNat n) (Int.ofNat (bitsOf l)) F.length c (Int.ofNat a') (Int.ofNat b) ⟨(z0 F).length,0,qW n (z0 F)⟩ (Int.ofNat (z0 F).length) (Int.ofNat i) (RW F) (Int.ofNat n) (mkS (0,x))=some (.bool true):=by
   intro a' ha'
   have g2':pu 48 [.int .u32 (Int.ofNat (bitsOf (minT n (flipS n l))))]=_:=g2
   have s:=s23 (minT n (flipS n l))
   unfold slv at g2' s
   unfold m13_7
   rw[e49,oo_some,show toI .u32 (U (flipS n l))=some (Int.ofNat (flipS n l)) from rfl,oo_some,g1,oo_some,show toI .u32 (U (bitsOf (minT n (flipS n l))))=some (Int.ofNat (bitsOf (minT n (flipS n l)))) from rfl,oo_some,g2',oo_some,show ∀ sl:Sl,toSl 1 (Sl.v 1 sl)=some sl from fun _=>rfl,oo_some,s,oo_some,vBool_mk,oo_some,RW_closed,bb_true]
   unfold m13_5
   by_cases hc:x=minT n (flipS n l)
   ·rw[decide_eq_true hc,if_pos rfl] at hb
    rw[decide_eq_true hc,bb_true,RW_closed,bb_true,wrapS b (by omega),wrapS i (by omega)]
    exact ih w (i+1) a' (b+1) h2 (by omega) (by omega) ha' (by omega)
   ·rw[decide_eq_false hc,if_neg (show ¬ false=true from Bool.false_ne_true)] at hb
    rw[decide_eq_false hc,bb_false,RW_closed,bb_true,wrapS i (by omega)]
    exact ih w (i+1) a' b h2 (by omega) (by omega) ha' (by omega)
  have e6:m13_6 pu L (l13_4 pu L w) (Int.ofNat n) (Int.ofNat (bitsOf l)) F.length c (Int.ofNat a) (Int.ofNat b) ⟨(z0 F).length,0,qW n (z0 F)⟩ (Int.ofNat (z0 F).length) (Int.ofNat i) false (RW F) (Int.ofNat n) (mkS (0,x))=some (.bool true):=by
   have f2':pu 48 [.int .u32 (Int.ofNat (bitsOf (minT n (bitsOf l))))]=_:=f2
   have s:=s23 (minT n (bitsOf l))
   unfold slv at f2' s
   unfold m13_6
   rw[bb_false,RW_closed,bb_true,f1,oo_some,show toI .u32 (U (bitsOf (minT n (bitsOf l))))=some (Int.ofNat (bitsOf (minT n (bitsOf l)))) from rfl,oo_some,f2',oo_some,show ∀ sl:Sl,toSl 1 (Sl.v 1 sl)=some sl from fun _=>rfl,oo_some,s,oo_some,vBool_mk,oo_some]
   by_cases hc:x=minT n (bitsOf l)
   ·rw[decide_eq_true hc,if_pos rfl] at ha
    rw[decide_eq_true hc,bb_true,wrapS a (by omega)]
    exact e7 (a+1) (by omega)
   ·rw[decide_eq_false hc,if_neg (show ¬ false=true from Bool.false_ne_true)] at ha
    rw[decide_eq_false hc,bb_false]
    exact e7 a (by omega)
  unfold b13_4
  rw[RW_closed,bb_true,ilt_nat,hlt,bb_true,toN_mk,oo_some]
  show bb (an (Nat.blt i (z0 F).length) true) (bb (Nat.ble (i*2+2) (len (qW n (z0 F)))) (oo (nthL (qW n (z0 F)) (i*2)) none _) none) none=_
  rw[hlt,show an true true=true from rfl,bb_true,hlen,bb_true,k1,oo_some,show ∀ z,toI .i64 (IV z)=some z from fun _=>rfl,oo_some]
  show oo (nthL (qW n (z0 F)) (i*2+1)) none _=_
  rw[k2,oo_some,show ∀ sl:Sl,toSl 1 (Sl.v 1 sl)=some sl from fun _=>rfl,oo_some,ieq_nat,show Nat.beq n n=true from Nat.beq_refl n,show nt true=false from rfl,bb_false,bltA h3,bb_true,RW_get h3,oo_some,show ∀ sl:Sl,toSl 1 (Sl.v 1 sl)=some sl from fun _=>rfl,oo_some,e23,oo_some,vBool_mk,oo_some]
  exact e6
end
theorem rangeE (x:Nat):List.range x=List.range' 0 x:=List.range_eq_range'
theorem from_law (pu:PureF) (hpu:∀ g,Nat.beq g 14=false→pu g=puN 20 g) (h14:pu 14 []=some (.bool true)) {p b:Nat} (hp:p < 256) (hb:b < 4294967296) :
 m13 pu L [.agg ⟨[.int .u8 (Int.ofNat p),.int .u32 (Int.ofNat b)]⟩]=some (.bool true):=by
 obtain⟨l,h,h46⟩:=pu_stamp 18 (most:=11) (by omega) (by omega) hp hb
 have hmod:p % 11 < 11:=Nat.mod_lt _ (by omega)
 generalize hnn:1+p % 11=n at h h46
 have hn11:n≤11:=by omega
 have h0:=h.pos
 have hn:=h.le
 have hs:=bitsOf_lt h.lt
 have hp2:2 ^ n≤2048:=Nat.le_trans (Nat.pow_le_pow_right (by omega) hn11) (by decide)
 have e46:pu 46 [.agg ⟨[.int .u8 (Int.ofNat p),.int .u32 (Int.ofNat b)]⟩,.int .i64 (11:Int)]=some (tup2 (IV (Int.ofNat n)) (U (bitsOf l))):=by rw[hpu 46 rfl];exact h46
 have e51:pu 51 [.int .i64 (Int.ofNat n),.int .u32 (Int.ofNat (bitsOf l))]=some (slv (dists n l)):=by
  rw[hpu 51 rfl]
  have:=pu_apart 17 h0 hn hs
  rw[h.marks] at this;exact this
 have hshl:shlI .u32 (1:Int) n=Int.ofNat (2 ^ n):=shl32 (by omega)
 show m13_ pu L (Int.ofNat p) (Int.ofNat b)=_
 unfold m13_
 rw[e46,oo_some]
 unfold tup2
 rw[vTup_mk,oo_some,ll_cons',ll_cons',ll_nil',show ∀ z,toI .i64 (IV z)=some z from fun _=>rfl,oo_some,show toI .u32 (U (bitsOf l))=some (Int.ofNat (bitsOf l)) from rfl,oo_some,e51,oo_some]
 unfold slv
 rw[show ∀ sl:Sl,toSl 1 (Sl.v 1 sl)=some sl from fun _=>rfl,oo_some,toN_mk,oo_some,hshl]
 have ht:=try_loop (R:=some (.bool true)) hpu h hn11 (bitsOf l) (2 ^ n) L 0 0 [] (by omega) (by show _ < 1000000;omega) ⟨rfl,rfl⟩ (Nat.le_refl _)
 have hA:[]++((List.range' 0 (2 ^ n)).filter (inAll n (dists n l))).map (marksN n)=allL2 n (dists n l):=by
  rw[List.nil_append,←rangeE];rfl
 rw[hA] at ht
 refine ht fun c hc=>?_
 obtain⟨mg1,mg2⟩:=min_good h
 obtain⟨fg1,fg2⟩:=flip_good h
 obtain⟨mf1,mf2⟩:=min_good fg1
 rw[fg2,bitsOf_marks (by omega) (flip_perm h).2] at mf2
 rw[bitsOf_marks (by omega) (flip_perm h).2] at mf1
 have inM:minT n (bitsOf l)∈fromL n (dists n l):=(fromL_mem h0 hn).2 ⟨mg1,mg2⟩
 have inF:minT n (flipS n l)∈fromL n (dists n l):=(fromL_mem h0 hn).2 ⟨mf1,mf2⟩
 have few:=few_all h0 hn11 (dists n l)
 have hlenS:(sortL (allL2 n (dists n l))).length=(allL2 n (dists n l)).length:=(sortL_spec (l:=allL2 n (dists n l))).1.length_eq
 have one:1≤(allL2 n (dists n l)).length:=by
  rw[←hlenS,sort_all h0 hn];exact List.length_pos_of_mem inM
 have hc2:2≤c:=by have:=hc.1;omega
 have small:Small (allL2 n (dists n l)):=fun x hx=>by have:=((all_mem h0 hn).1 hx).1.few;omega
 have hsort:=pu_sort 14 (c:=c) one few hc2 small
 rw[sort_all h0 hn] at hsort
 have hsort':pu 10600 [.slice (some ⟨0,0,some 1⟩) (allL2 n (dists n l)).length c,.func (.func 52) ⟨[]⟩ ⟨[]⟩,.agg ⟨RW (allL2 n (dists n l))⟩]=some (.tuple ⟨[.tuple ⟨[]⟩,.agg ⟨RW (fromL n (dists n l))⟩]⟩):=by rw[hpu 10600 rfl];exact hsort
 have hfrom:pu 37 [.int .i64 (Int.ofNat n),Sl.v 1 ⟨(dists n l).length,0,vL (dists n l)⟩]=some (frV n 0 (z0 (fromL n (dists n l))) 0):=by rw[hpu 37 rfl];exact pu_from 5 h
 unfold m13_0
 rw[nil_ok one,Nat.ble_eq_true_of_le hc2,bb_true,RW_closed,bb_true,hsort',oo_some]
 have hlen2:(allL2 n (dists n l)).length=(fromL n (dists n l)).length:=by rw[←hlenS,sort_all h0 hn]
 show bb (isNoV (.tuple ⟨[]⟩)) (bb (allL closed1 (RW (fromL n (dists n l)))) (bb (allL closed1 (RW (fromL n (dists n l)))) (oo (pu 37 [.int .i64 (Int.ofNat n),Sl.v 1 ⟨(dists n l).length,0,vL (dists n l)⟩]) none _) none) none) none=_
 rw[RW_closed,bb_true,bb_true,show isNoV (.tuple ⟨[]⟩)=true from rfl,bb_true,hfrom,oo_some]
 unfold frV tup2
 rw[vTup_mk,oo_some,ll_cons',ll_cons',ll_nil',show ∀ sl:Sl,toSl 2 (Sl.v 2 sl)=some sl from fun _=>rfl,oo_some,show ∀ z,toI .i64 (IV z)=some z from fun _=>rfl,oo_some,show nt (ieq (0:Int) 0)=false from rfl,bb_false]
 show m13_1 pu L (Int.ofNat n) (Int.ofNat (bitsOf l)) (allL2 n (dists n l)).length c ⟨(z0 (fromL n (dists n l))).length,0,qW n (z0 (fromL n (dists n l)))⟩ (nt (ieq (Int.ofNat (z0 (fromL n (dists n l))).length) (Int.ofNat (allL2 n (dists n l)).length))) (RW (fromL n (dists n l)))=_
 rw[ieq_nat,z0_len,hlen2,show Nat.beq (fromL n (dists n l)).length (fromL n (dists n l)).length=true from Nat.beq_refl _,show nt true=false from rfl]
 unfold m13_1
 rw[bb_false,RW_closed,bb_true]
 have hF6:∀ x∈fromL n (dists n l),x.length≤6:=fun x hx=>((fromL_mem h0 hn).1 hx).1.few
 have nd:(fromL n (dists n l)).Nodup:=(fromQ_strict (n:=n) (D:=dists n l) (S:=((dists n l).map Int.ofNat).sum) (min n 6+1) 0).nodup
 have c1:(fromL n (dists n l)).countP (fun x=>decide (x=minT n (bitsOf l)))=1:=by rw[count_one nd,if_pos inM]
 have c2:(fromL n (dists n l)).countP (fun x=>decide (x=minT n (flipS n l)))=1:=by rw[count_one nd,if_pos inF]
 have hfin:m13_2 pu L (Int.ofNat n) (Int.ofNat (bitsOf l)) (Int.ofNat 1) (Int.ofNat 1)=some (.bool true):=by
  have e47:pu 47 [.int .i64 (Int.ofNat n),.int .u32 (Int.ofNat (bitsOf l))]=some (seaF n 0 l):=by
   rw[hpu 47 rfl]
   have:=pu_sealed 18 n (bitsOf l)
   rw[marks_more h.lt32 hs (by omega),h.marks] at this
   exact this
  have e19:pu 19 [.agg ⟨[.int .i64 (Int.ofNat n),Sl.v 1 ⟨l.length,0,vL l⟩]⟩]=some (tup2 (seaF n 0 (minT n (bitsOf l))) (IV 0)):=by rw[hpu 19 rfl];exact pu_fst19 15 0 h
  have e58:pu 58 [.int .i64 (Int.ofNat n),.int .u32 (Int.ofNat (bitsOf l))]=some (U (bitsOf (minT n (bitsOf l)))):=by rw[hpu 58 rfl];exact pu_least 16 h0 hn hs
  have e48:pu 48 [.int .u32 (Int.ofNat (bitsOf (minT n (bitsOf l))))]=some (Sl.v 1 ⟨(minT n (bitsOf l)).length,0,vL (minT n (bitsOf l))⟩):=by
   rw[hpu 48 rfl]
   have:=pu_marks48 19 (bitsOf (minT n (bitsOf l)))
   rw[marks_more mg1.lt32 (bitsOf_lt mg1.lt) (by omega),mg1.marks] at this
   exact this
  have e23:pu 23 [Sl.v 1 ⟨(minT n (bitsOf l)).length,0,vL (minT n (bitsOf l))⟩,Sl.v 1 ⟨(minT n (bitsOf l)).length,0,vL (minT n (bitsOf l))⟩]=some (.bool true):=by
   rw[hpu 23 rfl]
   have:=pu_sameN 19 (a:=minT n (bitsOf l)) (b:=minT n (bitsOf l)) (by have:=mg1.few;omega)
   rw[decide_eq_true rfl] at this;exact this
  unfold seaF at e47 e19
  unfold tup2 at e19
  unfold m13_2
  simp only[e47,oo_some,vAgg_mk,ll_cons',ll_nil',show ∀ z,toI .i64 (IV z)=some z from fun _=>rfl,toSl_mk,e19,vTup_mk,show ieq (Int.ofNat 1) (1:Int)=true from rfl,show ieq (0:Int) 0=true from rfl,bb_true,ieq_nat,show Nat.beq n n=true from Nat.beq_refl n,e58,show toI .u32 (U (bitsOf (minT n (bitsOf l))))=some (Int.ofNat (bitsOf (minT n (bitsOf l)))) from rfl,e48,e23,vBool_mk,h14]
  rfl
 rw[←z0_len (fromL n (dists n l))]
 have hcl:=seen_loop hpu h14 h (F:=fromL n (dists n l)) c hF6 (by rw[←hlen2];omega) (by rw[c1,c2];exact hfin) (fromL n (dists n l)) L 0 0 0 List.drop_zero (by rw[←hlen2];show _ < 1000000;omega) (by omega) (by omega) (by omega)
 rw[←z0_len (fromL n (dists n l))] at hcl
 exact hcl
end Go.RgP
