/- RingAlike's law. -/
import Derived.Test.YtenlanbdolnhhaaRgIT5x

set_option maxRecDepth 100000
set_option maxHeartbeats 4000000
namespace Go.RgP
open Go Go.Sp Go.RgIM
noncomputable def foundT (n s o:Nat):Option (Nat×Bool):=hitT n s o n false (hitT n (timesN n s (-1)) o n true none)
theorem foundT_eq (n s o:Nat):foundT n s o = oo (reachN n s o) (oo (reachN n (timesN n s (-1)) o) none fun b=>some (b,true)) fun b=>some (b,false):=rfl
theorem alike_parts (n:Nat) (l l':List Nat):alike2 n l n l' = tup3 (IV (bif Nat.beq l.length l'.length then wT (foundT n (bitsOf l) (bitsOf l')) else 0)) (.bool (bif Nat.beq l.length l'.length then tT (foundT n (bitsOf l) (bitsOf l')) else false)) (IV (bif Nat.beq l.length l'.length then fT (foundT n (bitsOf l) (bitsOf l')) else 5)):=by
 unfold alike2 alikeV
 rw [Nat.beq_refl,Bool.true_and,foundT_eq]
 cases Nat.beq l.length l'.length with
 | false=>rfl
 | true =>
  cases reachN n (bitsOf l) (bitsOf l') with
  | some b=>rfl
  | none=>cases reachN n (timesN n (bitsOf l) (-1)) (bitsOf l') <;> rfl
theorem found_iff (n:Nat) (l l':List Nat):(ieq (bif Nat.beq l.length l'.length then fT (foundT n (bitsOf l) (bitsOf l')) else 5) 0 && nt (bif Nat.beq l.length l'.length then tT (foundT n (bitsOf l) (bitsOf l')) else false)) = (Nat.beq l.length l'.length && (reachN n (bitsOf l) (bitsOf l')).isSome):=by
 rw [foundT_eq]
 cases Nat.beq l.length l'.length with
 | false=>rfl
 | true =>
  cases reachN n (bitsOf l) (bitsOf l') with
  | some b=>rfl
  | none=>cases reachN n (timesN n (bitsOf l) (-1)) (bitsOf l') <;> rfl
theorem alike_end (pu:PureF) (L:Nat) (h14:pu 14 [] = some (.bool true)) (b:Bool) (c:Int):m11_8 pu L b c (ieq c 0 && nt b) = some (.bool true):=by
 unfold m11_8
 rw [h14]
 cases ieq c 0 <;> cases b <;> rfl
theorem alike_gaps (pu : PureF) (L : Nat) (hL : 100 < L) (h14 : pu 14 [] = some (.bool true)) {n : Nat} {l l' : List Nat} (h : Good n l) (h' : Good n l') (b : Bool) (c : Int) (hbc : (ieq c 0 && nt b) = (Nat.beq l.length l'.length && (reachN n (bitsOf l) (bitsOf l')).isSome))
 (h15:∀ l,Good n l→pu 15 [seaV n l] = some (gapsV n l)) (h50:∀ l,Good n l→pu 50 [U (bitsOf l)] = some (IV (Int.ofNat l.length))) (h48:pu 48 [U (bitsOf l)] = some (slv l)) (h23:∀ a b:List Nat,a.length < 900000→pu 10230 [slv a,slv b] = some (.tuple ⟨[.bool (decide (a = b))]⟩)) :
 m11_3 pu L (Int.ofNat n) (Int.ofNat (bitsOf l)) (Int.ofNat (bitsOf l')) b c false (Int.ofNat n) ⟨l.length,0,vL l⟩ (Int.ofNat n) ⟨l'.length,0,vL l'⟩ = some (.bool true):=by
 have hz:=bits_zero h
 have hz':=bits_zero h'
 have i0:∀ s:Nat,ieq (Int.ofNat s) (0:Int) = Nat.beq s 0:=fun s=>by rw [show (0:Int) = Int.ofNat 0 from rfl,ieq_nat]
 have pos:∀ s:Nat,Nat.beq s 0 = false→ilt (0:Int) (Int.ofNat s) = true:=fun s hs=>by
  rw [show ilt (0:Int) (Int.ofNat s) = Nat.blt 0 s from ilt_nat 0 s,blt_eq]
  have:=Nat.ne_of_beq_eq_false hs
  simp;omega
 have neg:∀ s:Nat,Nat.beq s 0 = true→ilt (0:Int) (Int.ofNat s) = false:=fun s hs=>by
  have:=Nat.eq_of_beq_eq_true hs
  rw [this];rfl
 unfold m11_3
 rw [bb_false]
 show oo (pu 15 [seaV n l]) none _ = _
 rw [h15 l h,oo_some]
 cases e:Nat.beq l.length 0 with
 | true =>
  rw [e] at hz
  have g1:gapsV n l = tup2 nilQ (IV 4):=by unfold gapsV;rw [e];rfl
  rw [g1]
  show oo (pu 15 [seaV n l']) none _ = _
  rw [h15 l' h',oo_some]
  cases e':Nat.beq l'.length 0 with
  | true =>
   rw [e'] at hz'
   have g2:gapsV n l' = tup2 nilQ (IV 4):=by unfold gapsV;rw [e'];rfl
   rw [g2]
   show bb (ieq (Int.ofNat (bitsOf l)) (0:Int)) _ _ = _
   rw [i0,hz,bb_true]
   unfold m11_4
   rw [bb_true,neg _ hz,bb_false,neg _ hz',h14];rfl
  | false =>
   rw [e'] at hz'
   have g2:gapsV n l' = tup2 (slv (gapsL n l')) (IV 0):=by unfold gapsV;rw [e'];rfl
   rw [g2]
   show bb (ieq (Int.ofNat (bitsOf l)) (0:Int)) _ _ = _
   rw [i0,hz,bb_true]
   unfold m11_4
   rw [bb_true,neg _ hz,bb_false,pos _ hz',h14];rfl
 | false =>
  rw [e] at hz
  have g1:gapsV n l = tup2 (slv (gapsL n l)) (IV 0):=by unfold gapsV;rw [e];rfl
  rw [g1]
  show oo (pu 15 [seaV n l']) none _ = _
  rw [h15 l' h',oo_some]
  cases e':Nat.beq l'.length 0 with
  | true =>
   rw [e'] at hz'
   have g2:gapsV n l' = tup2 nilQ (IV 4):=by unfold gapsV;rw [e'];rfl
   rw [g2]
   show bb (ieq (Int.ofNat (bitsOf l)) (0:Int)) _ (m11_4 pu L (Int.ofNat n) (Int.ofNat (bitsOf l)) (Int.ofNat (bitsOf l')) b c ⟨(gapsL n l).length,0,vL (gapsL n l)⟩ 0 (Sl.mk 0 2 []) 4 (ieq (Int.ofNat (bitsOf l')) (0:Int))) = _
   rw [i0,hz,bb_false,i0,hz']
   unfold m11_4
   rw [bb_true,pos _ hz,bb_true,neg _ hz',h14];rfl
  | false =>
   rw [e'] at hz'
   have g2:gapsV n l' = tup2 (slv (gapsL n l')) (IV 0):=by unfold gapsV;rw [e'];rfl
   rw [g2]
   show bb (ieq (Int.ofNat (bitsOf l)) (0:Int)) _ (m11_4 pu L (Int.ofNat n) (Int.ofNat (bitsOf l)) (Int.ofNat (bitsOf l')) b c ⟨(gapsL n l).length,0,vL (gapsL n l)⟩ 0 ⟨(gapsL n l').length,0,vL (gapsL n l')⟩ 0 (ieq (Int.ofNat (bitsOf l')) (0:Int))) = _
   rw [i0,hz,bb_false,i0,hz']
   have hl0:=Nat.ne_of_beq_eq_false e
   have hfew:=h.few
   have hn:=h.le
   have hgl:=gapsL_len n l
   have hgl':=gapsL_len n l'
   unfold m11_4
   rw [bb_false]
   show oo (pu 50 [U (bitsOf l)]) none _ = _
   rw [h50 l h,oo_some,show ∀ z,toI .i64 (IV z) = some z from fun _=>rfl,oo_some]
   show bb (nt (ieq (Int.ofNat (gapsL n l).length) (Int.ofNat l.length))) _ (oo (pu 50 [U (bitsOf l')]) none _) = _
   rw [ieq_nat,hgl,Nat.beq_refl,show nt true = false from rfl,bb_false,h50 l' h',oo_some,show ∀ z,toI .i64 (IV z) = some z from fun _=>rfl,oo_some]
   show m11_6 pu L (Int.ofNat n) (Int.ofNat (bitsOf l)) b c _ _ (nt (ieq (Int.ofNat (gapsL n l').length) (Int.ofNat l'.length))) = _
   rw [ieq_nat,hgl',Nat.beq_refl,show nt true = false from rfl,←hgl,←hgl']
   unfold m11_6
   rw [bb_false]
   show l11_11 pu L L (Int.ofNat n) (Int.ofNat (bitsOf l)) b c ⟨(gapsL n l).length,0,vL (gapsL n l)⟩ ⟨(gapsL n l').length,0,vL (gapsL n l')⟩ (Int.ofNat 0) ⟨(gapsL n l).length,0,vL (gapsL n l)⟩ (Int.ofNat (gapsL n l).length) (Int.ofNat 0) = _
   refine gaps_walk pu L hL h b c _ h48 ?_ (gapsL n l) L 0 0 List.drop_zero (by omega) (by rw [gaps_sum h hl0];omega)
   unfold m11_7
   rw [ieq_nat,Nat.beq_refl,show nt true = false from rfl,bb_false]
   show l11_10 pu L L b c ⟨(gapsL n l).length,0,vL (gapsL n l)⟩ ⟨(gapsL n l').length,0,vL (gapsL n l')⟩ false (Int.ofNat (gapsL n l).length) (Int.ofNat 0) = _
   rw [show Int.ofNat (gapsL n l).length = Int.ofNat l.length by rw [hgl],an_nat pu L b c h h' h23 l.length L 0 false (by omega) (by omega),Bool.false_or,←List.range_eq_range',rot_any h h' hl0,←hbc]
   exact alike_end pu L h14 b c
theorem m2_self (pu:PureF) (L:Nat) (n s o a:Int) (b:Bool) (c x1:Int) (s1:Sl) (x2:Int) (s2:Sl):m11_2 pu L n s o a b c a b c x1 s1 x2 s2 = m11_3 pu L n s o b c false x1 s1 x2 s2:=by
 unfold m11_2
 have hi:∀ z:Int,ieq z z = true:=fun z=>by rw [ieq_eq];simp
 rw [hi,hi]
 cases b <;> rfl
theorem alike_core2 (pu : PureF) (L : Nat) (hL : 100 < L) (h14 : pu 14 [] = some (.bool true)) {n : Nat} {l l' : List Nat} (h : Good n l) (h' : Good n l') {a c : Int} {b : Bool} (ha : (bif Nat.beq l.length l'.length then wT (foundT n (bitsOf l) (bitsOf l')) else 0) = a) (hb : (bif Nat.beq l.length l'.length then tT (foundT n (bitsOf l) (bitsOf l')) else false) = b) (hc : (bif Nat.beq l.length l'.length then fT (foundT n (bitsOf l) (bitsOf l')) else 5) = c)
 (h47:∀ l,Good n l→pu 47 [IV (Int.ofNat n),U (bitsOf l)] = some (seaV n l)) (h21:pu 21 [seaV n l,seaV n l'] = some (tup3 (IV a) (.bool b) (IV c)))
 (h49:∀ t,t < n→pu 49 [IV (Int.ofNat n),U (bitsOf l),IV 1,IV (Int.ofNat t)] = some (U (turnN n (bitsOf l) t))) (h49m:∀ t,t < n→pu 49 [IV (Int.ofNat n),U (bitsOf l),IV (-1),IV (Int.ofNat t)] = some (U (turnN n (timesN n (bitsOf l) (-1)) t)))
 (h15:∀ l,Good n l→pu 15 [seaV n l] = some (gapsV n l)) (h50:∀ l,Good n l→pu 50 [U (bitsOf l)] = some (IV (Int.ofNat l.length))) (h48:pu 48 [U (bitsOf l)] = some (slv l)) (h23:∀ a b:List Nat,a.length < 900000→pu 10230 [slv a,slv b] = some (.tuple ⟨[.bool (decide (a = b))]⟩)) :
 m11_0 pu L (Int.ofNat n) (Int.ofNat (bitsOf l)) (Int.ofNat (bitsOf l')) = some (.bool true):=by
 have hfi:=found_iff n l l'
 rw [hb,hc] at hfi
 have hg:=alike_gaps pu L hL h14 h h' b c hfi h15 h50 h48 h23
 obtain ⟨w,hw⟩:∃ w,L = w + 3:=⟨L - 3,by omega⟩
 have ho:=turn_outer pu L w (by omega) (o:=bitsOf l') h.pos h.le a b c h49 h49m (Int.ofNat n) ⟨l.length,0,vL l⟩ (Int.ofNat n) ⟨l'.length,0,vL l'⟩
 rw [←hw] at ho
 unfold m11_0
 show oo (pu 47 [IV (Int.ofNat n),U (bitsOf l)]) none _ = _
 rw [h47 l h,oo_some]
 show oo (pu 47 [IV (Int.ofNat n),U (bitsOf l')]) none _ = _
 rw [h47 l' h',oo_some]
 show oo (pu 21 [seaV n l,seaV n l']) none _ = _
 rw [h21,oo_some]
 refine Eq.trans ho ?_
 unfold m11_1
 show oo (pu 50 [U (bitsOf l)]) none _ = _
 rw [h50 l h,oo_some]
 show oo (pu 50 [U (bitsOf l')]) none _ = _
 rw [h50 l' h',oo_some]
 show bb (nt (ieq (Int.ofNat l.length) (Int.ofNat l'.length))) (m11_2 pu L (Int.ofNat n) (Int.ofNat (bitsOf l)) (Int.ofNat (bitsOf l')) a b c 0 false 5 (Int.ofNat n) ⟨l.length,0,vL l⟩ (Int.ofNat n) ⟨l'.length,0,vL l'⟩) (m11_2 pu L (Int.ofNat n) (Int.ofNat (bitsOf l)) (Int.ofNat (bitsOf l')) a b c (wT (foundT n (bitsOf l) (bitsOf l'))) (tT (foundT n (bitsOf l) (bitsOf l'))) (fT (foundT n (bitsOf l) (bitsOf l'))) (Int.ofNat n) ⟨l.length,0,vL l⟩ (Int.ofNat n) ⟨l'.length,0,vL l'⟩) = _
 rw [ieq_nat]
 cases e:Nat.beq l.length l'.length with
 | true =>
  rw [e] at ha hb hc
  have ha:wT (foundT n (bitsOf l) (bitsOf l')) = a:=ha
  have hb:tT (foundT n (bitsOf l) (bitsOf l')) = b:=hb
  have hc:fT (foundT n (bitsOf l) (bitsOf l')) = c:=hc
  rw [show nt true = false from rfl,bb_false,ha,hb,hc,m2_self];exact hg
 | false =>
  rw [e] at ha hb hc
  have ha:0 = a:=ha
  have hb:false = b:=hb
  have hc:5 = c:=hc
  subst ha;subst hb;subst hc
  rw [show nt false = true from rfl,bb_true,m2_self];exact hg
theorem good_set {n t:Nat} (h0:0 < n) (hn:n≤21) (ht:t < 2 ^ n) (hf:(marksN n t).length≤6):∃ l',Good n l'∧bitsOf l' = t:=⟨marksN n t,good_marks h0 hn ht hf,bitsOf_marks (by omega) ht⟩
theorem alike_law (pu : PureF) (hpu : ∀ g, Nat.beq g 14 = false → pu g = puN 10 g) (h14 : pu 14 [] = some (.bool true)) {p b o k : Nat} (hp : p < 256) (hb : b < 4294967296) (hob : o < 4294967296) (hk : k < 256) {t : Int} (t1 : -32768 ≤ t) (t2 : t ≤ 32767) :
 m11 pu L [.agg ⟨[.int .u8 (Int.ofNat p),.int .u32 (Int.ofNat b)]⟩,.int .u32 (Int.ofNat o),.int .i16 t,.int .u8 (Int.ofNat k)] = some (.bool true):=by
 obtain ⟨l,hg,h46⟩:=pu_stamp 8 (most:=21) (by omega) (by omega) hp hb
 obtain ⟨l2,hg2,h462⟩:=pu_stamp 8 (most:=21) (by omega) (by omega) hp hob
 generalize hn:1 + p % 21 = n at *
 have hn0:=hg.pos
 have hn21:=hg.le
 have hlt:=bitsOf_lt hg.lt
 have m21:∀ l,Good n l→marksN 21 (bitsOf l) = l:=fun l h=>by rw [marks_more h.lt32 (bitsOf_lt h.lt) h.le];exact h.marks
 have h47:∀ l,Good n l→pu 47 [IV (Int.ofNat n),U (bitsOf l)] = some (seaV n l):=fun l h=>by
  have:=pu_sealed 8 n (bitsOf l)
  rw [m21 l h] at this;rw [hpu 47 rfl];exact this
 have h48:pu 48 [U (bitsOf l)] = some (slv l):=by
  rw [hpu 48 rfl,show (10:Nat) = 9 + 1 from rfl,pu_marks48,m21 l hg]
 have h50:∀ l,Good n l→pu 50 [U (bitsOf l)] = some (IV (Int.ofNat l.length)):=fun l h=>by
  have:=pu_ones 9 h.lt32
  rw [marks_more h.lt32 (bitsOf_lt h.lt) (by omega),h.marks] at this;rw [hpu 50 rfl];exact this
 have h15:∀ l,Good n l→pu 15 [seaV n l] = some (gapsV n l):=fun l h=>by rw [hpu 15 rfl];exact pu_gaps 7 0 h
 have h23:∀ a b:List Nat,a.length < 900000→pu 10230 [slv a,slv b] = some (.tuple ⟨[.bool (decide (a = b))]⟩):=fun a b ha=>by rw [hpu 10230 rfl];exact pu_same2N 9 ha
 have h49:∀ d,d < n→pu 49 [IV (Int.ofNat n),U (bitsOf l),IV 1,IV (Int.ofNat d)] = some (U (turnN n (bitsOf l) d)):=fun d hd=>by
  have:=pu_turned1 8 hn0 hn21 hlt (b:=Int.ofNat d) (by show (-100000000:Int)≤(d:Int);omega) (by show (d:Int)≤100000000;omega)
  rw [show plc n (Int.ofNat d) = d from by show plc n (d:Int) = d;rw [plc_nat,Nat.mod_eq_of_lt hd]] at this
  rw [hpu 49 rfl];exact this
 have h49m:∀ d,d < n→pu 49 [IV (Int.ofNat n),U (bitsOf l),IV (-1),IV (Int.ofNat d)] = some (U (turnN n (timesN n (bitsOf l) (-1)) d)):=fun d hd=>by
  have:=pu_moved 8 hn0 hn21 hlt (m:=-1) (b:=Int.ofNat d) (by omega) (by omega) (by show (-100000000:Int)≤(d:Int);omega) (by show (d:Int)≤100000000;omega)
  rw [moved_turn hn0 (by omega),show plc n (Int.ofNat d) = d from by show plc n (d:Int) = d;rw [plc_nat,Nat.mod_eq_of_lt hd]] at this
  rw [hpu 49 rfl];exact this
 have hend:∀ l',Good n l'→m11_0 pu L (Int.ofNat n) (Int.ofNat (bitsOf l)) (Int.ofNat (bitsOf l')) = some (.bool true):=fun l' h'=>by
  have h21:pu 21 [seaV n l,seaV n l'] = some (alike2 n l n l'):=by rw [hpu 21 rfl];exact pu_alike21 6 0 0 hg h'
  rw [alike_parts] at h21
  exact alike_core2 pu L (by show 100 < 1000000;omega) h14 hg h' rfl rfl rfl h47 h21 h49 h49m h15 h50 h48 h23
 have hmv:∀ m:Int,-100≤m→m≤100→∃ l',Good n l'∧pu 49 [IV (Int.ofNat n),U (bitsOf l),IV m,IV t] = some (U (bitsOf l')):=fun m a1 a2=>by
  have h1:=pu_moved 8 hn0 hn21 hlt a1 a2 (b:=t) (by omega) (by omega)
  rw [hg.marks] at h1
  obtain ⟨l',g1,g2⟩:=good_set (t:=setOf (fun p=>plc n ((p:Int) * m + t)) l 0) hn0 hn21 (setOf_lt _ (Nat.two_pow_pos n) fun p _=>plc_lt hn0 _) (Nat.le_trans (setOf_few _ (by omega) fun x _=>plc_lt hn0 _) hg.few)
  exact ⟨l',g1,by rw [g2,hpu 49 rfl];exact h1⟩
 obtain ⟨la,ga,ea⟩:=hmv 1 (by omega) (by omega)
 obtain ⟨lb,gb,eb⟩:=hmv (-1) (by omega) (by omega)
 have htw:wrapF .i64 t = t:=wrapI t (by omega) (by omega)
 show m11_ pu L (Int.ofNat p) (Int.ofNat b) (Int.ofNat o) t (Int.ofNat k) = _
 unfold m11_
 rw [htw]
 show oo (pu 46 [.agg ⟨[.int .u8 (Int.ofNat p),.int .u32 (Int.ofNat b)]⟩,IV (Int.ofNat 21)]) none _ = _
 rw [hpu 46 rfl,h46,oo_some]
 show oo (pu 49 [IV (Int.ofNat n),U (bitsOf l),IV 1,IV t]) none _ = _
 rw [ea,oo_some]
 show bb (ieq (Int.tmod (Int.ofNat k) (4:Int)) (0:Int)) (oo (pu 49 [IV (Int.ofNat n),U (bitsOf l),IV (-1),IV t]) none fun v=>oo (toI .u32 v) none fun x=>m11_0 pu L (Int.ofNat n) (Int.ofNat (bitsOf l)) x) (bb (ieq (Int.tmod (Int.ofNat k) (4:Int)) (1:Int)) _ (m11_0 pu L (Int.ofNat n) (Int.ofNat (bitsOf l)) (Int.ofNat (bitsOf la)))) = _
 cases ieq (Int.tmod (Int.ofNat k) (4:Int)) (0:Int) with
 | true =>
  rw [bb_true,eb,oo_some];exact hend lb gb
 | false =>
  rw [bb_false]
  cases ieq (Int.tmod (Int.ofNat k) (4:Int)) (1:Int) with
  | true =>
   rw [bb_true]
   show oo (puN 10 46 [.agg ⟨[.int .u8 (Int.ofNat p),.int .u32 (Int.ofNat o)]⟩,IV (Int.ofNat 21)]) none _ = _
   rw [h462,oo_some]
   exact hend l2 hg2
  | false=>rw [bb_false];exact hend la ga
end Go.RgP
