/- RingOnce's law. -/
import Derived.Test.YtenlanbdolnhhaaRgGLG2x

set_option maxRecDepth 100000
set_option maxHeartbeats 4000000
namespace Go.RgP
open Go Go.Sp Go.RgGM
theorem sq_word {k:Nat} (hk:k≤6):wrapF .i64 (Int.add (wrapF .i64 (Int.mul (Int.ofNat k) (wrapF .i64 (Int.sub (Int.ofNat k) (1:Int))))) (1:Int)) = Int.ofNat (k * (k - 1) + 1):=by
 match k,hk with
 | 0,_=>rfl
 | 1,_=>rfl
 | 2,_=>rfl
 | 3,_=>rfl
 | 4,_=>rfl
 | 5,_=>rfl
 | 6,_=>rfl
theorem once_end (pu : PureF) (L : Nat) (h14 : pu 14 [] = some (.bool true)) {m c : Nat} (hc : c ≤ 6) (h23 : ∀ a : List Nat, a.length < 900000 → pu 23 [slv a, slv a] = some (.bool true)) :
 oo (tabF m c) (m7_2 pu L (Int.ofNat c) (Int.ofNat m) 12 (stSl (tabF m c)) (stFlag (tabF m c)) 0 ⟨0,2,[]⟩) (fun l=>m7_2 pu L (Int.ofNat c) (Int.ofNat m) 0 (stSl (tabF m c)) (stFlag (tabF m c)) (Int.ofNat m) ⟨l.length,0,vL l⟩) = some (.bool true):=by
 have hs:=sq_word hc
 cases ht:tabF m c with
 | none =>
  have hq:Nat.beq (c * (c - 1) + 1) m = false:=by
   unfold tabF at ht
   cases h:Nat.beq (c * (c - 1) + 1) m with
   | false=>rfl
   | true =>
    rw [h] at ht
    revert ht
    cases Nat.beq c 0 with
    | true=>intro ht;cases ht
    | false =>
     cases Nat.beq c 1 with
     | true=>intro ht;cases ht
     | false =>
      cases Nat.beq c 2 with
      | true=>intro ht;cases ht
      | false =>
       cases Nat.beq c 3 with
       | true=>intro ht;cases ht
       | false=>intro ht;cases ht
  show m7_2 pu L (Int.ofNat c) (Int.ofNat m) 12 ⟨0,2,[]⟩ false 0 ⟨0,2,[]⟩ = _
  unfold m7_2
  rw [hs,ieq_nat,hq]
  show oo (pu 14 []) none _ = _
  rw [h14];rfl
 | some l =>
  have hq:Nat.beq (c * (c - 1) + 1) m = true:=by
   unfold tabF at ht
   cases h:Nat.beq (c * (c - 1) + 1) m with
   | true=>rfl
   | false=>rw [h] at ht;cases ht
  have hl:l.length < 900000:=by
   unfold tabF at ht
   rw [hq] at ht
   revert ht
   cases Nat.beq c 0 with
   | true=>intro ht;injection ht with ht;subst ht;decide
   | false =>
    cases Nat.beq c 1 with
    | true=>intro ht;injection ht with ht;subst ht;decide
    | false =>
     cases Nat.beq c 2 with
     | true=>intro ht;injection ht with ht;subst ht;decide
     | false =>
      cases Nat.beq c 3 with
      | true=>intro ht;injection ht with ht;subst ht;decide
      | false=>intro ht;injection ht with ht;subst ht;decide
  show m7_2 pu L (Int.ofNat c) (Int.ofNat m) 0 ⟨l.length,0,vL l⟩ true (Int.ofNat m) ⟨l.length,0,vL l⟩ = _
  unfold m7_2
  rw [hs,ieq_nat,hq,ieq_nat,Nat.beq_refl]
  show oo (pu 23 [slv l,slv l]) none _ = _
  rw [h23 l hl,oo_some]
  show oo (pu 14 []) none _ = _
  rw [h14];rfl
theorem tmod_word {a k:Nat} (ha:a < 256) (hk:0 < k):Int.tmod (wrapF .i64 (Int.ofNat a)) (Int.ofNat k) = Int.ofNat (a % k):=by
 rw [wrapI (Int.ofNat a) (by show (-9223372036854775808:Int)≤(a:Int);omega) (by show (a:Int)≤9223372036854775807;omega)]
 show Int.tmod (a:Int) (k:Int) = _
 rw [Int.tmod_eq_emod_of_nonneg (by omega),←Int.natCast_emod];rfl
theorem once_find (pu : PureF) (L : Nat) (hL : 10000 < L) (h14 : pu 14 [] = some (.bool true)) (h35 : ∀ m c : Nat, 0 < m → m ≤ 13 → c ≤ 6 → pu 35 [IV (Int.ofNat m), IV (Int.ofNat c)] = some (findL m c)) {k p : Nat} (hk : k < 256) (hp : p < 256) (b : Int)
 (h50:∀ m x,0 < m→m≤13→x < 2 ^ m→pu 50 [U x] = some (IV (Int.ofNat (marksN m x).length))) (h51:∀ m x,0 < m→m≤13→x < 2 ^ m→pu 51 [IV (Int.ofNat m),U x] = some (slv (dists m (marksN m x))))
 (h48:∀ m x,0 < m→m≤13→x < 2 ^ m→pu 48 [U x] = some (slv (marksN m x))) (h52:∀ a b:List Nat,a.length < 900000→pu 52 [slv a,slv b] = some (IV (cmpN a b))) (h23:∀ a:List Nat,a.length < 900000→pu 23 [slv a,slv a] = some (.bool true)) :
 m7_1 pu L (Int.ofNat k) false (Int.ofNat p) b = some (.bool true):=by
 have hc:k % 7≤6:=by have:=Nat.mod_lt k (show 7 > 0 by omega);omega
 have hm13:p % 13 < 13:=Nat.mod_lt _ (by omega)
 generalize hcc:k % 7 = c at *
 have e1:Int.tmod (wrapF .i64 (Int.ofNat k)) (7:Int) = Int.ofNat c:=by rw [←hcc];exact tmod_word (k:=7) hk (by omega)
 have e2:wrapF .i64 (Int.add (1:Int) (Int.tmod (wrapF .i64 (Int.ofNat p)) (13:Int))) = Int.ofNat (1 + p % 13):=by
  rw [show Int.tmod (wrapF .i64 (Int.ofNat p)) (13:Int) = Int.ofNat (p % 13) from tmod_word (k:=13) hp (by omega)]
  show wrapF .i64 ((1:Int) + ((p % 13:Nat):Int)) = ((1 + p % 13:Nat):Int)
  rw [wrapI _ (by omega) (by omega)];omega
 generalize hmm:1 + p % 13 = m at *
 have hm0:0 < m:=by omega
 have hm:m≤13:=by omega
 have hend:=once_end pu L h14 (m:=m) hc h23
 have hpw:2 ^ m≤8192:=Nat.pow_le_pow_right (by omega:0 < 2) hm
 have hlo:=fun (e zp:Int) (sf:Sl)=>once_loop (c:=c) pu L (by omega) hm e zp sf (fun x=>h50 m x hm0 hm) (fun x=>h51 m x hm0 hm) (fun x=>h48 m x hm0 hm) h52 (2 ^ m) L 0 none (by omega) (by omega)
 rw [pick_all hm0 hm hc] at hlo
 unfold m7_1
 rw [bb_false,e1,e2]
 show oo (pu 35 [IV (Int.ofNat m),IV (Int.ofNat c)]) none _ = _
 rw [h35 m c hm0 hm hc,oo_some]
 unfold findL
 cases ht:tabF m c with
 | none =>
  rw [ht] at hend hlo
  show oo (toN (Int.ofNat m)) none (fun k1874=>l7_5 pu L L (Int.ofNat c) (Int.ofNat m) 12 ⟨0,2,[]⟩ false (shlI .u32 (1:Int) k1874) 0 0 ⟨0,2,[]⟩) = _
  rw [show toN (Int.ofNat m) = some m from rfl,oo_some,shl32 (by omega)]
  exact (hlo 12 0 ⟨0,2,[]⟩).trans hend
 | some l =>
  rw [ht] at hend hlo
  show oo (toN (Int.ofNat m)) none (fun k1874=>l7_5 pu L L (Int.ofNat c) (Int.ofNat m) 0 ⟨0,2,[]⟩ false (shlI .u32 (1:Int) k1874) 0 (Int.ofNat m) ⟨l.length,0,vL l⟩) = _
  rw [show toN (Int.ofNat m) = some m from rfl,oo_some,shl32 (by omega)]
  exact (hlo 0 (Int.ofNat m) ⟨l.length,0,vL l⟩).trans hend
theorem once_law (pu : PureF) (hpu : ∀ g, Nat.beq g 14 = false → Nat.beq g 35 = false → pu g = puN 10 g) (h14 : pu 14 [] = some (.bool true)) (h35 : ∀ m c : Nat, 0 < m → m ≤ 13 → c ≤ 6 → pu 35 [IV (Int.ofNat m), IV (Int.ofNat c)] = some (findL m c)) {p b k : Nat} (hp : p < 256) (hb : b < 4294967296) (hk : k < 256) :
 m7 pu L [.agg ⟨[.int .u8 (Int.ofNat p),.int .u32 (Int.ofNat b)]⟩,.int .u8 (Int.ofNat k)] = some (.bool true):=by
 obtain ⟨l,hg,h46⟩:=pu_stamp 8 (most:=21) (by omega) (by omega) hp hb
 generalize hn:1 + p % 21 = n at *
 have hn0:=hg.pos
 have hn21:=hg.le
 have hlt:=bitsOf_lt hg.lt
 have h32:=hg.lt32
 have hm21:marksN 21 (bitsOf l) = l:=by rw [marks_more h32 hlt hg.le];exact hg.marks
 have h47:pu 47 [IV (Int.ofNat n),U (bitsOf l)] = some (seaV n l):=by
  have:=pu_sealed 8 n (bitsOf l)
  rw [hm21] at this;rw [hpu 47 rfl rfl];exact this
 have h23:∀ a:List Nat,a.length < 900000→pu 23 [slv a,slv a] = some (.bool true):=fun a ha=>by
  have:=pu_sameN 9 (a:=a) (b:=a) ha
  rw [hpu 23 rfl rfl,this,decide_eq_true rfl]
 have h48:∀ m x,m≤21→x < 2 ^ m→pu 48 [U x] = some (slv (marksN m x)):=fun m x hm hx=>by
  rw [hpu 48 rfl rfl,show (10:Nat) = 9 + 1 from rfl,pu_marks48,marks_more (lt32 (by omega) hx) hx hm]
 have h50:∀ m x,m≤21→x < 2 ^ m→pu 50 [U x] = some (IV (Int.ofNat (marksN m x).length)):=fun m x hm hx=>by
  have:=pu_ones 9 (lt32 (by omega) hx)
  rw [marks_more (lt32 (by omega) hx) hx (by omega)] at this;rw [hpu 50 rfl rfl];exact this
 have h51:∀ m x,0 < m→m≤21→x < 2 ^ m→pu 51 [IV (Int.ofNat m),U x] = some (slv (dists m (marksN m x))):=fun m x hm0 hm hx=>by
  rw [hpu 51 rfl rfl];exact pu_apart 7 hm0 hm hx
 have h52:∀ a b:List Nat,a.length < 900000→pu 52 [slv a,slv b] = some (IV (cmpN a b)):=fun a b ha=>by
  rw [hpu 52 rfl rfl];exact pu_compare 7 0 0 ha
 have hplc:∀ d:Nat,d < n→plc n (Int.ofNat d) = d:=fun d hd=>by
  show plc n (d:Int) = d
  rw [plc_nat,Nat.mod_eq_of_lt hd]
 have h33:∀ d:Nat,d < n→pu 10330 [seaV n l,slI 0 [Int.ofNat d]] = some (.tuple ⟨[tup2 (slv (marksN n (bitsOf l &&& turnN n (bitsOf l) d))) (IV 0)]⟩):=fun d hd=>by
  have:=pu_common 7 0 0 hg (ts:=[Int.ofNat d]) (by simp)
  rw [show comN n (bitsOf l) [Int.ofNat d] (bitsOf l) = bitsOf l &&& turnN n (bitsOf l) (plc n (Int.ofNat d)) from rfl,hplc d hd] at this
  rw [hpu 10330 rfl rfl];exact this
 have h49:∀ d:Nat,d < n→pu 49 [IV (Int.ofNat n),U (bitsOf l),IV 1,IV (Int.ofNat d)] = some (U (turnN n (bitsOf l) d)):=fun d hd=>by
  have:=pu_turned1 8 hn0 hn21 hlt (b:=Int.ofNat d) (by show (-100000000:Int)≤(d:Int);omega) (by show (d:Int)≤100000000;omega)
  rw [hplc d hd] at this
  rw [hpu 49 rfl rfl];exact this
 have hloop:=turns_loop pu L hg (Int.ofNat k) (Int.ofNat p) (Int.ofNat b) h47 h33 h49 (fun d _=>h48 n _ hn21 (Nat.lt_of_le_of_lt Nat.and_le_left hlt)) h23 (n - 1) L 1 true (by omega) (by show _ < 1000000;omega) (by omega)
 rw [Bool.true_and,perfD_range] at hloop
 have h1:=once_find pu L (by show 10000 < 1000000;omega) h14 h35 hk hp (Int.ofNat b) (fun m x _ hm=>h50 m x (by omega)) (fun m x h0 hm=>h51 m x h0 (by omega)) (fun m x _ hm=>h48 m x (by omega)) h52 h23
 have h31:pu 31 [seaV n l] = some (tup2 (.bool (perfD n l)) (IV 0)):=by rw [hpu 31 rfl rfl];exact pu_perfect 4 0 hg
 have h50l:pu 50 [U (bitsOf l)] = some (IV (Int.ofNat l.length)):=by
  have:=h50 n _ hn21 hlt
  rw [hg.marks] at this;exact this
 show m7_ pu L (Int.ofNat p) (Int.ofNat b) (Int.ofNat k) = _
 unfold m7_
 show oo (pu 46 [.agg ⟨[.int .u8 (Int.ofNat p),.int .u32 (Int.ofNat b)]⟩,IV (Int.ofNat 21)]) none _ = _
 rw [hpu 46 rfl rfl,h46,oo_some]
 show l7_10 pu L L (Int.ofNat k) (Int.ofNat n) (Int.ofNat (bitsOf l)) true (Int.ofNat 1) (Int.ofNat p) (Int.ofNat b) = _
 rw [hloop]
 unfold m7_0
 show oo (pu 47 [IV (Int.ofNat n),U (bitsOf l)]) none _ = _
 rw [h47,oo_some]
 show oo (pu 31 [seaV n l]) none _ = _
 rw [h31,oo_some]
 show oo (pu 50 [U (bitsOf l)]) none _ = _
 rw [h50l,oo_some]
 cases hq:perfD n l with
 | false=>exact h1
 | true =>
  have hmany:=perf_many hn0 (nodup_of_lt hg.up) hg.lt hq
  show m7_1 pu L (Int.ofNat k) (nt (ieq (wrapF .i64 (Int.add (wrapF .i64 (Int.mul (Int.ofNat l.length) (wrapF .i64 (Int.sub (Int.ofNat l.length) (1:Int))))) (1:Int))) (Int.ofNat n))) (Int.ofNat p) (Int.ofNat b) = _
  rw [sq_word hg.few,hmany,ieq_nat,Nat.beq_refl];exact h1
end Go.RgP
