/- The reference: all seals whose marks begin with some. -/
import Derived.Test.YtenlanbdolnhhaaRgHLU3x

set_option maxRecDepth 100000
set_option maxHeartbeats 4000000
namespace Go.RgP
open Go Go.Sp Go.RgHM
theorem q10840 (k:Nat) (args:List Value):puN (k+1) 10840 args=m10840 (puN k) L args:=by kernel_rfl
noncomputable def sealsV (n:Nat) (q:List (Nat×List Nat)):Value:=.tuple ⟨[Sl.v 2 ⟨q.length,0,qW n q⟩]⟩
theorem ret10840 (pu:PureF) (L n c:Nat) (q:List (Nat×List Nat)):m10840_1 pu L q.length c (qW n q)=some (sealsV n q):=by
 unfold m10840_1
 rw[qW_closed,bb_true,qW_drop,qW_take,qW_closed,len_eq,qW_len,show Nat.ble (0+q.length*2) (q.length*2)=true from Nat.ble_eq_true_of_le (by omega)];rfl
theorem vL_take (l:List Nat):takeL (l.length*1) (vL l)=vL l:=by rw[takeL_eq,Nat.mul_one,←vL_len l,List.take_length]
theorem vL_one (l:List Nat) (p:Nat):appL (dropL 0 (takeL (l.length*1) (vL l))) [.int .i64 (Int.ofNat p)]=vL (l++[p]):=by rw[vL_take,vL_snoc]
theorem z0_app (a b:List (List Nat)):z0 (a++b)=z0 a++z0 b:=by unfold z0;rw[List.map_append]
theorem z0_len (a:List (List Nat)):(z0 a).length=a.length:=by unfold z0;rw[List.length_map]
def Ps (N n m:Nat):Prop:=∀ (r p:Nat) (l:List Nat),Part n p l m→p+r=n→(∃ t x,l=t++[x]∧x+1=p)→puN N 10840 [seaF n 0 l,IV (Int.ofNat m)]=some (sealsV n (z0 (ext r m p l)))
theorem more_ok {N n m w p r c:Nat} {f:Nat} {l:List Nat} {q:List (Nat×List Nat)} {R:Option Value} (hl:l≠[]) (hP:Part n p l (m+1)) (hp:p < n) (hr:p+1+r=n) (ihm:Ps N n m) (hc:Cap c q.length) (hq:q.length+(ext r m (p+1) (l++[p])).length≤1000000000)
 (next:∀ (q':List (Nat×List Nat)) (c':Nat),Cap c' q'.length→q'=q++z0 (ext r m (p+1) (l++[p]))→l10840_2 (puN N) L w (Int.ofNat (m+1)) q'.length c' (Int.ofNat (p+1)) (Int.ofNat n) ⟨l.length,f,vL l⟩ (qW n q')=R) :
 m10840_3 (puN N) L (l10840_2 (puN N) L w) (Int.ofNat (m+1)) q.length c (Int.ofNat p) false (Int.ofNat n) ⟨l.length,f,vL l⟩ (qW n q)=R:=by
 have hn:=hP.good.le
 have hf:=hP.few
 have hS:=hP.snoc hp
 have hlen:Nat.beq l.length 0=false:=by cases l with | nil=>exact absurd rfl hl | cons a b=>rfl
 have e1:(l++[p]).length=l.length+1:=by simp
 have hcall:puN N 10840 [.agg ⟨[.int .i64 (Int.ofNat n),Sl.v 1 ⟨0+l.length+1,0,vL (l++[p])⟩]⟩,.int .i64 (Int.ofNat m)]=some (sealsV n (z0 (ext r m (p+1) (l++[p])))):=by
  have:=ihm r (p+1) (l++[p]) hS hr ⟨l,p,rfl,rfl⟩
  unfold seaF at this
  rw[e1] at this
  rw[Nat.zero_add]
  exact this
 have g1:roomy (0+l.length) 8=true:=by unfold roomy;exact Nat.ble_eq_true_of_le (by omega)
 have g2:growC 1 8 (0+l.length) (2*(0+l.length)+bb false 1 0) 1 (takeL (l.length*1) (vL l))=true:=by
  rw[vL_take,Nat.zero_add]
  exact grow_vL (by omega) (cap_new _).1 (cap_new _).2
 have g3:an (Nat.ble (0+(0+l.length+1)*1) (len (vL (l++[p])))) (allL closed1 (takeL ((0+l.length+1)*1) (dropL 0 (vL (l++[p])))))=true:=by
  rw[dropL_eq,List.drop_zero,len_eq,vL_len,e1,Nat.zero_add,Nat.zero_add,show Nat.ble ((l.length+1)*1) (l.length+1)=true from Nat.ble_eq_true_of_le (by omega),←e1,vL_take,vL_closed];rfl
 have g4:takeL ((0+l.length+1)*1) (dropL 0 (vL (l++[p])))=vL (l++[p]):=by
  rw[dropL_eq,List.drop_zero,Nat.zero_add,←e1,vL_take]
 unfold m10840_3
 rw[bb_false,qW_closed,bb_true]
 show bb (Nat.beq l.length 0) _ _=_
 rw[hlen,bb_false]
 show bb (roomy (0+l.length) 8) (bb (growC 1 8 (0+l.length) (2*(0+l.length)+bb false 1 0) 1 (takeL (l.length*1) (vL l))) _ none) none=_
 rw[g1,bb_true,g2,bb_true]
 show bb (an (Nat.ble (0+(0+l.length+1)*1) (len (appL (dropL 0 (takeL (l.length*1) (vL l))) [.int .i64 (Int.ofNat p)]))) (allL closed1 (takeL ((0+l.length+1)*1) (dropL 0 (appL (dropL 0 (takeL (l.length*1) (vL l))) [.int .i64 (Int.ofNat p)]))))) (oo (puN N 10840 [.agg ⟨[.int .i64 (Int.ofNat n),Sl.v 1 ⟨0+l.length+1,0,takeL ((0+l.length+1)*1) (dropL 0 (appL (dropL 0 (takeL (l.length*1) (vL l))) [.int .i64 (Int.ofNat p)]))⟩]⟩,.int .i64 (wrapF .i64 (Int.sub (Int.ofNat (m+1)) (1:Int)))]) none _) none=_
 rw[vL_one,g3,bb_true,g4,subW (by omega),hcall,oo_some]
 unfold sealsV
 rw[z0_len]
 show bb (Nat.beq (ext r m (p+1) (l++[p])).length 0) (l10840_2 (puN N) L w (Int.ofNat (m+1)) q.length c (wrapF .i64 (Int.add (Int.ofNat p) (1:Int))) (Int.ofNat n) ⟨l.length,f,vL l⟩ (qW n q)) (bb (an (allL scalarB (takeL ((ext r m (p+1) (l++[p])).length*2) (qW n (z0 (ext r m (p+1) (l++[p])))))) (growC 2 32 q.length c (ext r m (p+1) (l++[p])).length (qW n q))) (bb (allL closed1 (appL (dropL 0 (qW n q)) (takeL ((ext r m (p+1) (l++[p])).length*2) (qW n (z0 (ext r m (p+1) (l++[p]))))))) (l10840_2 (puN N) L w (Int.ofNat (m+1)) (q.length+(ext r m (p+1) (l++[p])).length) (2*(q.length+(ext r m (p+1) (l++[p])).length)+bb false 1 0) (wrapF .i64 (Int.add (Int.ofNat p) (1:Int))) (Int.ofNat n) ⟨l.length,f,vL l⟩ (appL (dropL 0 (qW n q)) (takeL ((ext r m (p+1) (l++[p])).length*2) (qW n (z0 (ext r m (p+1) (l++[p]))))))) none) none)=_
 have e2:takeL ((ext r m (p+1) (l++[p])).length*2) (qW n (z0 (ext r m (p+1) (l++[p]))))=qW n (z0 (ext r m (p+1) (l++[p]))):=by rw[←z0_len,qW_take]
 rw[e2,qW_scal,qW_drop,appL_eq,←qW_app,qW_closed,wrapS p (by omega)]
 cases hz:Nat.beq (ext r m (p+1) (l++[p])).length 0 with
 | true =>
  have hz:=Nat.eq_of_beq_eq_true hz
  have hz:ext r m (p+1) (l++[p])=[]:=List.eq_nil_of_length_eq_zero hz
  rw[bb_true]
  exact next q c hc (by rw[hz];simp[z0])
 | false =>
  have hz:(ext r m (p+1) (l++[p])).length≠0:=fun e=>by rw[e] at hz;cases hz
  have e3:(q++z0 (ext r m (p+1) (l++[p]))).length=q.length+(ext r m (p+1) (l++[p])).length:=by rw[List.length_append,z0_len]
  rw[bb_false,grow_qW (by omega) hq hc]
  show l10840_2 (puN N) L w (Int.ofNat (m+1)) (q.length+(ext r m (p+1) (l++[p])).length) (2*(q.length+(ext r m (p+1) (l++[p])).length)+bb false 1 0) (Int.ofNat (p+1)) (Int.ofNat n) ⟨l.length,f,vL l⟩ (qW n (q++z0 (ext r m (p+1) (l++[p]))))=_
  rw[←e3]
  exact next _ _ (cap_new _) rfl
theorem seals_loop (N m f:Nat) {n:Nat} (ihm:Ps N n m):∀ (r w p:Nat) (l:List Nat) (q:List (Nat×List Nat)) (c:Nat),r < w→p+r=n→Part n p l (m+1)→l≠[]→Cap c q.length→q.length+(ext r (m+1) p l).length≤1000000000 →
 l10840_2 (puN N) L w (Int.ofNat (m+1)) q.length c (Int.ofNat p) (Int.ofNat n) ⟨l.length,f,vL l⟩ (qW n q)=some (sealsV n (q++z0 (ext r (m+1) p l))):=by
 intro r
 induction r with
 | zero =>
  intro w p l q c hw hr hP hl hc _
  obtain⟨w,rfl⟩:∃ v,w=v+1:=⟨w - 1,by omega⟩
  have hn:=hP.good.le
  have hf:=hP.few
  have hb:l10840_2 (puN N) L (w+1) (Int.ofNat (m+1)) q.length c (Int.ofNat p) (Int.ofNat n) ⟨l.length,f,vL l⟩ (qW n q)=b10840_2 (puN N) L (l10840_2 (puN N) L w) (Int.ofNat (m+1)) q.length c (Int.ofNat p) (Int.ofNat n) ⟨l.length,f,vL l⟩ (qW n q):=rfl
  rw[hb]
  unfold b10840_2
  rw[qW_closed,bb_true,addW (by omega),ilt_nat,show Nat.blt n (p+(m+1))=true from by rw[blt_eq];simp;omega,show nt true=false from rfl,bb_false,ret10840]
  show _=some (sealsV n (q++[]))
  rw[List.append_nil]
 | succ r ih =>
  intro w p l q c hw hr hP hl hc hq
  obtain⟨w,rfl⟩:∃ v,w=v+1:=⟨w - 1,by omega⟩
  have hn:=hP.good.le
  have hf:=hP.few
  have hb:l10840_2 (puN N) L (w+1) (Int.ofNat (m+1)) q.length c (Int.ofNat p) (Int.ofNat n) ⟨l.length,f,vL l⟩ (qW n q)=b10840_2 (puN N) L (l10840_2 (puN N) L w) (Int.ofNat (m+1)) q.length c (Int.ofNat p) (Int.ofNat n) ⟨l.length,f,vL l⟩ (qW n q):=rfl
  rw[hb]
  unfold b10840_2
  rw[qW_closed,bb_true,addW (by omega),ilt_nat]
  by_cases hs:r+1 < m+1
  ·rw[show Nat.blt n (p+(m+1))=true from by rw[blt_eq];simp;omega,show nt true=false from rfl,bb_false,ext_short hs,ret10840]
   show _=some (sealsV n (q++[]))
   rw[List.append_nil]
  ·have go:ext (r+1) (m+1) p l=ext r m (p+1) (l++[p])++ext r (m+1) (p+1) l:=rfl
   rw[go,List.length_append] at hq
   rw[show Nat.blt n (p+(m+1))=false from by rw[blt_eq];simp;omega,show nt false=true from rfl,bb_true,go,z0_app,←List.append_assoc]
   have hlen:ieq (Int.ofNat (Sl.n ⟨l.length,f,vL l⟩)) (0:Int)=false:=by cases l with | nil=>exact absurd rfl hl | cons a b=>rfl
   rw[hlen,bb_false]
   refine more_ok (r:=r) hl hP (by omega) (by omega) ihm hc (by omega) fun q' c' hc' e=>?_
   rw[←e]
   exact ih w (p+1) l q' c' (by omega) (by omega) hP.skip hl hc' (by rw[e,List.length_append,z0_len];omega)
theorem cho_big {n p r m:Nat} {l:List Nat} (hP:Part n p l m) (hr:p+r=n):(ext r m p l).length≤60000:=by
 have hn:=hP.good.le
 have hf:=hP.few
 rw[ext_len];exact cho_le m r (by omega) (by omega)
theorem seals_ok (k:Nat) {n:Nat}:∀ m:Nat,Ps (k+m+1) n m:=by
 intro m
 induction m with
 | zero =>
  intro r p l hP hr hx
  rw[q10840,ext_zero];rfl
 | succ m ih =>
  intro r p l hP hr hx
  have hn:=hP.good.le
  have hf:=hP.few
  have hbig:=cho_big hP hr
  obtain⟨t,x,rfl,hxp⟩:=hx
  have hne:t++[x]≠[]:=by simp
  have hl:(t++[x]).length=t.length+1:=by simp
  rw[show k+(m+1)+1=k+m+1+1 by omega,q10840]
  show m10840_ (puN (k+m+1)) L (Int.ofNat n) ⟨(t++[x]).length,0,vL (t++[x])⟩ (Int.ofNat (m+1))=_
  unfold m10840_
  rw[show ieq (Int.ofNat (m+1)) (0:Int)=false from rfl,bb_false]
  show bb (ilt (Int.ofNat 0) (Int.ofNat (t++[x]).length)) (oo (toN (wrapF .i64 (Int.sub (Int.ofNat (t++[x]).length) (1:Int)))) none fun k3951=>(bb (an (Nat.blt k3951 (t++[x]).length) true) (oo (nthL (vL (t++[x])) (k3951*1)) none fun v3954=>(oo (toI .i64 v3954) none fun x3956=>(m10840_0 (puN (k+m+1)) L (Int.ofNat (m+1)) (wrapF .i64 (Int.add x3956 (1:Int))) (Int.ofNat n) ⟨(t++[x]).length,0,vL (t++[x])⟩))) none)) _=_
  have hd:(t++[x]).drop t.length=[x]:=by simp
  have hx':=hP.low x (by simp)
  rw[ilt_nat,show Nat.blt 0 (t++[x]).length=true from by rw[blt_eq,hl];simp,bb_true]
  rw[show wrapF .i64 (Int.sub (Int.ofNat (t++[x]).length) (1:Int))=Int.ofNat t.length from by rw[hl];exact subW (by omega),toN_mk,oo_some,show Nat.blt t.length (t++[x]).length=true from by rw[blt_eq,hl];simp,show an true true=true from rfl,bb_true,vL_get hd,oo_some,show ∀ z,toI .i64 (IV z)=some z from fun _=>rfl,oo_some,wrapS x (by omega),hxp]
  unfold m10840_0
  have:=seals_loop (k+m+1) m 0 ih r L p (t++[x]) [] 0 (by show r < 1000000;omega) hr hP hne ⟨rfl,rfl⟩ (by simp;omega)
  exact this
def refW (n:Nat):Nat→List (Nat×List Nat)
 | 0=>[(2,[])]
 | m+1=>z0 (ext (n - 1) m 1 [0])
theorem pu_seals (k:Nat) {n m:Nat} (h0:0 < n) (hn:n≤21) (hm:m≤6) (hmn:m≤n):puN (k+m+1) 10840 [.agg ⟨[IV (Int.ofNat n),Sl.v 1 (Sl.mk 0 2 [])]⟩,IV (Int.ofNat m)]=some (sealsV n (refW n m)):=by
 cases m with
 | zero=>rw[q10840];rfl
 | succ m =>
  have hP:Part n 0 [] (m+1):=part_nil h0 hn hm
  have hS:Part n 1 [0] m:=hP.snoc h0
  have hbig:=cho_big hS (r:=n - 1) (by omega)
  have hcall:puN (k+m+1) 10840 [.agg ⟨[.int .i64 (Int.ofNat n),Sl.v 1 (Sl.mk 1 0 (takeL (1*1) (dropL 0 ([.int .i64 (Int.ofNat 0)]:List Value))))]⟩,.int .i64 (Int.ofNat m)]=some (sealsV n (z0 (ext (n - 1) m 1 [0]))):=seals_ok k m (n - 1) 1 [0] hS (by omega) ⟨[],0,rfl,rfl⟩
  rw[show k+(m+1)+1=k+m+1+1 by omega,q10840]
  show m10840_ (puN (k+m+1)) L (Int.ofNat n) ⟨0,2,[]⟩ (Int.ofNat (m+1))=_
  unfold m10840_
  rw[show ieq (Int.ofNat (m+1)) (0:Int)=false from rfl,bb_false]
  show m10840_0 (puN (k+m+1)) L (Int.ofNat (m+1)) (0:Int) (Int.ofNat n) ⟨0,2,[]⟩=_
  unfold m10840_0
  -- what stands behind the first place
  have stop:∀ (w c:Nat) (q:List (Nat×List Nat)),l10840_2 (puN (k+m+1)) L (w+1) (Int.ofNat (m+1)) q.length c (Int.ofNat 1) (Int.ofNat n) ⟨0,2,[]⟩ (qW n q)=some (sealsV n q):=by
   intro w c q
   have hb:l10840_2 (puN (k+m+1)) L (w+1) (Int.ofNat (m+1)) q.length c (Int.ofNat 1) (Int.ofNat n) ⟨0,2,[]⟩ (qW n q)=b10840_2 (puN (k+m+1)) L (l10840_2 (puN (k+m+1)) L w) (Int.ofNat (m+1)) q.length c (Int.ofNat 1) (Int.ofNat n) ⟨0,2,[]⟩ (qW n q):=rfl
   rw[hb]
   unfold b10840_2
   rw[qW_closed,bb_true,show ieq (Int.ofNat (Sl.n ⟨0,2,[]⟩)) (0:Int)=true from rfl,bb_true,show ilt (0:Int) (Int.ofNat 1)=true from rfl]
   unfold m10840_3
   rw[bb_true,qW_closed,bb_true,ret10840]
   cases nt (ilt (Int.ofNat n) (wrapF .i64 (Int.add (Int.ofNat 1) (Int.ofNat (m+1))))) <;> rfl
  have hb:l10840_2 (puN (k+m+1)) L L (Int.ofNat (m+1)) 0 0 (0:Int) (Int.ofNat n) ⟨0,2,[]⟩ ([]:List Value)=b10840_2 (puN (k+m+1)) L (l10840_2 (puN (k+m+1)) L 999999) (Int.ofNat (m+1)) 0 0 (Int.ofNat 0) (Int.ofNat n) ⟨0,2,[]⟩ (qW n []):=rfl
  rw[hb]
  unfold b10840_2
  rw[qW_closed,bb_true,addW (by omega),ilt_nat,show Nat.blt n (0+(m+1))=false from by rw[blt_eq];simp;omega,show nt false=true from rfl,bb_true,show ieq (Int.ofNat (Sl.n ⟨0,2,[]⟩)) (0:Int)=true from rfl,bb_true,show ilt (0:Int) (Int.ofNat 0)=false from rfl]
  unfold m10840_3
  rw[bb_false,qW_closed,bb_true,show Nat.beq (Sl.n ⟨0,2,[]⟩) 0=true from rfl,bb_true,subW (by omega),hcall,oo_some]
  unfold sealsV
  rw[z0_len]
  show bb (Nat.beq (ext (n - 1) m 1 [0]).length 0) (l10840_2 (puN (k+m+1)) L 999999 (Int.ofNat (m+1)) 0 0 (Int.ofNat 1) (Int.ofNat n) ⟨0,2,[]⟩ (qW n [])) (bb (an (allL scalarB (takeL ((ext (n - 1) m 1 [0]).length*2) (qW n (z0 (ext (n - 1) m 1 [0]))))) (growC 2 32 0 0 (ext (n - 1) m 1 [0]).length (qW n []))) (bb (allL closed1 (appL (dropL 0 (qW n [])) (takeL ((ext (n - 1) m 1 [0]).length*2) (qW n (z0 (ext (n - 1) m 1 [0])))))) (l10840_2 (puN (k+m+1)) L 999999 (Int.ofNat (m+1)) (0+(ext (n - 1) m 1 [0]).length) (2*(0+(ext (n - 1) m 1 [0]).length)+bb false 1 0) (Int.ofNat 1) (Int.ofNat n) ⟨0,2,[]⟩ (appL (dropL 0 (qW n [])) (takeL ((ext (n - 1) m 1 [0]).length*2) (qW n (z0 (ext (n - 1) m 1 [0])))))) none) none)=_
  have e2:takeL ((ext (n - 1) m 1 [0]).length*2) (qW n (z0 (ext (n - 1) m 1 [0])))=qW n (z0 (ext (n - 1) m 1 [0])):=by rw[←z0_len,qW_take]
  rw[e2,qW_scal,qW_drop,appL_eq,←qW_app,List.nil_append,qW_closed]
  have hst:=stop 999998
  cases hz:Nat.beq (ext (n - 1) m 1 [0]).length 0 with
  | true =>
   have hz:ext (n - 1) m 1 [0]=[]:=List.eq_nil_of_length_eq_zero (Nat.eq_of_beq_eq_true hz)
   rw[bb_true]
   have:=hst 0 []
   show _=some (sealsV n (z0 (ext (n - 1) m 1 [0])))
   rw[hz]
   exact this
  | false =>
   have hz:(ext (n - 1) m 1 [0]).length≠0:=fun e=>by rw[e] at hz;cases hz
   rw[bb_false,show growC 2 32 0 0 (ext (n - 1) m 1 [0]).length (qW n [])=true from grow_qW (q:=[]) (by omega) (by simp;omega) ⟨rfl,rfl⟩,Nat.zero_add]
   have:=hst (2*(ext (n - 1) m 1 [0]).length+bb false 1 0) (z0 (ext (n - 1) m 1 [0]))
   rw[z0_len] at this
   exact this
end Go.RgP
set_option maxRecDepth 100000
set_option maxHeartbeats 4000000
namespace Go.RgP
open Go Go.Sp Go.RgHM
theorem p64 (k:Nat) (args:List Value):puN (k+1) 64 args=m64 (puN k) L args:=by kernel_rfl
theorem pu_rest (k:Nat) {n:Nat} (hn0:0 < n) (hn:n≤60) (x:Int):puN (k+1) 64 [IV x,IV (Int.ofNat n)]=some (IV (Int.ofNat (plc n x))):=by
 rw[p64]
 show m64_ (puN k) L x (Int.ofNat n)=_
 unfold m64_ m64_0
 have hp:(0:Int) < (n:Int):=by omega
 have e:ieq (Int.ofNat n) 0=false:=by rw[show (0:Int)=Int.ofNat 0 from rfl,ieq_nat];exact beq_ne (by omega)
 have g1:=Int.tmod_lt_of_pos x hp
 have g2:-(n:Int) < Int.tmod x n:=by
  have:=Int.lt_tmod_of_pos x hp;omega
 have hpl:=plc_cast hn0 x
 have h3:Int.tmod x (n:Int)+(n:Int)=x+(n:Int)*(1 - Int.tdiv x n):=by
  have:=Int.mul_tdiv_add_tmod x (n:Int)
  rw[Int.mul_sub];omega
 rw[e,show nt false=true from rfl,bb_true,ilt_eq]
 show bb (decide (Int.tmod x (n:Int) < 0)) (some (IV (wrapF .i64 (Int.tmod x (n:Int)+(n:Int))))) (some (IV (Int.tmod x (n:Int))))=some (IV ((plc n x:Nat):Int))
 by_cases h:Int.tmod x (n:Int) < 0
 ·rw[decide_eq_true h,bb_true,wrapI _ (by omega) (by omega),hpl]
  have:(Int.tmod x (n:Int)+(n:Int)) % (n:Int)=x % (n:Int):=by rw[h3,Int.add_mul_emod_self_left]
  rw[←this,Int.emod_eq_of_lt (by omega) (by omega)]
 ·rw[decide_eq_false h,bb_false,hpl]
  have h4:Int.tmod x (n:Int)=x+(n:Int)*(- Int.tdiv x n):=by
   have:=Int.mul_tdiv_add_tmod x (n:Int)
   rw[Int.mul_neg];omega
  have:(Int.tmod x (n:Int)) % (n:Int)=x % (n:Int):=by rw[h4,Int.add_mul_emod_self_left]
  rw[←this,Int.emod_eq_of_lt (by omega) (by omega)]
theorem marked_loop (pu:PureF) (L:Nat) {l:List Nat} (hl:l.length < 900000) (f p:Nat) (z:Int):∀ (r:List Nat) (w i:Nat),l.drop i=r→r.length < w→i≤l.length →
 l63_1 pu L w (Int.ofNat p) (Int.ofNat i) z ⟨l.length,f,vL l⟩=some (.bool (decide (p∈r)))
 | _,0,_,_,h,_=>by omega
 | [], w + 1, i, hd, _, hi => by
  show b63_1 pu L (l63_1 pu L w) (Int.ofNat p) (Int.ofNat i) z ⟨l.length,f,vL l⟩=_
  have h1:l.length≤i:=List.drop_eq_nil_iff.1 hd
  unfold b63_1
  show bb (ilt (Int.ofNat i) (Int.ofNat l.length)) _ _=_
  rw[ilt_nat,show Nat.blt i l.length=false from by rw[blt_eq];simp;omega];rfl
 | x :: r, w + 1, i, hd, hw, hi => by
  show b63_1 pu L (l63_1 pu L w) (Int.ofNat p) (Int.ofNat i) z ⟨l.length,f,vL l⟩=_
  obtain⟨hd2,hi2,_⟩:=drop_next hd
  have hr:(x::r).length=r.length+1:=rfl
  have hlt:Nat.blt i l.length=true:=by rw[blt_eq];simp;omega
  have ih:=marked_loop pu L hl f p z r w (i+1) hd2 (by omega) (by omega)
  unfold b63_1
  show bb (ilt (Int.ofNat i) (Int.ofNat l.length)) (oo (toN (Int.ofNat i)) none _) _=_
  rw[ilt_nat,hlt,bb_true,show toN (Int.ofNat i)=some i from rfl,oo_some]
  show bb (an (Nat.blt i l.length) true) (oo (nthL (vL l) (i*1)) none _) none=_
  rw[hlt,show an true true=true from rfl,bb_true,vL_get hd,oo_some,show ∀ z,toI .i64 (IV z)=some z from fun _=>rfl,oo_some,wrapS i (by omega),ih,ieq_nat,beq_dec]
  by_cases h:x=p
  ·subst h;simp
  ·have:¬ p=x:=fun e=>h e.symm
   simp[h,this]
theorem p63 (k:Nat) (args:List Value):puN (k+1) 63 args=m63 (puN k) L args:=by kernel_rfl
theorem pu_marked (k n f p:Nat) {l:List Nat} (hl:l.length < 900000):puN (k+1) 63 [seaF n f l,IV (Int.ofNat p)]=some (.bool (decide (p∈l))):=by
 rw[p63]
 exact marked_loop (puN k) L hl f p (Int.ofNat n) l L 0 List.drop_zero (by show _ < 1000000;omega) (by omega)
theorem p73 (k:Nat) (args:List Value):puN (k+1) 73 args=m73 (puN k) L args:=by kernel_rfl
theorem pu_is (k:Nat) (x a b:Int):puN (k+1) 73 [IV x,IV a,IV b]=some (.bool (decide (a≤x∧x≤b))):=by
 rw[p73]
 show bb (nt (ilt x a)) (some (Value.bool (nt (ilt b x)))) (some (Value.bool false))=_
 rw[ilt_eq,ilt_eq]
 by_cases h1:x < a
 ·rw[decide_eq_true h1,decide_eq_false (show ¬ (a≤x∧x≤b) by omega)];rfl
 ·rw[decide_eq_false h1]
  by_cases h2:b < x
  ·rw[decide_eq_true h2,decide_eq_false (show ¬ (a≤x∧x≤b) by omega)];rfl
  ·rw[decide_eq_false h2,decide_eq_true (show a≤x∧x≤b by omega)];rfl
end Go.RgP
set_option maxRecDepth 100000
set_option maxHeartbeats 4000000
namespace Go.RgP
open Go Go.Sp Go.RgHM
structure Fine (n:Nat) (l:List Nat):Prop where
 pos:0 < n
 le:n≤21
 few:l.length≤10
 lt:∀ x∈l,x < n
theorem Good.fine {n:Nat} {l:List Nat} (h:Good n l):Fine n l:=⟨h.pos,h.le,Nat.le_trans h.few (by omega),h.lt⟩
theorem ret75 (pu:PureF) (L:Nat) (q:List Nat) (c:Nat):m75_0 pu L q.length c (vL q)=some (slv q):=by
 unfold m75_0
 rw[vL_closed,bb_true,fin_vL]
theorem count_loop (k:Nat) {n:Nat} {l:List Nat} (h:Fine n l) (f:Nat) (ih0:Nat→Nat→Int→Int→Sl→List Value→Option Value) (d c:Nat) (q:List Nat) (hd0:0 < d) (hdn:d < n) (hq:q.length≤30) (hc:c / 2=q.length) (hc2:c % 2=0) :
 ∀ (r:List Nat) (w i z:Nat),l.drop i=r→r.length < w→i≤l.length→z≤i →
 l75_4 (puN (k + 1)) L ih0 w q.length c (Int.ofNat d) (Int.ofNat z) (Int.ofNat i) (Int.ofNat n) ⟨l.length, f, vL l⟩ (vL q) =
  ih0 (q.length+1) (2*(q.length+1)+bb false 1 0) (Int.ofNat (d+1)) (Int.ofNat n) ⟨l.length,f,vL l⟩ (vL (q++[z+r.countP fun a=>decide ((a+d) % n∈l)]))
 | _,0,_,_,_,hw,_,_=>by omega
 | [], w + 1, i, z, hd, _, hi, hz => by
  show b75_4 (puN (k+1)) L ih0 (l75_4 (puN (k+1)) L ih0 w) q.length c (Int.ofNat d) (Int.ofNat z) (Int.ofNat i) (Int.ofNat n) ⟨l.length,f,vL l⟩ (vL q)=_
  have h1:l.length≤i:=List.drop_eq_nil_iff.1 hd
  have hn:=h.le
  unfold b75_4
  rw[vL_closed,bb_true]
  show bb (ilt (Int.ofNat i) (Int.ofNat l.length)) _ _=_
  rw[ilt_nat,show Nat.blt i l.length=false from by rw[blt_eq];simp;omega,bb_false]
  unfold m75_3 m75_2
  rw[grow_vL (by omega) hc hc2,bb_true,vL_snoc,vL_closed,bb_true,bb_true,wrapS d (by omega)];rfl
 | x :: r, w + 1, i, z, hd, hw, hi, hz => by
  show b75_4 (puN (k+1)) L ih0 (l75_4 (puN (k+1)) L ih0 w) q.length c (Int.ofNat d) (Int.ofNat z) (Int.ofNat i) (Int.ofNat n) ⟨l.length,f,vL l⟩ (vL q)=_
  obtain⟨hd2,hi2,hx⟩:=drop_next hd
  have hr:(x::r).length=r.length+1:=rfl
  have hlt:Nat.blt i l.length=true:=by rw[blt_eq];simp;omega
  have hn:=h.le
  have hfew:=h.few
  have hxn:=h.lt x hx
  have go:=fun z' hz'=>count_loop k h f ih0 d c q hd0 hdn hq hc hc2 r w (i+1) z' hd2 (by omega) (by omega) hz'
  have e1:wrapF .i64 (Int.add (Int.ofNat x) (Int.ofNat d))=((x+d:Nat):Int):=by
   show wrapF .i64 ((x:Int)+(d:Int))=_
   rw[wrapI _ (by omega) (by omega)];omega
  have e2:plc n ((x+d:Nat):Int)=(x+d) % n:=plc_nat _
  unfold b75_4
  rw[vL_closed,bb_true]
  show bb (ilt (Int.ofNat i) (Int.ofNat l.length)) (oo (toN (Int.ofNat i)) none _) _=_
  rw[ilt_nat,hlt,bb_true,show toN (Int.ofNat i)=some i from rfl,oo_some]
  show bb (an (Nat.blt i l.length) true) (oo (nthL (vL l) (i*1)) none _) none=_
  rw[hlt,show an true true=true from rfl,bb_true,vL_get hd,oo_some,show ∀ z,toI .i64 (IV z)=some z from fun _=>rfl,oo_some,e1]
  show oo (puN (k+1) 64 [IV ((x+d:Nat):Int),IV (Int.ofNat n)]) none _=_
  rw[pu_rest k h.pos (by omega),e2,oo_some]
  show oo (puN (k+1) 63 [seaF n f l,IV (Int.ofNat ((x+d) % n))]) none _=_
  rw[pu_marked k n f _ (by omega),oo_some]
  show bb (decide ((x+d) % n∈l)) (m75_5 (puN (k+1)) L ih0 (l75_4 (puN (k+1)) L ih0 w) q.length c (Int.ofNat d) (wrapF .i64 (Int.add (Int.ofNat z) (1:Int))) (Int.ofNat i) (Int.ofNat n) ⟨l.length,f,vL l⟩ (vL q)) (m75_5 (puN (k+1)) L ih0 (l75_4 (puN (k+1)) L ih0 w) q.length c (Int.ofNat d) (Int.ofNat z) (Int.ofNat i) (Int.ofNat n) ⟨l.length,f,vL l⟩ (vL q))=_
  unfold m75_5
  rw[vL_closed,bb_true,wrapS i (by omega),wrapS z (by omega),List.countP_cons]
  by_cases hm:(x+d) % n∈l
  ·rw[decide_eq_true hm,bb_true,go (z+1) (by omega),if_pos rfl,Nat.add_comm (List.countP _ r) 1,Nat.add_assoc]
  ·rw[decide_eq_false hm,bb_false,bb_true,go z (by omega)];rfl
theorem dists_loop (k:Nat) {n:Nat} {l:List Nat} (h:Fine n l) (f:Nat):∀ (j w d c:Nat) (q:List Nat),j < w→d+j=n→0 < d→q.length=d - 1→c / 2=q.length→c % 2=0 →
 l75_1 (puN (k+1)) L w q.length c (Int.ofNat d) (Int.ofNat n) ⟨l.length,f,vL l⟩ (vL q)=some (slv (q++(List.range j).map fun i=>cntD n l (d+i)))
 | j,0,_,_,_,hw,_,_,_,_,_=>by omega
 | 0, w + 1, d, c, q, _, hd, h0, _, _, _ => by
  show b75_1 (puN (k+1)) L (l75_1 (puN (k+1)) L w) q.length c (Int.ofNat d) (Int.ofNat n) ⟨l.length,f,vL l⟩ (vL q)=_
  unfold b75_1
  rw[vL_closed,bb_true,ilt_nat,show Nat.blt d n=false from by rw[blt_eq];simp;omega,bb_false,ret75]
  show _=some (slv (q++[]))
  rw[List.append_nil]
 | j + 1, w + 1, d, c, q, hw, hd, h0, hq, hc, hc2 => by
  show b75_1 (puN (k+1)) L (l75_1 (puN (k+1)) L w) q.length c (Int.ofNat d) (Int.ofNat n) ⟨l.length,f,vL l⟩ (vL q)=_
  have hn:=h.le
  have hfew:=h.few
  unfold b75_1
  rw[vL_closed,bb_true,ilt_nat,show Nat.blt d n=true from by rw[blt_eq];simp;omega,bb_true]
  have hcount:=count_loop k h f (l75_1 (puN (k+1)) L w) d c q h0 (by omega) (by omega) hc hc2 l L 0 0 List.drop_zero (by show _ < 1000000;omega) (by omega) (Nat.le_refl _)
  have hcount:l75_4 (puN (k+1)) L (l75_1 (puN (k+1)) L w) L q.length c (Int.ofNat d) (0:Int) (0:Int) (Int.ofNat n) ⟨l.length,f,vL l⟩ (vL q)=_:=hcount
  have ih:=dists_loop k h f j w (d+1) (2*(q.length+1)+bb false 1 0) (q++[cntD n l d]) (by omega) (by omega) (by omega) (by simp;omega) (by simp) (by simp)
  rw[List.length_append,show [cntD n l d].length=1 from rfl] at ih
  rw[hcount,Nat.zero_add,show (l.countP fun a=>decide ((a+d) % n∈l))=cntD n l d from rfl,ih,List.append_assoc,List.range_succ_eq_map,List.map_cons,List.map_map]
  congr 4
  show [cntD n l d]++_=_
  rw[List.singleton_append,Nat.add_zero]
  congr 1
  apply List.map_congr_left
  intro i _
  show cntD n l (d+1+i)=cntD n l (d+(i+1))
  rw[show d+1+i=d+(i+1) by omega]
theorem p75 (k:Nat) (args:List Value):puN (k+1) 75 args=m75 (puN k) L args:=by kernel_rfl
theorem pu_dists75 (k f:Nat) {n:Nat} {l:List Nat} (h:Fine n l):puN (k+2) 75 [seaF n f l]=some (slv (dists n l)):=by
 have hn0:=h.pos
 have hn:=h.le
 rw[p75]
 have hl:=dists_loop k h f (n - 1) L 1 0 [] (by show n - 1 < 1000000;omega) (by omega) (by omega) rfl rfl rfl
 have e:(List.range (n - 1)).map (fun i=>cntD n l (1+i))=dists n l:=by
  unfold dists
  apply List.map_congr_left
  intro i _
  rw[Nat.add_comm]
 rw[List.nil_append,e] at hl
 exact hl
end Go.RgP
set_option maxRecDepth 100000
set_option maxHeartbeats 4000000
namespace Go.RgP
open Go Go.Sp Go.RgHM
theorem perf_range (n:Nat) (l:List Nat) (pu:PureF) (L:Nat) {D:List Nat} (hD:D=dists n l) (hlen:D.length < 900000):∀ (m w i:Nat),m < w→i+m=n - 1 →
 l79_1 pu L w ⟨D.length,0,vL D⟩ (Int.ofNat i)=some (.bool ((List.range' i m).all fun i=>cntD n l (i+1) == 1))
 | m,0,_,h,_=>by omega
 | 0, w + 1, i, _, hi => by
  show b79_1 pu L (l79_1 pu L w) ⟨D.length,0,vL D⟩ (Int.ofNat i)=_
  have h1:D.length=n - 1:=by rw[hD];exact dists_len n l
  unfold b79_1
  show bb (ilt (Int.ofNat i) (Int.ofNat D.length)) _ _=_
  rw[ilt_nat,show Nat.blt i D.length=false from by rw[blt_eq];simp;omega];rfl
 | m + 1, w + 1, i, hw, hi => by
  show b79_1 pu L (l79_1 pu L w) ⟨D.length,0,vL D⟩ (Int.ofNat i)=_
  have h1:D.length=n - 1:=by rw[hD];exact dists_len n l
  have hlt:Nat.blt i D.length=true:=by rw[blt_eq];simp;omega
  have ih:=perf_range n l pu L hD hlen m w (i+1) (by omega) (by omega)
  have hcell:nthL (vL D) (i*1)=some (IV (Int.ofNat (cntD n l (i+1)))):=by
   rw[nthL_eq,Nat.mul_one];unfold vL
   rw[List.getElem?_map,hD]
   rw[dists_get (by omega)];rfl
  unfold b79_1
  show bb (ilt (Int.ofNat i) (Int.ofNat D.length)) (oo (toN (Int.ofNat i)) none _) _=_
  rw[ilt_nat,hlt,bb_true,show toN (Int.ofNat i)=some i from rfl,oo_some]
  show bb (an (Nat.blt i D.length) true) (oo (nthL (vL D) (i*1)) none _) none=_
  rw[hlt,show an true true=true from rfl,bb_true,hcell,oo_some,show ∀ z,toI .i64 (IV z)=some z from fun _=>rfl,oo_some,wrapS i (by omega),ih,show ieq (Int.ofNat (cntD n l (i+1))) (1:Int)=Nat.beq (cntD n l (i+1)) 1 from ieq_nat _ 1,List.range'_succ,List.all_cons]
  by_cases hc:cntD n l (i+1)=1
  ·rw[hc];rfl
  ·rw[beq_ne hc,show (cntD n l (i+1) == 1)=false from by simpa using hc];rfl
theorem p79 (k:Nat) (args:List Value):puN (k+1) 79 args=m79 (puN k) L args:=by kernel_rfl
theorem pu_perf79 (k f:Nat) {n:Nat} {l:List Nat} (h:Fine n l):puN (k+3) 79 [seaF n f l]=some (.bool (perfD n l)):=by
 have hn0:=h.pos
 have hn:=h.le
 rw[p79]
 show oo (puN (k+2) 75 [seaF n f l]) none _=_
 rw[pu_dists75 k f h,oo_some]
 have hl:=perf_range n l (puN (k+2)) L (D:=dists n l) rfl (by rw[dists_len];omega) (n - 1) L 0 (by show n - 1 < 1000000;omega) (by omega)
 rw[←List.range_eq_range'] at hl
 exact hl
end Go.RgP
set_option maxRecDepth 100000
set_option maxHeartbeats 4000000
namespace Go.RgP
open Go Go.Sp Go.RgHM
theorem before_loop (pu:PureF) (L:Nat) {a b:List Nat} (ha:a.length < 900000) (f1 f2:Nat):∀ (r r':List Nat) (w i:Nat),a.drop i=r→b.drop i=r'→r.length < w→i≤a.length→i≤b.length →
 l97_1 pu L w ⟨a.length,f1,vL a⟩ ⟨b.length,f2,vL b⟩ (Int.ofNat i)=some (.bool (lexB r r'))
 | _,_,0,_,_,_,h,_,_=>by omega
 | [], r', w + 1, i, hd, hd', _, hi, hi' => by
  show b97_1 pu L (l97_1 pu L w) ⟨a.length,f1,vL a⟩ ⟨b.length,f2,vL b⟩ (Int.ofNat i)=_
  have h1:a.length≤i:=List.drop_eq_nil_iff.1 hd
  unfold b97_1
  show bb (ilt (Int.ofNat i) (Int.ofNat a.length)) _ (some (Value.bool (ilt (Int.ofNat a.length) (Int.ofNat b.length))))=_
  rw[ilt_nat,show Nat.blt i a.length=false from by rw[blt_eq];simp;omega,bb_false,ilt_nat,blt_eq]
  cases r' with
  | nil =>
   have h2:b.length≤i:=List.drop_eq_nil_iff.1 hd'
   rw[decide_eq_false (by omega)];rfl
  | cons y r' =>
   have:=(drop_next hd').2.1
   rw[decide_eq_true (by omega)];rfl
 | x :: r, r', w + 1, i, hd, hd', hw, hi, hi' => by
  show b97_1 pu L (l97_1 pu L w) ⟨a.length,f1,vL a⟩ ⟨b.length,f2,vL b⟩ (Int.ofNat i)=_
  obtain⟨hd2,hi2,_⟩:=drop_next hd
  have hr:(x::r).length=r.length+1:=rfl
  have hlt:Nat.blt i a.length=true:=by rw[blt_eq];simp;omega
  unfold b97_1
  show bb (ilt (Int.ofNat i) (Int.ofNat a.length)) (m97_2 pu L (l97_1 pu L w) ⟨a.length,f1,vL a⟩ ⟨b.length,f2,vL b⟩ (Int.ofNat i) (ilt (Int.ofNat i) (Int.ofNat b.length))) _=_
  rw[ilt_nat,ilt_nat,hlt,bb_true]
  unfold m97_2
  cases r' with
  | nil =>
   have h2:b.length≤i:=List.drop_eq_nil_iff.1 hd'
   rw[show Nat.blt i b.length=false from by rw[blt_eq];simp;omega,bb_false]
   show some (Value.bool (ilt (Int.ofNat a.length) (Int.ofNat b.length)))=_
   rw[ilt_nat,blt_eq,decide_eq_false (by omega)];rfl
  | cons y r' =>
   obtain⟨hd3,hi3,_⟩:=drop_next hd'
   have hlt2:Nat.blt i b.length=true:=by rw[blt_eq];simp;omega
   have ih:=before_loop pu L ha f1 f2 r r' w (i+1) hd2 hd3 (by omega) (by omega) (by omega)
   rw[hlt2,bb_true,show toN (Int.ofNat i)=some i from rfl,oo_some]
   show bb (an (Nat.blt i a.length) true) (oo (nthL (vL a) (i*1)) none fun v=>oo (toI .i64 v) none fun x1=>bb (an (Nat.blt i b.length) true) (oo (nthL (vL b) (i*1)) none fun v=>oo (toI .i64 v) none fun x2=>bb (nt (ieq x1 x2)) (bb (an (Nat.blt i a.length) true) (oo (nthL (vL a) (i*1)) none fun v=>oo (toI .i64 v) none fun x3=>bb (an (Nat.blt i b.length) true) (oo (nthL (vL b) (i*1)) none fun v=>oo (toI .i64 v) none fun x4=>some (.bool (ilt x3 x4))) none) none) (l97_1 pu L w ⟨a.length,f1,vL a⟩ ⟨b.length,f2,vL b⟩ (wrapF .i64 (Int.add (Int.ofNat i) (1:Int))))) none) none=_
   rw[hlt,hlt2,show an true true=true from rfl,bb_true,vL_get hd,vL_get hd',oo_some,show ∀ z,toI .i64 (IV z)=some z from fun _=>rfl,oo_some,bb_true,oo_some,show ∀ z,toI .i64 (IV z)=some z from fun _=>rfl,oo_some,wrapS i (by omega),ih,ieq_nat,bb_true,oo_some]
   show bb (nt (Nat.beq x y)) (some (Value.bool (ilt (Int.ofNat x) (Int.ofNat y)))) (some (Value.bool (lexB r r')))=_
   rw[ilt_nat,lexB_cons]
   cases Nat.beq x y <;> rfl
theorem p97 (k:Nat) (args:List Value):puN (k+1) 97 args=m97 (puN k) L args:=by kernel_rfl
theorem pu_before (k f1 f2:Nat) {a b:List Nat} (ha:a.length < 900000):puN (k+1) 97 [Sl.v 1 ⟨a.length,f1,vL a⟩,Sl.v 1 ⟨b.length,f2,vL b⟩]=some (.bool (lexB a b)):=by
 rw[p97]
 exact before_loop (puN k) L ha f1 f2 a b L 0 List.drop_zero List.drop_zero (by show _ < 1000000;omega) (by omega) (by omega)
theorem p72 (k:Nat) (args:List Value):puN (k+1) 72 args=m72 (puN k) L args:=by kernel_rfl
theorem pu_same72 (k f1 f2:Nat) {a b:List Nat} (ha:a.length < 900000) (hb:b.length < 900000):puN (k+2) 72 [Sl.v 1 ⟨a.length,f1,vL a⟩,Sl.v 1 ⟨b.length,f2,vL b⟩]=some (.bool (decide (a=b))):=by
 rw[p72]
 show m72_ (puN (k+1)) L ⟨a.length,f1,vL a⟩ ⟨b.length,f2,vL b⟩=_
 unfold m72_ m72_0
 rw[pu_before k f1 f2 ha,oo_some,show ∀ b,vBool (Value.bool b)=some b from fun _=>rfl,oo_some,pu_before k f2 f1 hb,oo_some,show ∀ b,vBool (Value.bool b)=some b from fun _=>rfl,oo_some]
 by_cases h:a=b
 ·subst h;rw[lexB_irr,decide_eq_true rfl];rfl
 ·rw[decide_eq_false h]
  cases h1:lexB a b with
  | true=>rfl
  | false =>
   cases h2:lexB b a with
   | true=>rfl
   | false=>exact absurd (lexB_tot h1 h2) h
def hits (f:Nat→Nat) (r:List Nat) (p:Nat):List Nat:=(r.filter fun x=>Nat.beq (f x) p).map fun _=>p
def movF (f:Nat→Nat) (l:List Nat):Nat→Nat→List Nat
 | 0,_=>[]
 | k+1,p=>hits f l p++movF f l k (p+1)
theorem hits_cons (f:Nat→Nat) (x:Nat) (r:List Nat) (p:Nat):hits f (x::r) p=(bif Nat.beq (f x) p then p::hits f r p else hits f r p):=by
 unfold hits
 rw[List.filter_cons]
 cases Nat.beq (f x) p <;> rfl
theorem moved_inner (k:Nat) {n:Nat} {l:List Nat} (h:Good n l) (fl:Nat) {m b:Int} (hm:-100≤m) (hm2:m≤100) (hb:-1000≤b) (hb2:b≤1000) (ih0:Int→Int→Int→Int→Sl→Int→Int→Nat→Nat→List Value→Option Value) (p:Nat) (hp:p < n) (z1 z2:Int) :
 ∀ (r:List Nat) (w i c:Nat) (q:List Nat),l.drop i=r→r.length < w→i≤l.length→q.length+r.length≤1000→c / 2=q.length→c % 2=0 →
 ∃ c', c' / 2 = (q ++ hits (fun x => plc n ((x : Int) * m + b)) r p).length ∧ c' % 2 = 0 ∧ l67_3 (puN (k + 1)) L ih0 w m b (Int.ofNat p) (Int.ofNat i) (Int.ofNat n) ⟨l.length, fl, vL l⟩ z1 z2 q.length c (vL q) =
  ih0 m b (Int.ofNat (p+1)) (Int.ofNat n) ⟨l.length,fl,vL l⟩ z1 z2 (q++hits (fun x=>plc n ((x:Int)*m+b)) r p).length c' (vL (q++hits (fun x=>plc n ((x:Int)*m+b)) r p))
 | _,0,_,_,_,_,hw,_,_,_,_=>by omega
 | [], w + 1, i, c, q, hd, _, hi, _, hc, hc2 => by
  have h1:l.length≤i:=List.drop_eq_nil_iff.1 hd
  have hn:=h.le
  refine⟨c,by rw[hc];simp[hits],hc2,?_⟩
  show b67_3 (puN (k+1)) L ih0 (l67_3 (puN (k+1)) L ih0 w) m b (Int.ofNat p) (Int.ofNat i) (Int.ofNat n) ⟨l.length,fl,vL l⟩ z1 z2 q.length c (vL q)=_
  unfold b67_3
  rw[vL_closed,bb_true]
  show bb (ilt (Int.ofNat i) (Int.ofNat l.length)) _ _=_
  rw[ilt_nat,show Nat.blt i l.length=false from by rw[blt_eq];simp;omega,bb_false]
  unfold m67_2
  rw[vL_closed,bb_true,wrapS p (by omega)]
  show _=ih0 m b (Int.ofNat (p+1)) (Int.ofNat n) ⟨l.length,fl,vL l⟩ z1 z2 (q++[]).length c (vL (q++[]))
  rw[List.append_nil]
 | x :: r, w + 1, i, c, q, hd, hw, hi, hq, hc, hc2 => by
  obtain⟨hd2,hi2,hx⟩:=drop_next hd
  have hr:(x::r).length=r.length+1:=rfl
  have hlt:Nat.blt i l.length=true:=by rw[blt_eq];simp;omega
  have hn:=h.le
  have hxn:=h.lt x hx
  have hfew:=h.few
  have b1:-3200≤(x:Int)*m:=by
   have:(x:Int)*(-100)≤(x:Int)*m:=Int.mul_le_mul_of_nonneg_left hm (by omega)
   omega
  have b2:(x:Int)*m≤3200:=by
   have:(x:Int)*m≤(x:Int)*100:=Int.mul_le_mul_of_nonneg_left hm2 (by omega)
   omega
  have e1:wrapF .i64 (Int.mul (Int.ofNat x) m)=(x:Int)*m:=wrapI _ (by show _≤(x:Int)*m;omega) (by show (x:Int)*m≤_;omega)
  have e2:wrapF .i64 (Int.add ((x:Int)*m) b)=(x:Int)*m+b:=wrapI _ (by show _≤(x:Int)*m+b;omega) (by show (x:Int)*m+b≤_;omega)
  have eq : l67_3 (puN (k + 1)) L ih0 (w + 1) m b (Int.ofNat p) (Int.ofNat i) (Int.ofNat n) ⟨l.length, fl, vL l⟩ z1 z2 q.length c (vL q) =
   bb (Nat.beq (plc n ((x:Int)*m+b)) p) (l67_3 (puN (k+1)) L ih0 w m b (Int.ofNat p) (Int.ofNat (i+1)) (Int.ofNat n) ⟨l.length,fl,vL l⟩ z1 z2 (q.length+1) (2*(q.length+1)+bb false 1 0) (vL (q++[p]))) (l67_3 (puN (k+1)) L ih0 w m b (Int.ofNat p) (Int.ofNat (i+1)) (Int.ofNat n) ⟨l.length,fl,vL l⟩ z1 z2 q.length c (vL q)):=by
   show b67_3 (puN (k+1)) L ih0 (l67_3 (puN (k+1)) L ih0 w) m b (Int.ofNat p) (Int.ofNat i) (Int.ofNat n) ⟨l.length,fl,vL l⟩ z1 z2 q.length c (vL q)=_
   unfold b67_3
   rw[vL_closed,bb_true]
   show bb (ilt (Int.ofNat i) (Int.ofNat l.length)) (oo (toN (Int.ofNat i)) none _) _=_
   rw[ilt_nat,hlt,bb_true,show toN (Int.ofNat i)=some i from rfl,oo_some]
   show bb (an (Nat.blt i l.length) true) (oo (nthL (vL l) (i*1)) none _) none=_
   rw[hlt,show an true true=true from rfl,bb_true,vL_get hd,oo_some,show ∀ z,toI .i64 (IV z)=some z from fun _=>rfl,oo_some,e1,e2]
   show oo (puN (k+1) 64 [IV ((x:Int)*m+b),IV (Int.ofNat n)]) none _=_
   rw[pu_rest k h.pos (by omega),oo_some]
   unfold m67_4
   show bb (ieq (Int.ofNat (plc n ((x:Int)*m+b))) (Int.ofNat p)) (bb (growC 1 8 q.length c 1 (vL q)) (bb (allL closed1 (appL (dropL 0 (vL q)) [.int .i64 (Int.ofNat p)])) (bb (allL closed1 (appL (dropL 0 (vL q)) [.int .i64 (Int.ofNat p)])) (l67_3 (puN (k+1)) L ih0 w m b (Int.ofNat p) (wrapF .i64 (Int.add (Int.ofNat i) (1:Int))) (Int.ofNat n) ⟨l.length,fl,vL l⟩ z1 z2 (q.length+1) (2*(q.length+1)+bb false 1 0) (appL (dropL 0 (vL q)) [.int .i64 (Int.ofNat p)])) none) none) none) (bb (allL closed1 (vL q)) (l67_3 (puN (k+1)) L ih0 w m b (Int.ofNat p) (wrapF .i64 (Int.add (Int.ofNat i) (1:Int))) (Int.ofNat n) ⟨l.length,fl,vL l⟩ z1 z2 q.length c (vL q)) none)=_
   rw[ieq_nat,grow_vL (by omega) hc hc2,vL_snoc,vL_closed,vL_closed,wrapS i (by omega)];rfl
  rw[eq,hits_cons]
  cases hbq:Nat.beq (plc n ((x:Int)*m+b)) p with
  | true =>
   obtain⟨c',h1,h2,h3⟩:=moved_inner k h fl hm hm2 hb hb2 ih0 p hp z1 z2 r w (i+1) (2*(q.length+1)+bb false 1 0) (q++[p]) hd2 (by omega) (by omega) (by simp;omega) (by simp) (by simp)
   rw[List.length_append,show [p].length=1 from rfl] at h3
   rw[List.append_assoc] at h1 h3
   exact⟨c',h1,h2,h3⟩
  | false=>exact moved_inner k h fl hm hm2 hb hb2 ih0 p hp z1 z2 r w (i+1) c q hd2 (by omega) (by omega) (by omega) hc hc2
theorem hits_len (f:Nat→Nat) (l:List Nat) (p:Nat):(hits f l p).length≤l.length:=by
 unfold hits
 rw[List.length_map];exact List.filter_sublist.length_le
theorem moved_outer (k:Nat) {n:Nat} {l:List Nat} (h:Good n l) (fl:Nat) {m b:Int} (hm:-100≤m) (hm2:m≤100) (hb:-1000≤b) (hb2:b≤1000) (z1:Int):∀ (j w p c:Nat) (q:List Nat),j < w→p+j=n→q.length≤p*6→c / 2=q.length→c % 2=0 →
 l67_1 (puN (k+1)) L w m b (Int.ofNat p) (Int.ofNat n) ⟨l.length,fl,vL l⟩ z1 (Int.ofNat n) q.length c (vL q)=some (seaF n 0 (q++movF (fun x=>plc n ((x:Int)*m+b)) l j p))
 | j,0,_,_,_,hw,_,_,_,_=>by omega
 | 0, w + 1, p, c, q, _, hk, _, _, _ => by
  show b67_1 (puN (k+1)) L (l67_1 (puN (k+1)) L w) m b (Int.ofNat p) (Int.ofNat n) ⟨l.length,fl,vL l⟩ z1 (Int.ofNat n) q.length c (vL q)=_
  unfold b67_1
  rw[vL_closed,bb_true,ilt_nat,show Nat.blt p n=false from by rw[blt_eq];simp;omega,bb_false]
  unfold m67_0
  have e1:takeL (q.length*1) (dropL 0 (vL q))=vL q:=by
   rw[takeL_eq,dropL_eq,List.drop_zero,Nat.mul_one,←vL_len q,List.take_length]
  rw[e1,vL_closed,bb_true,len_eq,vL_len,show Nat.ble (0+q.length*1) q.length=true from Nat.ble_eq_true_of_le (by omega)]
  show _=some (seaF n 0 (q++[]))
  rw[List.append_nil];rfl
 | j + 1, w + 1, p, c, q, hw, hk, hq, hc, hc2 => by
  show b67_1 (puN (k+1)) L (l67_1 (puN (k+1)) L w) m b (Int.ofNat p) (Int.ofNat n) ⟨l.length,fl,vL l⟩ z1 (Int.ofNat n) q.length c (vL q)=_
  have hn:=h.le
  have hfew:=h.few
  unfold b67_1
  rw[vL_closed,bb_true,ilt_nat,show Nat.blt p n=true from by rw[blt_eq];simp;omega,bb_true]
  obtain⟨c',h1,h2,h3⟩:=moved_inner k h fl hm hm2 hb hb2 (l67_1 (puN (k+1)) L w) p (by omega) z1 (Int.ofNat n) l L 0 c q List.drop_zero (by show _ < 1000000;omega) (by omega) (by omega) hc hc2
  have h3:l67_3 (puN (k+1)) L (l67_1 (puN (k+1)) L w) L m b (Int.ofNat p) (0:Int) (Int.ofNat n) ⟨l.length,fl,vL l⟩ z1 (Int.ofNat n) q.length c (vL q)=_:=h3
  have hh:=hits_len (fun x=>plc n ((x:Int)*m+b)) l p
  rw[h3,moved_outer k h fl hm hm2 hb hb2 z1 j w (p+1) c' _ (by omega) (by omega) (by rw[List.length_append];omega) h1 h2,List.append_assoc];rfl
theorem hits_inj {f:Nat→Nat} {l:List Nat} (hl:l.Nodup) (hf:∀ a∈l,∀ b∈l,f a=f b→a=b) (p:Nat):(hits f l p).length≤1:=by
 unfold hits
 rw[List.length_map]
 refine Nat.le_of_not_lt fun h=>?_
 have hnd:=nodup_filter (p:=fun x=>Nat.beq (f x) p) hl
 match hL:l.filter fun x=>Nat.beq (f x) p,h,hnd with
 | x :: y :: r, _, hnd =>
  have hx:x∈l.filter fun x=>Nat.beq (f x) p:=by rw[hL];exact List.mem_cons_self
  have hy:y∈l.filter fun x=>Nat.beq (f x) p:=by rw[hL];exact List.mem_cons_of_mem _ List.mem_cons_self
  obtain⟨x1,x2⟩:=List.mem_filter.1 hx
  obtain⟨y1,y2⟩:=List.mem_filter.1 hy
  have:=hf x x1 y y1 ((Nat.eq_of_beq_eq_true x2).trans (Nat.eq_of_beq_eq_true y2).symm)
  subst this
  exact(List.nodup_cons.1 hnd).1 List.mem_cons_self
theorem hits_mem {f:Nat→Nat} {l:List Nat} {p x:Nat}:x∈hits f l p↔x=p∧∃ a∈l,f a=p:=by
 unfold hits
 rw[List.mem_map]
 constructor
 ·rintro⟨a,ha,rfl⟩
  obtain⟨h1,h2⟩:=List.mem_filter.1 ha
  exact⟨rfl,a,h1,Nat.eq_of_beq_eq_true h2⟩
 ·rintro⟨rfl,a,h1,h2⟩
  exact⟨a,List.mem_filter.2 ⟨h1,by rw[h2,Nat.beq_refl]⟩,rfl⟩
theorem movF_mem (f:Nat→Nat) (l:List Nat):∀ (k p x:Nat),x∈movF f l k p↔p≤x∧x < p+k∧∃ a∈l,f a=x
 | 0,p,x=>by simp[movF];omega
 | k + 1, p, x => by
  show x∈hits f l p++movF f l k (p+1)↔_
  rw[List.mem_append,hits_mem,movF_mem f l k (p+1) x]
  constructor
  ·rintro(⟨rfl,h⟩ | ⟨h1,h2,h3⟩)
   ·exact⟨Nat.le_refl _,by omega,h⟩
   ·exact⟨by omega,by omega,h3⟩
  ·rintro⟨h1,h2,h3⟩
   by_cases h:x=p
   ·exact .inl ⟨h,h ▸ h3⟩
   ·exact .inr ⟨by omega,by omega,h3⟩
theorem movF_sorted {f:Nat→Nat} {l:List Nat} (hl:l.Nodup) (hf:∀ a∈l,∀ b∈l,f a=f b→a=b):∀ (k p:Nat),(movF f l k p).Pairwise (· < ·)
 | 0,p=>by simp[movF]
 | k + 1, p => by
  have ih:=movF_sorted hl hf k (p+1)
  have h1:=hits_inj hl hf p
  show (hits f l p++movF f l k (p+1)).Pairwise _
  refine List.pairwise_append.2 ⟨?_,ih,fun a ha b hb=>?_⟩
  ·match hits f l p,h1 with
   | [],_=>exact .nil
   | [x],_=>exact List.pairwise_singleton _ _
  ·have:=(hits_mem.1 ha).1
   have:=(movF_mem f l k (p+1) b).1 hb
   omega
theorem movF_eq {n:Nat} (hn:n≤31) {f:Nat→Nat} {l:List Nat} (hl:l.Nodup) (hlt:∀ x∈l,f x < n) (hf:∀ a∈l,∀ b∈l,f a=f b→a=b):movF f l n 0=marksN n (setOf f l 0):=by
 have hz:=setOf_lt f (l:=l) (Nat.two_pow_pos n) hlt
 have hz32:=lt32 hn hz
 refine sorted_ext (movF_sorted hl hf n 0) (marks_sorted hz32) fun x=>?_
 rw[movF_mem,mem_marks hz32,setOf_bit,Nat.zero_testBit,Bool.false_or]
 simp only[List.any_eq_true,decide_eq_true_eq]
 constructor
 ·rintro⟨_,h1,h2⟩;exact⟨by omega,h2⟩
 ·rintro⟨h1,h2⟩;exact⟨by omega,by omega,h2⟩
theorem p67 (k:Nat) (args:List Value):puN (k+1) 67 args=m67 (puN k) L args:=by kernel_rfl
theorem pu_movedR (k fl:Nat) {n:Nat} {l:List Nat} (h:Good n l) {m b:Int} (hm:-100≤m) (hm2:m≤100) (hb:-1000≤b) (hb2:b≤1000) (hf:∀ x∈l,∀ y∈l,plc n ((x:Int)*m+b)=plc n ((y:Int)*m+b)→x=y) :
 puN (k+2) 67 [seaF n fl l,IV m,IV b]=some (seaF n 0 (marksN n (setOf (fun x=>plc n ((x:Int)*m+b)) l 0))):=by
 have hn:=h.le
 rw[p67]
 have hl:=moved_outer k h fl hm hm2 hb hb2 0 n L 0 0 [] (by show n < 1000000;omega) (by omega) (by simp) rfl rfl
 rw[List.nil_append,movF_eq (by omega) (nodup_of_lt h.up) (fun x _=>plc_lt h.pos _) hf] at hl
 exact hl
theorem inj1 {n:Nat} {l:List Nat} (h:Good n l) (b:Int):∀ x∈l,∀ y∈l,plc n ((x:Int)*1+b)=plc n ((y:Int)*1+b)→x=y:=by
 intro x hx y hy e
 have h1:=h.lt x hx
 have h2:=h.lt y hy
 have hb:=plc_lt h.pos b
 rw[Int.mul_one,Int.mul_one,plc_add h.pos,plc_add h.pos,plc_nat,plc_nat,Nat.mod_eq_of_lt h1,Nat.mod_eq_of_lt h2,mod_add h1 hb,mod_add h2 hb] at e
 revert e
 repeat' split
 all_goals omega
theorem pu_turnR (k fl:Nat) {n:Nat} {l:List Nat} (h:Good n l) {b:Nat} (hb:b < n):puN (k+2) 67 [seaF n fl l,IV 1,IV (Int.ofNat b)]=some (seaF n 0 (marksN n (turnN n (bitsOf l) b))):=by
 have hn:=h.le
 have:=pu_movedR k fl h (m:=1) (b:=(b:Int)) (by omega) (by omega) (by omega) (by omega) (inj1 h _)
 simp only[Int.mul_one] at this
 have e:=turn_moved h.pos (by omega) (bitsOf_lt h.lt) (b:Int)
 rw[h.marks,plc_nat,Nat.mod_eq_of_lt hb] at e
 rw[e] at this
 exact this
theorem firstR_loop (k fl:Nat) {n:Nat} {l:List Nat} (h:Good n l) (z:Int):∀ (j w b:Nat) (best:List Nat),j < w→b+j=n→best.length < 900000 →
 l69_1 (puN (k+2)) L w (Int.ofNat b) (Int.ofNat n) ⟨l.length,fl,vL l⟩ z (Int.ofNat n) ⟨best.length,0,vL best⟩=some (seaF n 0 (minL best ((List.range' b j).map fun i=>marksN n (turnN n (bitsOf l) i))))
 | j,0,_,_,hw,_,_=>by omega
 | 0, w + 1, b, best, _, hb, _ => by
  show b69_1 (puN (k+2)) L (l69_1 (puN (k+2)) L w) (Int.ofNat b) (Int.ofNat n) ⟨l.length,fl,vL l⟩ z (Int.ofNat n) ⟨best.length,0,vL best⟩=_
  unfold b69_1
  rw[ilt_nat,show Nat.blt b n=false from by rw[blt_eq];simp;omega];rfl
 | j + 1, w + 1, b, best, hw, hb, hbl => by
  show b69_1 (puN (k+2)) L (l69_1 (puN (k+2)) L w) (Int.ofNat b) (Int.ofNat n) ⟨l.length,fl,vL l⟩ z (Int.ofNat n) ⟨best.length,0,vL best⟩=_
  have hn:=h.le
  have hml:=marks_len (n:=n) (s:=turnN n (bitsOf l) b)
  have go:=fun b' hb'=>firstR_loop k fl h z j w (b+1) b' (by omega) (by omega) hb'
  unfold b69_1
  rw[ilt_nat,show Nat.blt b n=true from by rw[blt_eq];simp;omega,bb_true]
  show oo (puN (k+2) 67 [seaF n fl l,IV 1,IV (Int.ofNat b)]) none _=_
  rw[pu_turnR k fl h (by omega),oo_some]
  show oo (puN (k+2) 97 [Sl.v 1 ⟨(marksN n (turnN n (bitsOf l) b)).length,0,vL (marksN n (turnN n (bitsOf l) b))⟩,Sl.v 1 ⟨best.length,0,vL best⟩]) none _=_
  rw[pu_before (k+1) 0 0 (by omega),oo_some]
  show bb (lexB (marksN n (turnN n (bitsOf l) b)) best) (l69_1 (puN (k+2)) L w (wrapF .i64 (Int.add (Int.ofNat b) (1:Int))) (Int.ofNat n) ⟨l.length,fl,vL l⟩ z (Int.ofNat n) ⟨(marksN n (turnN n (bitsOf l) b)).length,0,vL (marksN n (turnN n (bitsOf l) b))⟩) (l69_1 (puN (k+2)) L w (wrapF .i64 (Int.add (Int.ofNat b) (1:Int))) (Int.ofNat n) ⟨l.length,fl,vL l⟩ z (Int.ofNat n) ⟨best.length,0,vL best⟩)=_
  rw[wrapS b (by omega),go _ (by omega),go _ hbl,List.range'_succ,List.map_cons]
  show _=some (seaF n 0 (minL (bif lexB (marksN n (turnN n (bitsOf l) b)) best then marksN n (turnN n (bitsOf l) b) else best) _))
  cases lexB (marksN n (turnN n (bitsOf l) b)) best <;> rfl
theorem p69 (k:Nat) (args:List Value):puN (k+1) 69 args=m69 (puN k) L args:=by kernel_rfl
theorem pu_firstR (k fl:Nat) {n:Nat} {l:List Nat} (h:Good n l):puN (k+3) 69 [seaF n fl l]=some (seaF n 0 (minT n (bitsOf l))):=by
 have hn:=h.le
 have hn0:=h.pos
 have hml:=marks_len (n:=n) (s:=turnN n (bitsOf l) 0)
 rw[p69]
 show oo (puN (k+2) 67 [seaF n fl l,IV 1,IV (Int.ofNat 0)]) none _=_
 rw[pu_turnR k fl h h.pos,oo_some]
 have hl:=firstR_loop k fl h 0 (n - 1) L 1 (marksN n (turnN n (bitsOf l) 0)) (by show n - 1 < 1000000;omega) (by omega) (by omega)
 have e:(List.range' 1 (n - 1)).map (fun i=>marksN n (turnN n (bitsOf l) i))=(List.range (n - 1)).map fun i=>marksN n (turnN n (bitsOf l) (i+1)):=by
  rw[List.range'_eq_map_range,List.map_map]
  apply List.map_congr_left
  intro i _
  show marksN n (turnN n (bitsOf l) (1+i))=_
  rw[Nat.add_comm]
 rw[e] at hl
 exact hl
end Go.RgP
set_option maxRecDepth 100000
set_option maxHeartbeats 4000000
namespace Go.RgP
open Go Go.Sp Go.RgHM
theorem same_loop (pu:PureF) (L:Nat) {a b:List Int} (hab:a.length=b.length) (ha:a.length < 900000) (f1 f2:Nat):∀ (r r':List Int) (w i:Nat),a.drop i=r→b.drop i=r'→r.length < w→i≤a.length →
 l23_1 pu L w ⟨a.length,f1,iLI a⟩ ⟨b.length,f2,iLI b⟩ (Int.ofNat i)=some (.bool (decide (r=r')))
 | _,_,0,_,_,_,h,_=>by omega
 | [], r', w + 1, i, hd, hd', _, hi => by
  show b23_1 pu L (l23_1 pu L w) ⟨a.length,f1,iLI a⟩ ⟨b.length,f2,iLI b⟩ (Int.ofNat i)=_
  have h1:a.length≤i:=List.drop_eq_nil_iff.1 hd
  have h2:r'=[]:=by rw[←hd'];exact List.drop_eq_nil_iff.2 (by omega)
  subst h2
  unfold b23_1
  show bb (ilt (Int.ofNat i) (Int.ofNat a.length)) _ _=_
  rw[ilt_nat,show Nat.blt i a.length=false from by rw[blt_eq];simp;omega];simp;rfl
 | x :: r, r', w + 1, i, hd, hd', hw, hi => by
  show b23_1 pu L (l23_1 pu L w) ⟨a.length,f1,iLI a⟩ ⟨b.length,f2,iLI b⟩ (Int.ofNat i)=_
  obtain⟨hd2,hi2,_⟩:=dropI_next hd
  cases r' with
  | nil =>
   have h1:b.length≤i:=List.drop_eq_nil_iff.1 hd'
   omega
  | cons y r' =>
   obtain⟨hd3,_,_⟩:=dropI_next hd'
   have hr:(x::r).length=r.length+1:=rfl
   have hlt:Nat.blt i a.length=true:=by rw[blt_eq];simp;omega
   have hlt2:Nat.blt i b.length=true:=by rw[blt_eq];simp;omega
   have ih:=same_loop pu L hab ha f1 f2 r r' w (i+1) hd2 hd3 (by omega) (by omega)
   unfold b23_1
   show bb (ilt (Int.ofNat i) (Int.ofNat a.length)) (oo (toN (Int.ofNat i)) none fun k=>bb (an (Nat.blt k a.length) true) (oo (nthL (iLI a) (k*1)) none fun v=>oo (toI .i64 v) none fun x1=>bb (an (Nat.blt k b.length) true) (oo (nthL (iLI b) (k*1)) none fun v=>oo (toI .i64 v) none fun x2=>bb (nt (ieq x1 x2)) (some (.bool false)) (l23_1 pu L w ⟨a.length,f1,iLI a⟩ ⟨b.length,f2,iLI b⟩ (wrapF .i64 (Int.add (Int.ofNat k) (1:Int))))) none) none) (m23_0 pu L)=_
   rw [ilt_nat, hlt, bb_true, show toN (Int.ofNat i) = some i from rfl, oo_some, hlt, show an true true = true from rfl, bb_true, iLI_get hd, oo_some, show ∀ z, toI .i64 (IV z) = some z from fun _ => rfl, oo_some, hlt2, show an true true = true from rfl, bb_true, iLI_get hd', oo_some,
    show ∀ z,toI .i64 (IV z)=some z from fun _=>rfl,oo_some,wrapS i (by omega),ih,ieq_eq]
   by_cases h:x=y
   ·subst h;simp
   ·have hxy:(x == y)=false:=by simpa using h
    have hc:¬ (x::r=y::r'):=fun e=>h (by injection e)
    rw[hxy,decide_eq_false hc];rfl
theorem p23 (k:Nat) (args:List Value):puN (k+1) 23 args=m23 (puN k) L args:=by kernel_rfl
theorem pu_same (k f1 f2:Nat) {a b:List Int} (ha:a.length < 900000):puN (k+1) 23 [slI f1 a,slI f2 b]=some (.bool (decide (a=b))):=by
 rw[p23]
 show bb (nt (ieq (Int.ofNat a.length) (Int.ofNat b.length))) (some (.bool false)) (l23_1 (puN k) L L ⟨a.length,f1,iLI a⟩ ⟨b.length,f2,iLI b⟩ (0:Int))=_
 rw[ieq_nat,beq_dec]
 by_cases h:a.length=b.length
 ·rw[decide_eq_true h,show nt true=false from rfl,bb_false]
  exact same_loop (puN k) L h ha f1 f2 a b L 0 (List.drop_zero) (List.drop_zero) (by show _ < 1000000;omega) (by omega)
 ·have:¬ a=b:=fun e=>h (by rw[e])
  rw[decide_eq_false h,decide_eq_false this];rfl
end Go.RgP
set_option maxRecDepth 100000
set_option maxHeartbeats 4000000
namespace Go.RgP
open Go Go.Sp Go.RgHM
noncomputable def fdV (n f:Nat) (l:List Nat) (e:Int):Value:=tup2 (seaF n f l) (IV e)
theorem q35 (k:Nat) (args:List Value):puN (k+1) 35 args=m35 (puN k) L args:=by kernel_rfl
theorem q36 (k:Nat) (args:List Value):puN (k+1) 36 args=m36 (puN k) L args:=by kernel_rfl
theorem drop_at {α:Type} {q:List α} {i:Nat} {p:α} {r:List α} (h:q.drop i=p::r):q[i]?=some p∧q.drop (i+1)=r∧i < q.length:=by
 have h1:q[i]?=some p:=by
  have:=congrArg List.head? h
  rw[List.head?_drop] at this;exact this
 refine⟨h1,?_,(List.getElem?_eq_some_iff.1 h1).1⟩
 rw[←List.drop_drop,h];rfl
noncomputable def resR (n:Nat):Option (Nat×List Nat)→Value
 | none=>fdV 0 2 [] 12
 | some p=>fdV n p.1 p.2 0
theorem ref_loop (k:Nat) {n:Nat} {q:List (Nat×List Nat)} (hq:∀ p∈q,Good n p.2) (hl:q.length < 900000) (z:Int):∀ (r:List (Nat×List Nat)) (w i:Nat),q.drop i=r→r.length < w→i≤q.length →
 l36_2 (puN (k+3)) L w ⟨q.length,0,qW n q⟩ (Int.ofNat i) z=some (resR n (r.find? fun p=>perfD n p.2)):=by
 intro r
 induction r with
 | nil =>
  intro w i hd hw hi
  obtain⟨w,rfl⟩:∃ v,w=v+1:=⟨w - 1,by omega⟩
  have h1:q.length≤i:=List.drop_eq_nil_iff.1 hd
  show b36_2 (puN (k+3)) L (l36_2 (puN (k+3)) L w) ⟨q.length,0,qW n q⟩ (Int.ofNat i) z=_
  unfold b36_2
  show bb (ilt (Int.ofNat i) (Int.ofNat q.length)) _ _=_
  rw[ilt_nat,show Nat.blt i q.length=false from by rw[blt_eq];simp;omega];rfl
 | cons p r ih =>
  intro w i hd hw hi
  obtain⟨w,rfl⟩:∃ v,w=v+1:=⟨w - 1,by simp at hw;omega⟩
  obtain⟨h1,h2,h3⟩:=drop_at hd
  have hp:=hq p (List.mem_of_getElem? h1)
  have hlt:Nat.blt i q.length=true:=by rw[blt_eq];simp;omega
  have hlen:Nat.ble (i*2+2) (len (qW n q))=true:=by rw[len_eq,qW_len];exact Nat.ble_eq_true_of_le (by omega)
  obtain⟨g1,g2⟩:=qW_get n q i p h1
  have hr:(p::r).length=r.length+1:=rfl
  have ih:=ih w (i+1) h2 (by omega) (by omega)
  show b36_2 (puN (k+3)) L (l36_2 (puN (k+3)) L w) ⟨q.length,0,qW n q⟩ (Int.ofNat i) z=_
  unfold b36_2
  show bb (ilt (Int.ofNat i) (Int.ofNat q.length)) (oo (toN (Int.ofNat i)) none fun k4120=>(bb (an (Nat.blt k4120 q.length) true) (bb (Nat.ble (k4120*2+2) (len (qW n q))) (oo (nthL (qW n q) (k4120*2)) none fun v4124=>(oo (toI .i64 v4124) none fun x4126=>(oo (nthL (qW n q) (k4120*2+1)) none fun v4128=>(oo (toSl 1 v4128) none fun s4130=>(oo (puN (k+3) 79 [.agg ⟨[.int .i64 x4126,Sl.v 1 s4130]⟩]) none fun v4132=>(oo (vBool v4132) none fun b4134=>bb b4134 _ _)))))) none) none)) _=_
  rw[ilt_nat,hlt,bb_true,toN_mk,oo_some,hlt,show an true true=true from rfl,bb_true,hlen,bb_true,g1,oo_some,show ∀ z,toI .i64 (IV z)=some z from fun _=>rfl,oo_some,g2,oo_some,show ∀ sl:Sl,toSl 1 (Sl.v 1 sl)=some sl from fun _=>rfl,oo_some]
  have e79:puN (k+3) 79 [.agg ⟨[.int .i64 (Int.ofNat n),Sl.v 1 (mkS p)]⟩]=_:=pu_perf79 k p.1 hp.fine
  rw[e79,oo_some,vBool_mk,oo_some,List.find?_cons]
  cases hb:perfD n p.2 with
  | true =>
   rw[bb_true,bb_true,bb_true];rfl
  | false =>
   show bb false _ (l36_2 (puN (k+3)) L w ⟨q.length,0,qW n q⟩ (wrapF .i64 (Int.add (Int.ofNat i) (1:Int))) z)=_
   rw[bb_false,wrapS i (by omega),ih]
theorem ref_good {n m:Nat} (h0:0 < n) (hn:n≤21) (hm:m≤6):(∀ p∈refW n m,Good n p.2)∧(refW n m).length≤60000:=by
 cases m with
 | zero =>
  refine⟨fun p hp=>?_,by show 1≤60000;omega⟩
  rw[List.mem_singleton.1 hp]
  exact⟨h0,hn,by simp,.nil,fun x hx=>by cases hx⟩
 | succ m =>
  have hP:Part n 1 [0] m:=(part_nil h0 hn hm:Part n 0 [] (m+1)).snoc h0
  refine⟨fun p hp=>?_,?_⟩
  ·obtain⟨x,hx,rfl⟩:=List.mem_map.1 hp
   exact(ext_good (n - 1) m 1 [0] hP (by omega) x hx).1
  ·show (z0 (ext (n - 1) m 1 [0])).length≤60000
   rw[z0_len];exact cho_big hP (by omega)
theorem find_both (k:Nat) (x y:Int):∃ (n f g:Nat) (l:List Nat) (e:Int),l.length≤6∧puN (k+14) 35 [IV x,IV y]=some (fdV n f l e)∧puN (k+14) 36 [IV x,IV y]=some (fdV n g l e):=by
 have e73:∀ a b c:Int,puN (k+13) 73 [.int .i64 a,.int .i64 b,.int .i64 c]=some (.bool (decide (b≤a∧a≤c))):=fun a b c=>pu_is (k+12) a b c
 have s35:puN (k+14) 35 [IV x,IV y]=m35_ (puN (k+13)) L x y:=by rw[q35];rfl
 have s36:puN (k+14) 36 [IV x,IV y]=m36_ (puN (k+13)) L x y:=by rw[q36];rfl
 have bad1:∀ x y z,m35_0 (puN (k+13)) L x y true z=some (fdV 0 2 [] 1):=fun x y z=>rfl
 have bad2:∀ x y z,m36_0 (puN (k+13)) L x y true z=some (fdV 0 2 [] 1):=fun x y z=>rfl
 by_cases hx:1≤x∧x≤21
 ·by_cases hy:0≤y∧y≤6
  ·have t35 : m35_ (puN (k + 13)) L x y = m35_0 (puN (k + 13)) L x y false 0 := by
    unfold m35_
    rw[ilt_eq,ilt_eq,ilt_eq,ilt_eq,decide_eq_false (by omega),decide_eq_false (by omega),decide_eq_false (by omega),decide_eq_false (by omega)];rfl
   have t36:m36_ (puN (k+13)) L x y=m36_0 (puN (k+13)) L x y false 0:=by
    unfold m36_
    rw[e73,oo_some,vBool_mk,oo_some,decide_eq_true hx,show nt true=false from rfl,bb_false,e73,oo_some,vBool_mk,oo_some,decide_eq_true hy];rfl
   have w1:wrapF .i64 (Int.sub y (1:Int))=y - 1:=wrapI _ (by show _≤y - 1;omega) (by show y - 1≤_;omega)
   have hy2:y=0∨y=1∨y=2∨y=3∨y=4∨y=5∨y=6:=by omega
   have hmul:-100≤y*(y - 1)∧y*(y - 1)≤100:=by rcases hy2 with rfl | rfl | rfl | rfl | rfl | rfl | rfl <;> omega
   have w2:wrapF .i64 (Int.mul y (y - 1))=y*(y - 1):=wrapI _ (by show _≤y*(y - 1);omega) (by show y*(y - 1)≤_;omega)
   have w3:wrapF .i64 (Int.sub x (1:Int))=x - 1:=wrapI _ (by show _≤x - 1;omega) (by show x - 1≤_;omega)
   have w4:wrapF .i64 (Int.add (y*(y - 1)) (1:Int))=y*(y - 1)+1:=wrapI _ (by show _≤y*(y - 1)+1;omega) (by show y*(y - 1)+1≤_;omega)
   by_cases hc:y*(y - 1)=x - 1
   ·-- the six perfect ones
    have core : ∀ (n m : Nat) (l : List Nat) (f : Nat), x = Int.ofNat n → y = Int.ofNat m → m ≤ 6 → m ≤ n → l.length ≤ 6 → (ext n m 0 []).find? (perfD n) = some l → ((refW n m).find? fun p => perfD n p.2) = some (f, l) →
     ∃ (n f g:Nat) (l:List Nat) (e:Int),l.length≤6∧puN (k+14) 35 [IV x,IV y]=some (fdV n f l e)∧puN (k+14) 36 [IV x,IV y]=some (fdV n g l e):=by
     intro n m l f hxn hym hm hmn hl6 h1 h2
     have hn0:0 < n:=by have:x=(n:Int):=hxn;omega
     have hn:n≤21:=by have:x=(n:Int):=hxn;omega
     refine⟨n,0,f,l,0,hl6,?_,?_⟩
     ·rw[s35,t35]
      unfold m35_0
      rw[bb_false,w1,w2,w3,ieq_eq,show (y*(y - 1) == x - 1)=true from by simpa using hc,show nt true=false from rfl,bb_false]
      have hg:=find_grown (k+6 - m) m n 0 [] (part_nil hn0 hn hm) (by omega)
      rw[show k+6 - m+m+7=k+13 by omega,h1] at hg
      have hg':puN (k+13) 10810 [.agg ⟨[.int .i64 (Int.ofNat n),.int .u32 (0:Int)]⟩,.int .i64 (0:Int),.int .i64 (Int.ofNat m),.func (.func 82) ⟨[]⟩ ⟨[]⟩,.func (.func 83) ⟨[]⟩ ⟨[.pointer (some ⟨0,0,none⟩),.pointer (some ⟨1,0,none⟩)]⟩,.agg ⟨[.int .i64 (0:Int),Sl.v 1 (Sl.mk 0 0 (takeL (0*1) (dropL 0 ([]:List Value))))]⟩,.agg ⟨[.int .i64 (12:Int)]⟩]=some (resF n (some l)):=hg
      rw[hxn,hym,hg',oo_some];rfl
     ·rw[s36,t36]
      unfold m36_0
      rw[bb_false,w1,w2,w4,ieq_eq,show (y*(y - 1)+1 == x)=true from by simp;omega,show nt true=false from rfl,bb_false]
      obtain⟨r1,r2⟩:=ref_good hn0 hn hm
      have hs:=pu_seals (k+12 - m) hn0 hn hm hmn
      rw[show k+12 - m+m+1=k+13 by omega] at hs
      rw[hxn,hym]
      have hs':puN (k+13) 10840 [.agg ⟨[.int .i64 (Int.ofNat n),Sl.v 1 (Sl.mk 0 2 [])]⟩,.int .i64 (Int.ofNat m)]=_:=hs
      have hr:=ref_loop (k+10) r1 (by omega) (0:Int) (refW n m) L 0 List.drop_zero (by show _ < 1000000;omega) (by omega)
      rw[h2] at hr
      rw[show k+10+3=k+13 from rfl] at hr
      rw[hs',oo_some]
      unfold sealsV
      rw[vTup_mk,oo_some,ll_cons',ll_nil',show ∀ sl:Sl,toSl 2 (Sl.v 2 sl)=some sl from fun _=>rfl,oo_some]
      exact hr
    have hx1:x=y*(y - 1)+1:=by omega
    rcases hy2 with rfl | rfl | rfl | rfl | rfl | rfl | rfl
    ·exact core 1 0 [] 2 hx1 rfl (by omega) (by omega) (by decide) (by kernel_rfl) (by kernel_rfl)
    ·exact core 1 1 [0] 0 hx1 rfl (by omega) (by omega) (by decide) (by kernel_rfl) (by kernel_rfl)
    ·exact core 3 2 [0,1] 0 hx1 rfl (by omega) (by omega) (by decide) (by kernel_rfl) (by kernel_rfl)
    ·exact core 7 3 [0,1,3] 0 hx1 rfl (by omega) (by omega) (by decide) (by kernel_rfl) (by kernel_rfl)
    ·exact core 13 4 [0,1,3,9] 0 hx1 rfl (by omega) (by omega) (by decide) (by kernel_rfl) (by kernel_rfl)
    ·exact core 21 5 [0,1,4,14,16] 0 hx1 rfl (by omega) (by omega) (by decide) (by kernel_rfl) (by kernel_rfl)
    ·omega
   ·refine⟨0,2,2,[],12,by decide,?_,?_⟩
    ·rw[s35,t35]
     unfold m35_0
     rw[bb_false,w1,w2,w3,ieq_eq,show (y*(y - 1) == x - 1)=false from by simpa using hc];rfl
    ·rw[s36,t36]
     unfold m36_0
     rw[bb_false,w1,w2,w4,ieq_eq,show (y*(y - 1)+1 == x)=false from by simp;omega];rfl
  ·refine⟨0,2,2,[],1,by decide,?_,?_⟩
   ·rw[s35]
    unfold m35_
    rw[ilt_eq,ilt_eq,ilt_eq,ilt_eq,decide_eq_false (by omega),decide_eq_false (by omega),bb_false,bb_false]
    by_cases h:y < 0
    ·rw[decide_eq_true h,bb_true];exact bad1 x y 0
    ·rw[decide_eq_false h,bb_false,decide_eq_true (by omega)];exact bad1 x y 0
   ·rw[s36]
    unfold m36_
    rw[e73,oo_some,vBool_mk,oo_some,decide_eq_true hx,show nt true=false from rfl,bb_false,e73,oo_some,vBool_mk,oo_some,decide_eq_false hy]
    exact bad2 x y 0
 ·refine⟨0,2,2,[],1,by decide,?_,?_⟩
  ·rw[s35]
   unfold m35_
   rw[ilt_eq,ilt_eq]
   by_cases h:x < 1
   ·rw[decide_eq_true h,bb_true];exact bad1 x y 0
   ·rw[decide_eq_false h,bb_false,decide_eq_true (by omega),bb_true];exact bad1 x y 0
  ·rw[s36]
   unfold m36_
   rw[e73,oo_some,vBool_mk,oo_some,decide_eq_false hx]
   exact bad2 x y 0
end Go.RgP
