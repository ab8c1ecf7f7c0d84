/- Made from wip. -/
import Derived.Test.YtenlanbdolnhhaaDoorRgQKDefx
import Derived.Test.YtenlanbdolnhhaaDoorRgQLwx
import Derived.KernelRfl

set_option maxRecDepth 100000
set_option maxHeartbeats 0
namespace Go.RgP
open Go Go.Sp Go.RgQ Go.RgQM
noncomputable section
def bW:List Value→Option (List Nat):=fun l=>List.rec (motive:=fun _=>Option (List Nat)) (some []) (fun v _ ih=>oo (Bi .i64 v) none fun z=>oo (EA z) none fun n=>oo ih none fun r=>some (n::r)) l
def vU (args : List Value) : Option Value := ll args none fun a0 r => ll r none fun a1 r => ll r none fun o0 r => ll r
 (mW [a0] fun n s => bb (MK a1 1 0) (oo (Bt o0) none fun l => ll l none fun v r => ll r (oo (Bj 1 v) none fun sl => oo (bW sl.cs) none fun D =>
   bb (an (Nat.beq sl.n (len D)) (an (Nat.blt (len D) 60) (Nat.ble n (Nat.succ (len D))))) (some (PN sl.fl D (an (Au (few D) (DL n s)) (bP s)))) none) fun _ _=>none) none) fun _ _=>none
def xA:Af:=fun g=>bb (Nat.beq g 10160) vU (MG g)
end
theorem PQ:∀ {cs:List Value} {D:List Nat},bW cs=some D→cs=vL D
 | [],D,h=>by injection h with h;subst h;rfl
 | v :: cs, D, h => by
  replace h:oo (Bi .i64 v) none (fun z=>oo (EA z) none fun n=>oo (bW cs) none fun r=>some (n::r))=some D:=h
  obtain⟨z,hz,h⟩:=Ab h
  obtain⟨n,hn,h⟩:=Ab h
  obtain⟨r,hr,h⟩:=Ab h
  injection h with h;subst h
  rw[Eh hz,AR hn,PQ hr];rfl
theorem orA (args:List Value) (v:Value) (h:vU args=some v):MG 10160 args=some v:=by
 replace h:=Ad h;obtain⟨a0,r,rfl,h⟩:=h
 replace h:=Ad h;obtain⟨a1,r,rfl,h⟩:=h
 replace h:=Ad h;obtain⟨o0,r,rfl,h⟩:=h
 replace h:=AC h;obtain⟨rfl,h⟩:=h
 obtain⟨n,s,he,hn,hn2,h1⟩:=OT h
 clear h
 injection he with he;subst he
 obtain⟨hp,h2⟩:=Ae h1
 clear h1
 obtain⟨l,hl,h⟩:=Ab h2
 clear h2
 replace h:=Ad h;obtain⟨x,r,rfl,h⟩:=h
 replace h:=AC h;obtain⟨rfl,h⟩:=h
 obtain⟨sl,hs,h⟩:=Ab h
 obtain⟨D,hD,h⟩:=Ab h
 obtain⟨hc,h⟩:=Ae h
 obtain⟨c1,c2⟩:=Av hc
 obtain⟨c2,c3⟩:=Av c2
 have c1:sl.n=D.length:=by rw[←AV];exact Nat.eq_of_beq_eq_true c1
 have c2:D.length < 60:=by rw[AV,blt_eq] at c2;simpa using c2
 have c3:n≤D.length+1:=by have:=Nat.le_of_ble_eq_true c3;rw[AV] at this;exact this
 rw[BQ hl,Qh hs]
 obtain⟨m,fl,cs⟩:=sl
 have c1:m=D.length:=c1
 have hD2:cs=vL D:=PQ hD
 clear hD hc
 subst c1;subst hD2
 have e:MG 10160 [tv n s,a1,.agg ⟨[Sl.v 1 ⟨D.length,fl,vL D⟩]⟩]=bb (MK a1 1 0) (Jc (BI 29) L (Int.ofNat n) (Int.ofNat s) ⟨D.length,fl,vL D⟩) none:=by kernel_rfl
 rw[e,hp,Ak,←h,Bh]
 exact WZ (BI 29) L (by omega) c3 (Sm hn2) (JO 26 hn hn2)
end Go.RgP
set_option maxRecDepth 100000
set_option maxHeartbeats 4000000
namespace Go.RgP
open Go Go.Sp Go.RgQM
end Go.RgP
set_option maxRecDepth 100000
set_option maxHeartbeats 4000000
namespace Go.RgP
open Go Go.Sp Go.RgQM
theorem p25 (k:Nat) (args:List Value):BI (k+1) 50 args=m50 (BI k) L args:=by kernel_rfl
end Go.RgP
set_option maxRecDepth 100000
set_option maxHeartbeats 4000000
namespace Go.RgP
open Go Go.Sp Go.RgQM
theorem p40 (k:Nat) (args:List Value):BI (k+1) 9 args=m9 (BI k) L args:=by kernel_rfl
theorem p42 (k:Nat) (args:List Value):BI (k+1) 5 args=m5 (BI k) L args:=by kernel_rfl
end Go.RgP
set_option maxRecDepth 100000
set_option maxHeartbeats 4000000
namespace Go.RgP
open Go Go.Sp Go.RgQM
theorem p50 (k:Nat) (args:List Value):BI (k+1) 28 args=m28 (BI k) L args:=by kernel_rfl
end Go.RgP
set_option maxRecDepth 100000
set_option maxHeartbeats 4000000
namespace Go.RgP
open Go Go.Sp Go.RgQM
theorem p44 (k:Nat) (args:List Value):BI (k+1) 11 args=fE (BI k) L args:=by kernel_rfl
end Go.RgP
set_option maxRecDepth 100000
set_option maxHeartbeats 4000000
namespace Go.RgP
open Go Go.Sp Go.RgQM
theorem Kh (pu:Af) (L s:Nat):∀ (k w p c:Nat) (q:List Nat),k < w→p+k=21→q.length≤p→c / 2=q.length→c % 2=0 →
 OJ pu L w (Int.ofNat s) q.length c (Int.ofNat p) (vL q)=some (nO (q++Fp s k p))
 | k,0,_,_,_,h,_,_,_,_=>by omega
 | 0, w + 1, p, c, q, _, hk, _, _, _ => by
  show O6 pu L (OJ pu L w) (Int.ofNat s) q.length c (Int.ofNat p) (vL q)=_
  unfold O6
  rw[C8,Ak,show (21:Int)=Int.ofNat 21 from rfl,BB,show Nat.blt p 21=false from by rw[blt_eq];simp;omega,AA]
  unfold Ui
  rw[C8,Ak,vD]
  show _=some (nO (q++[]))
  rw[List.append_nil]
 | k + 1, w + 1, p, c, q, hw, hk, hq, hc, hc2 => by
  show O6 pu L (OJ pu L w) (Int.ofNat s) q.length c (Int.ofNat p) (vL q)=_
  unfold O6
  rw[C8,Ak,show (21:Int)=Int.ofNat 21 from rfl,BB,show Nat.blt p 21=true from by rw[blt_eq];simp;omega,Ak]
  show bb (hasB s p) _ _=_
  have hs:Aj .i64 (Int.add (Int.ofNat p) 1)=Int.ofNat (p+1):=DC p (by omega)
  unfold Fp
  cases hasB s p with
  | false =>
   rw[AA]
   unfold Qz
   rw[C8,Ak,hs]
   exact Kh pu L s k w (p+1) c q (by omega) (by omega) (by omega) hc hc2
  | true =>
   rw[Ak,gD (by omega) hc hc2,Ak,fZ,C8,Ak]
   unfold Qz
   rw[C8,Ak,hs]
   have ih:=Kh pu L s k w (p+1) (2*(q.length+1)+bb false 1 0) (q++[p]) (by omega) (by omega) (by simp;omega) (by simp) (by simp)
   rw[List.length_append] at ih
   show OJ pu L w (Int.ofNat s) (q.length+1) (2*(q.length+1)+bb false 1 0) (Int.ofNat (p+1)) (vL (q++[p]))=_
   rw[show [p].length=1 from rfl] at ih
   rw[ih,List.append_assoc];rfl
theorem p48 (k:Nat) (args:List Value):BI (k+1) 33 args=m33 (BI k) L args:=by kernel_rfl
theorem VM (k s:Nat):BI (k+1) 33 [U s]=some (nO (Ay 21 s)):=by
 rw[p48];exact Kh (BI k) L s 21 L 0 0 [] (by show 21 < 1000000;omega) rfl (by simp) rfl rfl
theorem p47 (k:Nat) (args:List Value):BI (k+1) 12 args=m12 (BI k) L args:=by kernel_rfl
end Go.RgP
set_option maxRecDepth 100000
set_option maxHeartbeats 4000000
namespace Go.RgP
open Go Go.Sp Go.RgQM
theorem Nf (pu:Af) (L:Nat) {n:Nat} (hn0:0 < n) (hn:n≤21) {m b:Int} (hm:-100≤m) (hm2:m≤100) (hb:-100000000≤b) (hb2:b≤100000000) {l:List Nat} (hl:∀ x∈l,x < 32) (hl2:l.length < 100) :
 ∀ (r:List Nat) (w i z:Nat),l.drop i=r→r.length < w→i≤l.length→z < 2 ^ n →
 Qw pu L w (Int.ofNat n) m b (Int.ofNat z) ⟨l.length,0,vL l⟩ (Int.ofNat l.length) (Int.ofNat i)=some (U (setOf (fun p=>Gp n ((p:Int)*m+b)) r z))
 | _,0,_,_,_,h,_,_=>by omega
 | [], w + 1, i, z, hd, _, hi, _ => by
  show O3 pu L (Qw pu L w) (Int.ofNat n) m b (Int.ofNat z) ⟨l.length,0,vL l⟩ (Int.ofNat l.length) (Int.ofNat i)=_
  have:l.length≤i:=List.drop_eq_nil_iff.1 hd
  unfold O3
  rw[BB,show Nat.blt i l.length=false from by rw[blt_eq];simp;omega];rfl
 | p :: r, w + 1, i, z, hd, hw, hi, hz => by
  show O3 pu L (Qw pu L w) (Int.ofNat n) m b (Int.ofNat z) ⟨l.length,0,vL l⟩ (Int.ofNat l.length) (Int.ofNat i)=_
  obtain⟨hd2,hi2,hb'⟩:=FN hd
  have hp:=hl p hb'
  have hr:(p::r).length=r.length+1:=rfl
  have hlt:Nat.blt i l.length=true:=by rw[blt_eq];simp;omega
  have hs:Aj .i64 (Int.add (Int.ofNat i) 1)=Int.ofNat (i+1):=DC i (by omega)
  have hpl:=FM hn0 ((p:Int)*m+b)
  have hk:2 ^ Gp n ((p:Int)*m+b) < 2 ^ n:=Nat.pow_lt_pow_right (by omega) hpl
  have hz2:z ||| 2 ^ Gp n ((p:Int)*m+b) < 2 ^ n:=Nat.or_lt_two_pow hz hk
  have ih:=Nf pu L hn0 hn hm hm2 hb hb2 hl hl2 r w (i+1) _ hd2 (by omega) (by omega) hz2
  have b1:-3200≤(p:Int)*m:=by
   have:(p:Int)*(-100)≤(p:Int)*m:=Int.mul_le_mul_of_nonneg_left hm (by omega)
   omega
  have b2:(p:Int)*m≤3200:=by
   have:(p:Int)*m≤(p:Int)*100:=Int.mul_le_mul_of_nonneg_left hm2 (by omega)
   omega
  have hne:Bd (Int.ofNat n) 0=false:=by rw[show (0:Int)=Int.ofNat 0 from rfl,FK];exact FY (by omega)
  have e1:Aj .i64 (Int.mul (Int.ofNat p) m)=(p:Int)*m:=Oe _ (by show _≤(p:Int)*m;omega) (by show (p:Int)*m≤_;omega)
  have e2:=Agd hn0 (by omega) (x:=(p:Int)*m+b) (by omega) (by omega)
  unfold O3
  rw[BB,hlt,Ak,show EA (Int.ofNat i)=some i from rfl,Ac]
  show bb (an (Nat.blt i l.length) true) _ none=_
  rw[hlt,show an true true=true from rfl,Ak]
  show oo (AL (vL l) (i*1)) none _=_
  rw[KV hd,Ac,show Bi .i64 (IV (Int.ofNat p))=some (Int.ofNat p) from rfl,Ac,hne,show nt false=true from rfl,Ak,Ak,e1]
  show oo (EA (Int.tmod (Aj .i64 (Int.add (Int.tmod (Aj .i64 ((p:Int)*m+b)) (Int.ofNat n)) (Int.ofNat n))) (Int.ofNat n))) none _=_
  rw[e2,show ∀ j,EA (Int.ofNat j)=some j from fun _=>rfl,Ac,ZR (by omega),ZQ (lt32 (by omega) hz) (lt32 (by omega) hk),hs,ih];rfl
theorem p49 (k:Nat) (args:List Value):BI (k+1) 13 args=m13 (BI k) L args:=by kernel_rfl
theorem bX (k:Nat) {n s:Nat} (hn0:0 < n) (hn:n≤21) (hs:s < 2 ^ n) {m b:Int} (hm:-100≤m) (hm2:m≤100) (hb:-100000000≤b) (hb2:b≤100000000) :
 BI (k+2) 13 [IV (Int.ofNat n),U s,IV m,IV b]=some (U (setOf (fun p=>Gp n ((p:Int)*m+b)) (Ay n s) 0)):=by
 have hs32:=lt32 (by omega) hs
 have hl:=OA (n:=n) (s:=s)
 rw[p49]
 show oo (BI (k+1) 33 [U s]) none _=_
 rw[VM,Ac,UO hs32 hs hn]
 exact Nf (BI (k+1)) L hn0 hn hm hm2 hb hb2 (fun x hx=>by have:=(Dy hs32).1 hx;omega) (by omega) _ L 0 0 (List.drop_zero) (by show _ < 1000000;omega) (by omega) (Nat.two_pow_pos n)
theorem FD (k:Nat) {n s:Nat} (hn0:0 < n) (hn:n≤21) (hs:s < 2 ^ n) {b:Int} (hb:-100000000≤b) (hb2:b≤100000000) :
 BI (k+2) 13 [IV (Int.ofNat n),U s,IV 1,IV b]=some (U (Bn n s (Gp n b))):=by
 rw[bX k hn0 hn hs (by omega) (by omega) hb hb2,←UT hn0 (by omega) hs]
 simp only[Int.mul_one]
end Go.RgP
set_option maxRecDepth 100000
set_option maxHeartbeats 0
namespace Go.RgP
open Go Go.Sp Go.RgQ Go.RgQM
noncomputable section
def bY (args:List Value):Option Value:=ll args (some (.bool true)) fun _ _=>none
def puB:Af:=fun g=>bb (Nat.beq g 15) bY (bb (Nat.beq g 10) (kW OQ L) (bb (Nat.beq g 11) (fE OQ L) (OQ g)))
def G5 (pu:Af) (n:Nat) (b2667:Bool) (x2669 z2614 z2615:Int) (v2695:Value):Option Value:=
 (oo (Bi .u32 v2695) none fun x2697=>(oo (pu 12 [(.int .i64 z2614),(.int .u32 x2697)]) none fun v2699=>(oo (Bt v2699) none fun l2701=>(ll l2701 none fun v2703 l2701=>(ll l2701 none fun v2704 l2701=>(ll l2701 (oo (Bi .i64 v2703) none fun x2705=>(oo (Bj 1 v2704) none fun s2707=>(oo (pu 11 [(.agg ⟨[(.int .i64 x2705),(Sl.v 1 s2707)]⟩)]) none fun v2709=>(oo (CQ v2709) none fun l2711=>(ll l2711 none fun v2713 l2711=>(ll l2711 none fun v2714 l2711=>(ll l2711 (oo (Bj 1 v2713) none fun s2715=>(oo (Bi .i64 v2714) none fun x2717=>(oo (pu 12 [(.int .i64 z2614),(.int .u32 (Np .u32 z2615 (Aj .u32 (Int.sub z2615 (1:Int)))))]) none fun v2729=>(oo (Bt v2729) none fun l2731=>(ll l2731 none fun v2733 l2731=>(ll l2731 none fun v2734 l2731=>(ll l2731 (oo (Bi .i64 v2733) none fun x2735=>(oo (Bj 1 v2734) none fun s2737=>(oo (pu 11 [(.agg ⟨[(.int .i64 x2735),(Sl.v 1 s2737)]⟩)]) none fun v2749=>(oo (CQ v2749) none fun l2751=>(ll l2751 none fun v2753 l2751=>(ll l2751 none fun v2754 l2751=>(ll l2751 (oo (Bj 1 v2753) none fun s2755=>(oo (Bi .i64 v2754) none fun x2757=>(bb (Bd x2669 (0:Int)) (bb b2667 (bb (Bd x2717 (0:Int)) (bb (Bd (Int.ofNat (Sl.n s2715)) (0:Int)) (bb (Bd x2757 (0:Int)) (oo (pu 14 [(.int .u32 z2615)]) none fun v2855=>(oo (Bi .i64 v2855) none fun x2857=>(oo (pu 8 [(Sl.v 1 s2755),(.int .i64 x2857)]) none fun v2859=>(oo (Bf v2859) none fun b2861=>(bb b2861 (oo (pu 15 []) none fun v2864=>(oo (Bf v2864) none fun b2866=>(Ki pu n b2866))) (Ki pu n false)))))) (Ki pu n false)) (Ki pu n false)) (Ki pu n false)) (Ki pu n false)) (Ki pu n false)))) fun _ _=>none))))))) fun _ _=>none))))))) fun _ _=>none))))))) fun _ _=>none))))))
end
theorem eB (g:FuncId) (h1:Nat.beq g 15=false) (h2:Nat.beq g 10=false) (h3:Nat.beq g 11=false) (h4:Nat.beq g 31=false) (h5:Nat.beq g 22=false) (h6:Nat.beq g 30=false):puB g=BI 30 g:=by
 unfold puB OQ MG
 rw[h1,AA,h2,AA,h3,AA,h4,AA,h5,AA,h6,AA]
noncomputable def xB:List (List Nat):=[[0,1]]
theorem fE3:(Qs 3 (3 - 1) 1 1 [0]).filter (Co 3 (Bq 3))=xB:=by kernel_rfl
theorem fL3:UF 3 (Bq 3)=xB:=Eq.trans (show Gn 3 (Bq 3) 2 4 0=_ from ((Jh 3 (k:=0) rfl).trans ((Jh 2 (k:=1) rfl).trans (gU 1 (k:=2) rfl ((Jh 0 (k:=3) rfl).trans rfl))))) ((Kg (n:=3) (k:=1) (by decide) (by decide) (by decide)).trans fE3)
theorem fD3:Gm 3 [0,1]=Bq 3:=by kernel_rfl
theorem fG3:Good 3 [0,1]:=⟨by decide,by decide,by decide,by decide,by decide⟩
theorem Ago:puB 4 [IV (Int.ofNat 3),Sl.v 1 ⟨2,0,vL (Bq 3)⟩]=some (Xa 3 0 (z0 xB) 0):=by
 have:=OP 15 fG3
 rw[fD3,fL3] at this
 rw[eB 4 rfl rfl rfl rfl rfl rfl]
 exact this
noncomputable def vV:List (List Nat):=[[0,1,3],[0,1,5]]
theorem fE7:(Qs 7 (7 - 1) 2 1 [0]).filter (Co 7 (Bq 7))=vV:=by kernel_rfl
theorem fL7:UF 7 (Bq 7)=vV:=Eq.trans (show Gn 7 (Bq 7) 6 7 0=_ from ((Jh 6 (k:=0) rfl).trans ((Jh 5 (k:=1) rfl).trans ((Jh 4 (k:=2) rfl).trans (gU 3 (k:=3) rfl ((Jh 2 (k:=4) rfl).trans ((Jh 1 (k:=5) rfl).trans ((Jh 0 (k:=6) rfl).trans rfl)))))))) ((Kg (n:=7) (k:=2) (by decide) (by decide) (by decide)).trans fE7)
theorem fD7:Gm 7 [0,1,3]=Bq 7:=by kernel_rfl
theorem fG7:Good 7 [0,1,3]:=⟨by decide,by decide,by decide,by decide,by decide⟩
theorem Agp:puB 4 [IV (Int.ofNat 7),Sl.v 1 ⟨6,0,vL (Bq 7)⟩]=some (Xa 7 0 (z0 vV) 0):=by
 have:=OP 15 fG7
 rw[fD7,fL7] at this
 rw[eB 4 rfl rfl rfl rfl rfl rfl]
 exact this
noncomputable def SE:List (List Nat):=[[0,1,3,9],[0,1,4,6],[0,1,5,11],[0,1,8,10]]
theorem Agq:(Qs 13 (13 - 1) 3 1 [0]).filter (Co 13 (Bq 13))=SE:=by kernel_rfl
theorem Agr:UF 13 (Bq 13)=SE:=Eq.trans (show Gn 13 (Bq 13) 12 7 0=_ from ((Jh 6 (k:=0) rfl).trans ((Jh 5 (k:=1) rfl).trans ((Jh 4 (k:=2) rfl).trans ((Jh 3 (k:=3) rfl).trans (gU 2 (k:=4) rfl ((Jh 1 (k:=5) rfl).trans ((Jh 0 (k:=6) rfl).trans rfl)))))))) ((Kg (n:=13) (k:=3) (by decide) (by decide) (by decide)).trans Agq)
theorem Ags:Gm 13 [0,1,3,9]=Bq 13:=by kernel_rfl
theorem Agt:Good 13 [0,1,3,9]:=⟨by decide,by decide,by decide,by decide,by decide⟩
theorem AeE:puB 4 [IV (Int.ofNat 13),Sl.v 1 ⟨12,0,vL (Bq 13)⟩]=some (Xa 13 0 (z0 SE) 0):=by
 have:=OP 15 Agt
 rw[Ags,Agr] at this
 rw[eB 4 rfl rfl rfl rfl rfl rfl]
 exact this
noncomputable def VU:List (List Nat):=[[0,1,4,14,16],[0,1,6,8,18]]
theorem Agu:(Qs 21 (21 - 1) 4 1 [0]).filter (Co 21 (Bq 21))=VU:=by kernel_rfl
theorem Agv:UF 21 (Bq 21)=VU:=Eq.trans (show Gn 21 (Bq 21) 20 7 0=_ from ((Jh 6 (k:=0) rfl).trans ((Jh 5 (k:=1) rfl).trans ((Jh 4 (k:=2) rfl).trans ((Jh 3 (k:=3) rfl).trans ((Jh 2 (k:=4) rfl).trans (gU 1 (k:=5) rfl ((Jh 0 (k:=6) rfl).trans rfl)))))))) ((Kg (n:=21) (k:=4) (by decide) (by decide) (by decide)).trans Agu)
theorem Agw:Gm 21 [0,1,4,14,16]=Bq 21:=by kernel_rfl
theorem Agx:Good 21 [0,1,4,14,16]:=⟨by decide,by decide,by decide,by decide,by decide⟩
theorem AeF:puB 4 [IV (Int.ofNat 21),Sl.v 1 ⟨20,0,vL (Bq 21)⟩]=some (Xa 21 0 (z0 VU) 0):=by
 have:=OP 15 Agx
 rw[Agw,Agv] at this
 rw[eB 4 rfl rfl rfl rfl rfl rfl]
 exact this
end Go.RgP
set_option maxRecDepth 100000
set_option maxHeartbeats 0
namespace Go.RgP
open Go Go.Sp Go.RgQ Go.RgQM
theorem Agy (pu:Af) (y z:Int):O1 pu L L y z (Int.ofNat 2) (Aj .i64 (Int.add (Aj .i64 (Int.mul (Int.ofNat 2) (Aj .i64 (Int.sub (Int.ofNat 2) (1:Int))))) (1:Int))) 0 0 (Aj .i64 (Int.sub (Aj .i64 (Int.add (Aj .i64 (Int.mul (Int.ofNat 2) (Aj .i64 (Int.sub (Int.ofNat 2) (1:Int))))) (1:Int))) (1:Int))) (0:Int) ([]:List Value)=LU pu L y z (Int.ofNat 2) (Int.ofNat 3) 2 (2*2+bb false 1 0) (vL (Bq 3)):=by kernel_rfl
theorem Agz (pu:Af) (y z:Int) (c:Nat) (h:pu 4 [IV (Int.ofNat 3),Sl.v 1 ⟨2,0,vL (Bq 3)⟩]=some (Xa 3 0 (z0 xB) 0)):LU pu L y z (Int.ofNat 2) (Int.ofNat 3) 2 c (vL (Bq 3))=G9 pu L y z (Int.ofNat 2) (Int.ofNat 3) ⟨2,0,vL (Bq 3)⟩ ⟨1,0,qW 3 (z0 xB)⟩ false:=by
 have h':pu 4 [.int .i64 (Int.ofNat 3),Sl.v 1 (Sl.mk 2 0 (Aq (2*1) (Am 0 (vL (Bq 3)))))]=_:=h
 unfold LU
 rw[show an (Nat.ble (0+2*1) (len (vL (Bq 3)))) (Au Ah (Aq (2*1) (Am 0 (vL (Bq 3)))))=true from by kernel_rfl,Ak,h',Ac]
 show _=_
 kernel_rfl
theorem vW (pu:Af) (y z:Int) (hy:Int.tmod (Aj .i64 y) (Int.ofNat 1)=Int.ofNat 0):G9 pu L y z (Int.ofNat 2) (Int.ofNat 3) ⟨2,0,vL (Bq 3)⟩ ⟨1,0,qW 3 (z0 xB)⟩ false=Gs pu L z (Int.ofNat 2) (Int.ofNat 3) ⟨2,0,vL (Bq 3)⟩ (Int.ofNat 3) (Int.ofNat 3) ⟨2,0,vL [0,1]⟩:=by
 unfold G9
 rw[AA]
 show bb (nt (Bd (Int.ofNat 1) (0:Int))) (oo (EA (Int.tmod (Aj .i64 y) (Int.ofNat 1))) none _) none=_
 rw[hy]
 kernel_rfl
theorem vX (z:Int):Gs puB L z (Int.ofNat 2) (Int.ofNat 3) ⟨2,0,vL (Bq 3)⟩ (Int.ofNat 3) (Int.ofNat 3) ⟨2,0,vL [0,1]⟩=Gq puB L z (Int.ofNat 3) (Int.ofNat 3) (Int.ofNat 3) ⟨2,0,vL [0,1]⟩:=by kernel_rfl
theorem gV:puB 9 [.agg ⟨[.int .i64 (Int.ofNat 3),Sl.v 1 ⟨2,0,vL [0,1]⟩]⟩,.int .i64 (Aj .i64 (Int.sub (Int.ofNat 3) (1:Int)))]=some (.tuple ⟨[.agg ⟨[.int .i64 (Int.ofNat 3),Sl.v 1 ⟨2,0,vL [0,2]⟩]⟩,.int .i64 (0:Int)]⟩):=by kernel_rfl
theorem bZ:puB 10 [.agg ⟨[.int .i64 (Int.ofNat 3),Sl.v 1 ⟨2,0,vL [0,2]⟩]⟩]=some (.tuple ⟨[.bool true,.int .i64 (0:Int)]⟩):=by kernel_rfl
theorem vY (z:Int) (t:Nat) (h:puB 13 [.int .i64 (Int.ofNat 3),.int .u32 (Int.ofNat 3),.int .i64 (1:Int),.int .i64 (Aj .i64 z)]=some (U t)):Gq puB L z (Int.ofNat 3) (Int.ofNat 3) (Int.ofNat 3) ⟨2,0,vL [0,1]⟩=G5 puB L true (0:Int) (Int.ofNat 3) (Int.ofNat 3) (U t):=by
 unfold Gq
 rw[gV,Ac,FW,Ac,Dj,Dj,EG,RL,Ac,Dj,Dj,EG,BP,Ac,Dc,Ac,BP,Ac,show nt (Bd (0:Int) (0:Int))=false from rfl,AA,bZ,Ac,FW,Ac,Dj,Dj,EG,BU,Ac,BP,Ac,h,Ac]
 rfl
theorem vZ:AP (fun b=>G5 puB L true (0:Int) (Int.ofNat 3) (Int.ofNat 3) (U (Bn 3 3 b))) (List.range 3)=AP (fun _=>some (.bool true)) (List.range 3):=by kernel_rfl
theorem gW (z:Int) (h1:0≤z) (h2:z < 256):Gs puB L z (Int.ofNat 2) (Int.ofNat 3) ⟨2,0,vL (Bq 3)⟩ (Int.ofNat 3) (Int.ofNat 3) ⟨2,0,vL [0,1]⟩=some (.bool true):=by
 have e:Aj .i64 z=z:=Oe z (by omega) (by omega)
 have h13:=FD 28 (n:=3) (s:=3) (by decide) (by decide) (by decide) (b:=z) (by omega) (by omega)
 have hlt:=FM (n:=3) (by decide) z
 rw[vX,vY z (Bn 3 3 (Gp 3 z)) (by rw[e,eB 13 rfl rfl rfl rfl rfl rfl];exact h13)]
 exact Hw vZ _ (List.mem_range.2 hlt)
theorem AeG (x y z:Int) (hx:Aj .i64 (Int.add (2:Int) (Int.tmod (Aj .i64 x) (4:Int)))=Int.ofNat 2) (hy0:0≤y) (hy1:y < 256) (h1:0≤z) (h2:z < 256):YB puB L x y z=some (.bool true):=by
 have e:Aj .i64 y=y:=Oe y (by omega) (by omega)
 have ht:Int.tmod (Aj .i64 y) (Int.ofNat 1)=Int.ofNat (y.toNat % 1):=by
  rw[e,show y=((y.toNat:Nat):Int) by omega];rfl
 have hl:y.toNat % 1 < 1:=Nat.mod_lt _ (by decide)
 unfold YB
 rw[hx,Agy,Agz puB y z _ Ago]
 generalize y.toNat % 1=i at ht hl
 have hi:i=0:=by omega
 subst hi
 rw[vW puB y z ht];exact gW z h1 h2
theorem AgA (pu:Af) (y z:Int):O1 pu L L y z (Int.ofNat 3) (Aj .i64 (Int.add (Aj .i64 (Int.mul (Int.ofNat 3) (Aj .i64 (Int.sub (Int.ofNat 3) (1:Int))))) (1:Int))) 0 0 (Aj .i64 (Int.sub (Aj .i64 (Int.add (Aj .i64 (Int.mul (Int.ofNat 3) (Aj .i64 (Int.sub (Int.ofNat 3) (1:Int))))) (1:Int))) (1:Int))) (0:Int) ([]:List Value)=LU pu L y z (Int.ofNat 3) (Int.ofNat 7) 6 (2*6+bb false 1 0) (vL (Bq 7)):=by kernel_rfl
theorem AgB (pu:Af) (y z:Int) (c:Nat) (h:pu 4 [IV (Int.ofNat 7),Sl.v 1 ⟨6,0,vL (Bq 7)⟩]=some (Xa 7 0 (z0 vV) 0)):LU pu L y z (Int.ofNat 3) (Int.ofNat 7) 6 c (vL (Bq 7))=G9 pu L y z (Int.ofNat 3) (Int.ofNat 7) ⟨6,0,vL (Bq 7)⟩ ⟨2,0,qW 7 (z0 vV)⟩ false:=by
 have h':pu 4 [.int .i64 (Int.ofNat 7),Sl.v 1 (Sl.mk 6 0 (Aq (6*1) (Am 0 (vL (Bq 7)))))]=_:=h
 unfold LU
 rw[show an (Nat.ble (0+6*1) (len (vL (Bq 7)))) (Au Ah (Aq (6*1) (Am 0 (vL (Bq 7)))))=true from by kernel_rfl,Ak,h',Ac]
 show _=_
 kernel_rfl
theorem wB (pu:Af) (y z:Int) (hy:Int.tmod (Aj .i64 y) (Int.ofNat 2)=Int.ofNat 0):G9 pu L y z (Int.ofNat 3) (Int.ofNat 7) ⟨6,0,vL (Bq 7)⟩ ⟨2,0,qW 7 (z0 vV)⟩ false=Gs pu L z (Int.ofNat 3) (Int.ofNat 7) ⟨6,0,vL (Bq 7)⟩ (Int.ofNat 11) (Int.ofNat 7) ⟨3,0,vL [0,1,3]⟩:=by
 unfold G9
 rw[AA]
 show bb (nt (Bd (Int.ofNat 2) (0:Int))) (oo (EA (Int.tmod (Aj .i64 y) (Int.ofNat 2))) none _) none=_
 rw[hy]
 kernel_rfl
theorem wC (z:Int):Gs puB L z (Int.ofNat 3) (Int.ofNat 7) ⟨6,0,vL (Bq 7)⟩ (Int.ofNat 11) (Int.ofNat 7) ⟨3,0,vL [0,1,3]⟩=Gq puB L z (Int.ofNat 7) (Int.ofNat 11) (Int.ofNat 7) ⟨3,0,vL [0,1,3]⟩:=by kernel_rfl
theorem gX:puB 9 [.agg ⟨[.int .i64 (Int.ofNat 7),Sl.v 1 ⟨3,0,vL [0,1,3]⟩]⟩,.int .i64 (Aj .i64 (Int.sub (Int.ofNat 7) (1:Int)))]=some (.tuple ⟨[.agg ⟨[.int .i64 (Int.ofNat 7),Sl.v 1 ⟨3,0,vL [0,4,6]⟩]⟩,.int .i64 (0:Int)]⟩):=by kernel_rfl
theorem cB:puB 10 [.agg ⟨[.int .i64 (Int.ofNat 7),Sl.v 1 ⟨3,0,vL [0,4,6]⟩]⟩]=some (.tuple ⟨[.bool true,.int .i64 (0:Int)]⟩):=by kernel_rfl
theorem wI (z:Int) (t:Nat) (h:puB 13 [.int .i64 (Int.ofNat 7),.int .u32 (Int.ofNat 11),.int .i64 (1:Int),.int .i64 (Aj .i64 z)]=some (U t)):Gq puB L z (Int.ofNat 7) (Int.ofNat 11) (Int.ofNat 7) ⟨3,0,vL [0,1,3]⟩=G5 puB L true (0:Int) (Int.ofNat 7) (Int.ofNat 11) (U t):=by
 unfold Gq
 rw[gX,Ac,FW,Ac,Dj,Dj,EG,RL,Ac,Dj,Dj,EG,BP,Ac,Dc,Ac,BP,Ac,show nt (Bd (0:Int) (0:Int))=false from rfl,AA,cB,Ac,FW,Ac,Dj,Dj,EG,BU,Ac,BP,Ac,h,Ac]
 rfl
theorem wJ:AP (fun b=>G5 puB L true (0:Int) (Int.ofNat 7) (Int.ofNat 11) (U (Bn 7 11 b))) (List.range 7)=AP (fun _=>some (.bool true)) (List.range 7):=by kernel_rfl
theorem gY (z:Int) (h1:0≤z) (h2:z < 256):Gs puB L z (Int.ofNat 3) (Int.ofNat 7) ⟨6,0,vL (Bq 7)⟩ (Int.ofNat 11) (Int.ofNat 7) ⟨3,0,vL [0,1,3]⟩=some (.bool true):=by
 have e:Aj .i64 z=z:=Oe z (by omega) (by omega)
 have h13:=FD 28 (n:=7) (s:=11) (by decide) (by decide) (by decide) (b:=z) (by omega) (by omega)
 have hlt:=FM (n:=7) (by decide) z
 rw[wC,wI z (Bn 7 11 (Gp 7 z)) (by rw[e,eB 13 rfl rfl rfl rfl rfl rfl];exact h13)]
 exact Hw wJ _ (List.mem_range.2 hlt)
theorem wK (pu:Af) (y z:Int) (hy:Int.tmod (Aj .i64 y) (Int.ofNat 2)=Int.ofNat 1):G9 pu L y z (Int.ofNat 3) (Int.ofNat 7) ⟨6,0,vL (Bq 7)⟩ ⟨2,0,qW 7 (z0 vV)⟩ false=Gs pu L z (Int.ofNat 3) (Int.ofNat 7) ⟨6,0,vL (Bq 7)⟩ (Int.ofNat 35) (Int.ofNat 7) ⟨3,0,vL [0,1,5]⟩:=by
 unfold G9
 rw[AA]
 show bb (nt (Bd (Int.ofNat 2) (0:Int))) (oo (EA (Int.tmod (Aj .i64 y) (Int.ofNat 2))) none _) none=_
 rw[hy]
 kernel_rfl
theorem wL (z:Int):Gs puB L z (Int.ofNat 3) (Int.ofNat 7) ⟨6,0,vL (Bq 7)⟩ (Int.ofNat 35) (Int.ofNat 7) ⟨3,0,vL [0,1,5]⟩=Gq puB L z (Int.ofNat 7) (Int.ofNat 35) (Int.ofNat 7) ⟨3,0,vL [0,1,5]⟩:=by kernel_rfl
theorem gZ:puB 9 [.agg ⟨[.int .i64 (Int.ofNat 7),Sl.v 1 ⟨3,0,vL [0,1,5]⟩]⟩,.int .i64 (Aj .i64 (Int.sub (Int.ofNat 7) (1:Int)))]=some (.tuple ⟨[.agg ⟨[.int .i64 (Int.ofNat 7),Sl.v 1 ⟨3,0,vL [0,2,6]⟩]⟩,.int .i64 (0:Int)]⟩):=by kernel_rfl
theorem cK:puB 10 [.agg ⟨[.int .i64 (Int.ofNat 7),Sl.v 1 ⟨3,0,vL [0,2,6]⟩]⟩]=some (.tuple ⟨[.bool true,.int .i64 (0:Int)]⟩):=by kernel_rfl
theorem wM (z:Int) (t:Nat) (h:puB 13 [.int .i64 (Int.ofNat 7),.int .u32 (Int.ofNat 35),.int .i64 (1:Int),.int .i64 (Aj .i64 z)]=some (U t)):Gq puB L z (Int.ofNat 7) (Int.ofNat 35) (Int.ofNat 7) ⟨3,0,vL [0,1,5]⟩=G5 puB L true (0:Int) (Int.ofNat 7) (Int.ofNat 35) (U t):=by
 unfold Gq
 rw[gZ,Ac,FW,Ac,Dj,Dj,EG,RL,Ac,Dj,Dj,EG,BP,Ac,Dc,Ac,BP,Ac,show nt (Bd (0:Int) (0:Int))=false from rfl,AA,cK,Ac,FW,Ac,Dj,Dj,EG,BU,Ac,BP,Ac,h,Ac]
 rfl
theorem wN:AP (fun b=>G5 puB L true (0:Int) (Int.ofNat 7) (Int.ofNat 35) (U (Bn 7 35 b))) (List.range 7)=AP (fun _=>some (.bool true)) (List.range 7):=by kernel_rfl
theorem iA (z:Int) (h1:0≤z) (h2:z < 256):Gs puB L z (Int.ofNat 3) (Int.ofNat 7) ⟨6,0,vL (Bq 7)⟩ (Int.ofNat 35) (Int.ofNat 7) ⟨3,0,vL [0,1,5]⟩=some (.bool true):=by
 have e:Aj .i64 z=z:=Oe z (by omega) (by omega)
 have h13:=FD 28 (n:=7) (s:=35) (by decide) (by decide) (by decide) (b:=z) (by omega) (by omega)
 have hlt:=FM (n:=7) (by decide) z
 rw[wL,wM z (Bn 7 35 (Gp 7 z)) (by rw[e,eB 13 rfl rfl rfl rfl rfl rfl];exact h13)]
 exact Hw wN _ (List.mem_range.2 hlt)
theorem AeH (x y z:Int) (hx:Aj .i64 (Int.add (2:Int) (Int.tmod (Aj .i64 x) (4:Int)))=Int.ofNat 3) (hy0:0≤y) (hy1:y < 256) (h1:0≤z) (h2:z < 256):YB puB L x y z=some (.bool true):=by
 have e:Aj .i64 y=y:=Oe y (by omega) (by omega)
 have ht:Int.tmod (Aj .i64 y) (Int.ofNat 2)=Int.ofNat (y.toNat % 2):=by
  rw[e,show y=((y.toNat:Nat):Int) by omega];rfl
 have hl:y.toNat % 2 < 2:=Nat.mod_lt _ (by decide)
 unfold YB
 rw[hx,AgA,AgB puB y z _ Agp]
 generalize y.toNat % 2=i at ht hl
 have hi:i=0∨i=1:=by omega
 rcases hi with rfl | rfl
 ·rw[wB puB y z ht];exact gY z h1 h2
 ·rw[wK puB y z ht];exact iA z h1 h2
theorem AeI (pu:Af) (y z:Int):O1 pu L L y z (Int.ofNat 4) (Aj .i64 (Int.add (Aj .i64 (Int.mul (Int.ofNat 4) (Aj .i64 (Int.sub (Int.ofNat 4) (1:Int))))) (1:Int))) 0 0 (Aj .i64 (Int.sub (Aj .i64 (Int.add (Aj .i64 (Int.mul (Int.ofNat 4) (Aj .i64 (Int.sub (Int.ofNat 4) (1:Int))))) (1:Int))) (1:Int))) (0:Int) ([]:List Value)=LU pu L y z (Int.ofNat 4) (Int.ofNat 13) 12 (2*12+bb false 1 0) (vL (Bq 13)):=by kernel_rfl
theorem AeJ (pu:Af) (y z:Int) (c:Nat) (h:pu 4 [IV (Int.ofNat 13),Sl.v 1 ⟨12,0,vL (Bq 13)⟩]=some (Xa 13 0 (z0 SE) 0)):LU pu L y z (Int.ofNat 4) (Int.ofNat 13) 12 c (vL (Bq 13))=G9 pu L y z (Int.ofNat 4) (Int.ofNat 13) ⟨12,0,vL (Bq 13)⟩ ⟨4,0,qW 13 (z0 SE)⟩ false:=by
 have h':pu 4 [.int .i64 (Int.ofNat 13),Sl.v 1 (Sl.mk 12 0 (Aq (12*1) (Am 0 (vL (Bq 13)))))]=_:=h
 unfold LU
 rw[show an (Nat.ble (0+12*1) (len (vL (Bq 13)))) (Au Ah (Aq (12*1) (Am 0 (vL (Bq 13)))))=true from by kernel_rfl,Ak,h',Ac]
 show _=_
 kernel_rfl
theorem iB (pu:Af) (y z:Int) (hy:Int.tmod (Aj .i64 y) (Int.ofNat 4)=Int.ofNat 0):G9 pu L y z (Int.ofNat 4) (Int.ofNat 13) ⟨12,0,vL (Bq 13)⟩ ⟨4,0,qW 13 (z0 SE)⟩ false=Gs pu L z (Int.ofNat 4) (Int.ofNat 13) ⟨12,0,vL (Bq 13)⟩ (Int.ofNat 523) (Int.ofNat 13) ⟨4,0,vL [0,1,3,9]⟩:=by
 unfold G9
 rw[AA]
 show bb (nt (Bd (Int.ofNat 4) (0:Int))) (oo (EA (Int.tmod (Aj .i64 y) (Int.ofNat 4))) none _) none=_
 rw[hy]
 kernel_rfl
theorem iC (z:Int):Gs puB L z (Int.ofNat 4) (Int.ofNat 13) ⟨12,0,vL (Bq 13)⟩ (Int.ofNat 523) (Int.ofNat 13) ⟨4,0,vL [0,1,3,9]⟩=Gq puB L z (Int.ofNat 13) (Int.ofNat 523) (Int.ofNat 13) ⟨4,0,vL [0,1,3,9]⟩:=by kernel_rfl
theorem cO:puB 9 [.agg ⟨[.int .i64 (Int.ofNat 13),Sl.v 1 ⟨4,0,vL [0,1,3,9]⟩]⟩,.int .i64 (Aj .i64 (Int.sub (Int.ofNat 13) (1:Int)))]=some (.tuple ⟨[.agg ⟨[.int .i64 (Int.ofNat 13),Sl.v 1 ⟨4,0,vL [0,4,10,12]⟩]⟩,.int .i64 (0:Int)]⟩):=by kernel_rfl
theorem X5:puB 10 [.agg ⟨[.int .i64 (Int.ofNat 13),Sl.v 1 ⟨4,0,vL [0,4,10,12]⟩]⟩]=some (.tuple ⟨[.bool true,.int .i64 (0:Int)]⟩):=by kernel_rfl
theorem iD (z:Int) (t:Nat) (h:puB 13 [.int .i64 (Int.ofNat 13),.int .u32 (Int.ofNat 523),.int .i64 (1:Int),.int .i64 (Aj .i64 z)]=some (U t)):Gq puB L z (Int.ofNat 13) (Int.ofNat 523) (Int.ofNat 13) ⟨4,0,vL [0,1,3,9]⟩=G5 puB L true (0:Int) (Int.ofNat 13) (Int.ofNat 523) (U t):=by
 unfold Gq
 rw[cO,Ac,FW,Ac,Dj,Dj,EG,RL,Ac,Dj,Dj,EG,BP,Ac,Dc,Ac,BP,Ac,show nt (Bd (0:Int) (0:Int))=false from rfl,AA,X5,Ac,FW,Ac,Dj,Dj,EG,BU,Ac,BP,Ac,h,Ac]
 rfl
theorem iE:AP (fun b=>G5 puB L true (0:Int) (Int.ofNat 13) (Int.ofNat 523) (U (Bn 13 523 b))) (List.range 13)=AP (fun _=>some (.bool true)) (List.range 13):=by kernel_rfl
theorem cZ (z:Int) (h1:0≤z) (h2:z < 256):Gs puB L z (Int.ofNat 4) (Int.ofNat 13) ⟨12,0,vL (Bq 13)⟩ (Int.ofNat 523) (Int.ofNat 13) ⟨4,0,vL [0,1,3,9]⟩=some (.bool true):=by
 have e:Aj .i64 z=z:=Oe z (by omega) (by omega)
 have h13:=FD 28 (n:=13) (s:=523) (by decide) (by decide) (by decide) (b:=z) (by omega) (by omega)
 have hlt:=FM (n:=13) (by decide) z
 rw[iC,iD z (Bn 13 523 (Gp 13 z)) (by rw[e,eB 13 rfl rfl rfl rfl rfl rfl];exact h13)]
 exact Hw iE _ (List.mem_range.2 hlt)
theorem iF (pu:Af) (y z:Int) (hy:Int.tmod (Aj .i64 y) (Int.ofNat 4)=Int.ofNat 1):G9 pu L y z (Int.ofNat 4) (Int.ofNat 13) ⟨12,0,vL (Bq 13)⟩ ⟨4,0,qW 13 (z0 SE)⟩ false=Gs pu L z (Int.ofNat 4) (Int.ofNat 13) ⟨12,0,vL (Bq 13)⟩ (Int.ofNat 83) (Int.ofNat 13) ⟨4,0,vL [0,1,4,6]⟩:=by
 unfold G9
 rw[AA]
 show bb (nt (Bd (Int.ofNat 4) (0:Int))) (oo (EA (Int.tmod (Aj .i64 y) (Int.ofNat 4))) none _) none=_
 rw[hy]
 kernel_rfl
theorem iG (z:Int):Gs puB L z (Int.ofNat 4) (Int.ofNat 13) ⟨12,0,vL (Bq 13)⟩ (Int.ofNat 83) (Int.ofNat 13) ⟨4,0,vL [0,1,4,6]⟩=Gq puB L z (Int.ofNat 13) (Int.ofNat 83) (Int.ofNat 13) ⟨4,0,vL [0,1,4,6]⟩:=by kernel_rfl
theorem dA:puB 9 [.agg ⟨[.int .i64 (Int.ofNat 13),Sl.v 1 ⟨4,0,vL [0,1,4,6]⟩]⟩,.int .i64 (Aj .i64 (Int.sub (Int.ofNat 13) (1:Int)))]=some (.tuple ⟨[.agg ⟨[.int .i64 (Int.ofNat 13),Sl.v 1 ⟨4,0,vL [0,7,9,12]⟩]⟩,.int .i64 (0:Int)]⟩):=by kernel_rfl
theorem X6:puB 10 [.agg ⟨[.int .i64 (Int.ofNat 13),Sl.v 1 ⟨4,0,vL [0,7,9,12]⟩]⟩]=some (.tuple ⟨[.bool true,.int .i64 (0:Int)]⟩):=by kernel_rfl
theorem iH (z:Int) (t:Nat) (h:puB 13 [.int .i64 (Int.ofNat 13),.int .u32 (Int.ofNat 83),.int .i64 (1:Int),.int .i64 (Aj .i64 z)]=some (U t)):Gq puB L z (Int.ofNat 13) (Int.ofNat 83) (Int.ofNat 13) ⟨4,0,vL [0,1,4,6]⟩=G5 puB L true (0:Int) (Int.ofNat 13) (Int.ofNat 83) (U t):=by
 unfold Gq
 rw[dA,Ac,FW,Ac,Dj,Dj,EG,RL,Ac,Dj,Dj,EG,BP,Ac,Dc,Ac,BP,Ac,show nt (Bd (0:Int) (0:Int))=false from rfl,AA,X6,Ac,FW,Ac,Dj,Dj,EG,BU,Ac,BP,Ac,h,Ac]
 rfl
theorem iI:AP (fun b=>G5 puB L true (0:Int) (Int.ofNat 13) (Int.ofNat 83) (U (Bn 13 83 b))) (List.range 13)=AP (fun _=>some (.bool true)) (List.range 13):=by kernel_rfl
theorem dB (z:Int) (h1:0≤z) (h2:z < 256):Gs puB L z (Int.ofNat 4) (Int.ofNat 13) ⟨12,0,vL (Bq 13)⟩ (Int.ofNat 83) (Int.ofNat 13) ⟨4,0,vL [0,1,4,6]⟩=some (.bool true):=by
 have e:Aj .i64 z=z:=Oe z (by omega) (by omega)
 have h13:=FD 28 (n:=13) (s:=83) (by decide) (by decide) (by decide) (b:=z) (by omega) (by omega)
 have hlt:=FM (n:=13) (by decide) z
 rw[iG,iH z (Bn 13 83 (Gp 13 z)) (by rw[e,eB 13 rfl rfl rfl rfl rfl rfl];exact h13)]
 exact Hw iI _ (List.mem_range.2 hlt)
theorem iJ (pu:Af) (y z:Int) (hy:Int.tmod (Aj .i64 y) (Int.ofNat 4)=Int.ofNat 2):G9 pu L y z (Int.ofNat 4) (Int.ofNat 13) ⟨12,0,vL (Bq 13)⟩ ⟨4,0,qW 13 (z0 SE)⟩ false=Gs pu L z (Int.ofNat 4) (Int.ofNat 13) ⟨12,0,vL (Bq 13)⟩ (Int.ofNat 2083) (Int.ofNat 13) ⟨4,0,vL [0,1,5,11]⟩:=by
 unfold G9
 rw[AA]
 show bb (nt (Bd (Int.ofNat 4) (0:Int))) (oo (EA (Int.tmod (Aj .i64 y) (Int.ofNat 4))) none _) none=_
 rw[hy]
 kernel_rfl
theorem iK (z:Int):Gs puB L z (Int.ofNat 4) (Int.ofNat 13) ⟨12,0,vL (Bq 13)⟩ (Int.ofNat 2083) (Int.ofNat 13) ⟨4,0,vL [0,1,5,11]⟩=Gq puB L z (Int.ofNat 13) (Int.ofNat 2083) (Int.ofNat 13) ⟨4,0,vL [0,1,5,11]⟩:=by kernel_rfl
theorem dC:puB 9 [.agg ⟨[.int .i64 (Int.ofNat 13),Sl.v 1 ⟨4,0,vL [0,1,5,11]⟩]⟩,.int .i64 (Aj .i64 (Int.sub (Int.ofNat 13) (1:Int)))]=some (.tuple ⟨[.agg ⟨[.int .i64 (Int.ofNat 13),Sl.v 1 ⟨4,0,vL [0,2,8,12]⟩]⟩,.int .i64 (0:Int)]⟩):=by kernel_rfl
theorem X7:puB 10 [.agg ⟨[.int .i64 (Int.ofNat 13),Sl.v 1 ⟨4,0,vL [0,2,8,12]⟩]⟩]=some (.tuple ⟨[.bool true,.int .i64 (0:Int)]⟩):=by kernel_rfl
theorem iL (z:Int) (t:Nat) (h:puB 13 [.int .i64 (Int.ofNat 13),.int .u32 (Int.ofNat 2083),.int .i64 (1:Int),.int .i64 (Aj .i64 z)]=some (U t)):Gq puB L z (Int.ofNat 13) (Int.ofNat 2083) (Int.ofNat 13) ⟨4,0,vL [0,1,5,11]⟩=G5 puB L true (0:Int) (Int.ofNat 13) (Int.ofNat 2083) (U t):=by
 unfold Gq
 rw[dC,Ac,FW,Ac,Dj,Dj,EG,RL,Ac,Dj,Dj,EG,BP,Ac,Dc,Ac,BP,Ac,show nt (Bd (0:Int) (0:Int))=false from rfl,AA,X7,Ac,FW,Ac,Dj,Dj,EG,BU,Ac,BP,Ac,h,Ac]
 rfl
theorem iM:AP (fun b=>G5 puB L true (0:Int) (Int.ofNat 13) (Int.ofNat 2083) (U (Bn 13 2083 b))) (List.range 13)=AP (fun _=>some (.bool true)) (List.range 13):=by kernel_rfl
theorem dP (z:Int) (h1:0≤z) (h2:z < 256):Gs puB L z (Int.ofNat 4) (Int.ofNat 13) ⟨12,0,vL (Bq 13)⟩ (Int.ofNat 2083) (Int.ofNat 13) ⟨4,0,vL [0,1,5,11]⟩=some (.bool true):=by
 have e:Aj .i64 z=z:=Oe z (by omega) (by omega)
 have h13:=FD 28 (n:=13) (s:=2083) (by decide) (by decide) (by decide) (b:=z) (by omega) (by omega)
 have hlt:=FM (n:=13) (by decide) z
 rw[iK,iL z (Bn 13 2083 (Gp 13 z)) (by rw[e,eB 13 rfl rfl rfl rfl rfl rfl];exact h13)]
 exact Hw iM _ (List.mem_range.2 hlt)
theorem iN (pu:Af) (y z:Int) (hy:Int.tmod (Aj .i64 y) (Int.ofNat 4)=Int.ofNat 3):G9 pu L y z (Int.ofNat 4) (Int.ofNat 13) ⟨12,0,vL (Bq 13)⟩ ⟨4,0,qW 13 (z0 SE)⟩ false=Gs pu L z (Int.ofNat 4) (Int.ofNat 13) ⟨12,0,vL (Bq 13)⟩ (Int.ofNat 1283) (Int.ofNat 13) ⟨4,0,vL [0,1,8,10]⟩:=by
 unfold G9
 rw[AA]
 show bb (nt (Bd (Int.ofNat 4) (0:Int))) (oo (EA (Int.tmod (Aj .i64 y) (Int.ofNat 4))) none _) none=_
 rw[hy]
 kernel_rfl
theorem iO (z:Int):Gs puB L z (Int.ofNat 4) (Int.ofNat 13) ⟨12,0,vL (Bq 13)⟩ (Int.ofNat 1283) (Int.ofNat 13) ⟨4,0,vL [0,1,8,10]⟩=Gq puB L z (Int.ofNat 13) (Int.ofNat 1283) (Int.ofNat 13) ⟨4,0,vL [0,1,8,10]⟩:=by kernel_rfl
theorem dQ:puB 9 [.agg ⟨[.int .i64 (Int.ofNat 13),Sl.v 1 ⟨4,0,vL [0,1,8,10]⟩]⟩,.int .i64 (Aj .i64 (Int.sub (Int.ofNat 13) (1:Int)))]=some (.tuple ⟨[.agg ⟨[.int .i64 (Int.ofNat 13),Sl.v 1 ⟨4,0,vL [0,3,5,12]⟩]⟩,.int .i64 (0:Int)]⟩):=by kernel_rfl
theorem X9:puB 10 [.agg ⟨[.int .i64 (Int.ofNat 13),Sl.v 1 ⟨4,0,vL [0,3,5,12]⟩]⟩]=some (.tuple ⟨[.bool true,.int .i64 (0:Int)]⟩):=by kernel_rfl
theorem iR (z:Int) (t:Nat) (h:puB 13 [.int .i64 (Int.ofNat 13),.int .u32 (Int.ofNat 1283),.int .i64 (1:Int),.int .i64 (Aj .i64 z)]=some (U t)):Gq puB L z (Int.ofNat 13) (Int.ofNat 1283) (Int.ofNat 13) ⟨4,0,vL [0,1,8,10]⟩=G5 puB L true (0:Int) (Int.ofNat 13) (Int.ofNat 1283) (U t):=by
 unfold Gq
 rw[dQ,Ac,FW,Ac,Dj,Dj,EG,RL,Ac,Dj,Dj,EG,BP,Ac,Dc,Ac,BP,Ac,show nt (Bd (0:Int) (0:Int))=false from rfl,AA,X9,Ac,FW,Ac,Dj,Dj,EG,BU,Ac,BP,Ac,h,Ac]
 rfl
theorem iT:AP (fun b=>G5 puB L true (0:Int) (Int.ofNat 13) (Int.ofNat 1283) (U (Bn 13 1283 b))) (List.range 13)=AP (fun _=>some (.bool true)) (List.range 13):=by kernel_rfl
theorem dR (z:Int) (h1:0≤z) (h2:z < 256):Gs puB L z (Int.ofNat 4) (Int.ofNat 13) ⟨12,0,vL (Bq 13)⟩ (Int.ofNat 1283) (Int.ofNat 13) ⟨4,0,vL [0,1,8,10]⟩=some (.bool true):=by
 have e:Aj .i64 z=z:=Oe z (by omega) (by omega)
 have h13:=FD 28 (n:=13) (s:=1283) (by decide) (by decide) (by decide) (b:=z) (by omega) (by omega)
 have hlt:=FM (n:=13) (by decide) z
 rw[iO,iR z (Bn 13 1283 (Gp 13 z)) (by rw[e,eB 13 rfl rfl rfl rfl rfl rfl];exact h13)]
 exact Hw iT _ (List.mem_range.2 hlt)
theorem wP (x y z:Int) (hx:Aj .i64 (Int.add (2:Int) (Int.tmod (Aj .i64 x) (4:Int)))=Int.ofNat 4) (hy0:0≤y) (hy1:y < 256) (h1:0≤z) (h2:z < 256):YB puB L x y z=some (.bool true):=by
 have e:Aj .i64 y=y:=Oe y (by omega) (by omega)
 have ht:Int.tmod (Aj .i64 y) (Int.ofNat 4)=Int.ofNat (y.toNat % 4):=by
  rw[e,show y=((y.toNat:Nat):Int) by omega];rfl
 have hl:y.toNat % 4 < 4:=Nat.mod_lt _ (by decide)
 unfold YB
 rw[hx,AeI,AeJ puB y z _ AeE]
 generalize y.toNat % 4=i at ht hl
 have hi:i=0∨i=1∨i=2∨i=3:=by omega
 rcases hi with rfl | rfl | rfl | rfl
 ·rw[iB puB y z ht];exact cZ z h1 h2
 ·rw[iF puB y z ht];exact dB z h1 h2
 ·rw[iJ puB y z ht];exact dP z h1 h2
 ·rw[iN puB y z ht];exact dR z h1 h2
theorem AeK (pu:Af) (y z:Int):O1 pu L L y z (Int.ofNat 5) (Aj .i64 (Int.add (Aj .i64 (Int.mul (Int.ofNat 5) (Aj .i64 (Int.sub (Int.ofNat 5) (1:Int))))) (1:Int))) 0 0 (Aj .i64 (Int.sub (Aj .i64 (Int.add (Aj .i64 (Int.mul (Int.ofNat 5) (Aj .i64 (Int.sub (Int.ofNat 5) (1:Int))))) (1:Int))) (1:Int))) (0:Int) ([]:List Value)=LU pu L y z (Int.ofNat 5) (Int.ofNat 21) 20 (2*20+bb false 1 0) (vL (Bq 21)):=by kernel_rfl
theorem AeL (pu:Af) (y z:Int) (c:Nat) (h:pu 4 [IV (Int.ofNat 21),Sl.v 1 ⟨20,0,vL (Bq 21)⟩]=some (Xa 21 0 (z0 VU) 0)):LU pu L y z (Int.ofNat 5) (Int.ofNat 21) 20 c (vL (Bq 21))=G9 pu L y z (Int.ofNat 5) (Int.ofNat 21) ⟨20,0,vL (Bq 21)⟩ ⟨2,0,qW 21 (z0 VU)⟩ false:=by
 have h':pu 4 [.int .i64 (Int.ofNat 21),Sl.v 1 (Sl.mk 20 0 (Aq (20*1) (Am 0 (vL (Bq 21)))))]=_:=h
 unfold LU
 rw[show an (Nat.ble (0+20*1) (len (vL (Bq 21)))) (Au Ah (Aq (20*1) (Am 0 (vL (Bq 21)))))=true from by kernel_rfl,Ak,h',Ac]
 show _=_
 kernel_rfl
theorem iU (pu:Af) (y z:Int) (hy:Int.tmod (Aj .i64 y) (Int.ofNat 2)=Int.ofNat 0):G9 pu L y z (Int.ofNat 5) (Int.ofNat 21) ⟨20,0,vL (Bq 21)⟩ ⟨2,0,qW 21 (z0 VU)⟩ false=Gs pu L z (Int.ofNat 5) (Int.ofNat 21) ⟨20,0,vL (Bq 21)⟩ (Int.ofNat 81939) (Int.ofNat 21) ⟨5,0,vL [0,1,4,14,16]⟩:=by
 unfold G9
 rw[AA]
 show bb (nt (Bd (Int.ofNat 2) (0:Int))) (oo (EA (Int.tmod (Aj .i64 y) (Int.ofNat 2))) none _) none=_
 rw[hy]
 kernel_rfl
theorem iV (z:Int):Gs puB L z (Int.ofNat 5) (Int.ofNat 21) ⟨20,0,vL (Bq 21)⟩ (Int.ofNat 81939) (Int.ofNat 21) ⟨5,0,vL [0,1,4,14,16]⟩=Gq puB L z (Int.ofNat 21) (Int.ofNat 81939) (Int.ofNat 21) ⟨5,0,vL [0,1,4,14,16]⟩:=by kernel_rfl
theorem dS:puB 9 [.agg ⟨[.int .i64 (Int.ofNat 21),Sl.v 1 ⟨5,0,vL [0,1,4,14,16]⟩]⟩,.int .i64 (Aj .i64 (Int.sub (Int.ofNat 21) (1:Int)))]=some (.tuple ⟨[.agg ⟨[.int .i64 (Int.ofNat 21),Sl.v 1 ⟨5,0,vL [0,5,7,17,20]⟩]⟩,.int .i64 (0:Int)]⟩):=by kernel_rfl
theorem Ya:puB 10 [.agg ⟨[.int .i64 (Int.ofNat 21),Sl.v 1 ⟨5,0,vL [0,5,7,17,20]⟩]⟩]=some (.tuple ⟨[.bool true,.int .i64 (0:Int)]⟩):=by kernel_rfl
theorem iW (z:Int) (t:Nat) (h:puB 13 [.int .i64 (Int.ofNat 21),.int .u32 (Int.ofNat 81939),.int .i64 (1:Int),.int .i64 (Aj .i64 z)]=some (U t)):Gq puB L z (Int.ofNat 21) (Int.ofNat 81939) (Int.ofNat 21) ⟨5,0,vL [0,1,4,14,16]⟩=G5 puB L true (0:Int) (Int.ofNat 21) (Int.ofNat 81939) (U t):=by
 unfold Gq
 rw[dS,Ac,FW,Ac,Dj,Dj,EG,RL,Ac,Dj,Dj,EG,BP,Ac,Dc,Ac,BP,Ac,show nt (Bd (0:Int) (0:Int))=false from rfl,AA,Ya,Ac,FW,Ac,Dj,Dj,EG,BU,Ac,BP,Ac,h,Ac]
 rfl
theorem iX:AP (fun b=>G5 puB L true (0:Int) (Int.ofNat 21) (Int.ofNat 81939) (U (Bn 21 81939 b))) (List.range 21)=AP (fun _=>some (.bool true)) (List.range 21):=by kernel_rfl
theorem dU (z:Int) (h1:0≤z) (h2:z < 256):Gs puB L z (Int.ofNat 5) (Int.ofNat 21) ⟨20,0,vL (Bq 21)⟩ (Int.ofNat 81939) (Int.ofNat 21) ⟨5,0,vL [0,1,4,14,16]⟩=some (.bool true):=by
 have e:Aj .i64 z=z:=Oe z (by omega) (by omega)
 have h13:=FD 28 (n:=21) (s:=81939) (by decide) (by decide) (by decide) (b:=z) (by omega) (by omega)
 have hlt:=FM (n:=21) (by decide) z
 rw[iV,iW z (Bn 21 81939 (Gp 21 z)) (by rw[e,eB 13 rfl rfl rfl rfl rfl rfl];exact h13)]
 exact Hw iX _ (List.mem_range.2 hlt)
theorem iY (pu:Af) (y z:Int) (hy:Int.tmod (Aj .i64 y) (Int.ofNat 2)=Int.ofNat 1):G9 pu L y z (Int.ofNat 5) (Int.ofNat 21) ⟨20,0,vL (Bq 21)⟩ ⟨2,0,qW 21 (z0 VU)⟩ false=Gs pu L z (Int.ofNat 5) (Int.ofNat 21) ⟨20,0,vL (Bq 21)⟩ (Int.ofNat 262467) (Int.ofNat 21) ⟨5,0,vL [0,1,6,8,18]⟩:=by
 unfold G9
 rw[AA]
 show bb (nt (Bd (Int.ofNat 2) (0:Int))) (oo (EA (Int.tmod (Aj .i64 y) (Int.ofNat 2))) none _) none=_
 rw[hy]
 kernel_rfl
theorem iZ (z:Int):Gs puB L z (Int.ofNat 5) (Int.ofNat 21) ⟨20,0,vL (Bq 21)⟩ (Int.ofNat 262467) (Int.ofNat 21) ⟨5,0,vL [0,1,6,8,18]⟩=Gq puB L z (Int.ofNat 21) (Int.ofNat 262467) (Int.ofNat 21) ⟨5,0,vL [0,1,6,8,18]⟩:=by kernel_rfl
theorem dV:puB 9 [.agg ⟨[.int .i64 (Int.ofNat 21),Sl.v 1 ⟨5,0,vL [0,1,6,8,18]⟩]⟩,.int .i64 (Aj .i64 (Int.sub (Int.ofNat 21) (1:Int)))]=some (.tuple ⟨[.agg ⟨[.int .i64 (Int.ofNat 21),Sl.v 1 ⟨5,0,vL [0,3,13,15,20]⟩]⟩,.int .i64 (0:Int)]⟩):=by kernel_rfl
theorem Yb:puB 10 [.agg ⟨[.int .i64 (Int.ofNat 21),Sl.v 1 ⟨5,0,vL [0,3,13,15,20]⟩]⟩]=some (.tuple ⟨[.bool true,.int .i64 (0:Int)]⟩):=by kernel_rfl
theorem jA (z:Int) (t:Nat) (h:puB 13 [.int .i64 (Int.ofNat 21),.int .u32 (Int.ofNat 262467),.int .i64 (1:Int),.int .i64 (Aj .i64 z)]=some (U t)):Gq puB L z (Int.ofNat 21) (Int.ofNat 262467) (Int.ofNat 21) ⟨5,0,vL [0,1,6,8,18]⟩=G5 puB L true (0:Int) (Int.ofNat 21) (Int.ofNat 262467) (U t):=by
 unfold Gq
 rw[dV,Ac,FW,Ac,Dj,Dj,EG,RL,Ac,Dj,Dj,EG,BP,Ac,Dc,Ac,BP,Ac,show nt (Bd (0:Int) (0:Int))=false from rfl,AA,Yb,Ac,FW,Ac,Dj,Dj,EG,BU,Ac,BP,Ac,h,Ac]
 rfl
theorem jC:AP (fun b=>G5 puB L true (0:Int) (Int.ofNat 21) (Int.ofNat 262467) (U (Bn 21 262467 b))) (List.range 21)=AP (fun _=>some (.bool true)) (List.range 21):=by kernel_rfl
theorem dX (z:Int) (h1:0≤z) (h2:z < 256):Gs puB L z (Int.ofNat 5) (Int.ofNat 21) ⟨20,0,vL (Bq 21)⟩ (Int.ofNat 262467) (Int.ofNat 21) ⟨5,0,vL [0,1,6,8,18]⟩=some (.bool true):=by
 have e:Aj .i64 z=z:=Oe z (by omega) (by omega)
 have h13:=FD 28 (n:=21) (s:=262467) (by decide) (by decide) (by decide) (b:=z) (by omega) (by omega)
 have hlt:=FM (n:=21) (by decide) z
 rw[iZ,jA z (Bn 21 262467 (Gp 21 z)) (by rw[e,eB 13 rfl rfl rfl rfl rfl rfl];exact h13)]
 exact Hw jC _ (List.mem_range.2 hlt)
theorem wQ (x y z:Int) (hx:Aj .i64 (Int.add (2:Int) (Int.tmod (Aj .i64 x) (4:Int)))=Int.ofNat 5) (hy0:0≤y) (hy1:y < 256) (h1:0≤z) (h2:z < 256):YB puB L x y z=some (.bool true):=by
 have e:Aj .i64 y=y:=Oe y (by omega) (by omega)
 have ht:Int.tmod (Aj .i64 y) (Int.ofNat 2)=Int.ofNat (y.toNat % 2):=by
  rw[e,show y=((y.toNat:Nat):Int) by omega];rfl
 have hl:y.toNat % 2 < 2:=Nat.mod_lt _ (by decide)
 unfold YB
 rw[hx,AeK,AeL puB y z _ AeF]
 generalize y.toNat % 2=i at ht hl
 have hi:i=0∨i=1:=by omega
 rcases hi with rfl | rfl
 ·rw[iU puB y z ht];exact dU z h1 h2
 ·rw[iY puB y z ht];exact dX z h1 h2
theorem hall_law (x y z:Int) (hx0:0≤x) (hx1:x < 256) (hy0:0≤y) (hy1:y < 256) (h1:0≤z) (h2:z < 256):m3 puB L [.int .u8 x,.int .u8 y,.int .u8 z]=some (.bool true):=by
 show YB puB L x y z=_
 have e:Aj .i64 x=x:=Oe x (by omega) (by omega)
 have ht:Int.tmod (Aj .i64 x) (4:Int)=Int.ofNat (x.toNat % 4):=by
  rw[e,show x=((x.toNat:Nat):Int) by omega];rfl
 have hl:x.toNat % 4 < 4:=Nat.mod_lt _ (by decide)
 have hk:∀ i,x.toNat % 4=i→Aj .i64 (Int.add (2:Int) (Int.tmod (Aj .i64 x) (4:Int)))=Int.ofNat (2+i):=fun i hi=>by
  rw[ht,hi]
  have e:Int.add (2:Int) (Int.ofNat i)=Int.ofNat (2+i):=by show (2:Int)+(i:Int)=((2+i:Nat):Int);omega
  rw[e];exact Oe _ (by show _≤((2+i:Nat):Int);omega) (by show ((2+i:Nat):Int)≤_;omega)
 have hi:x.toNat % 4=0∨x.toNat % 4=1∨x.toNat % 4=2∨x.toNat % 4=3:=by omega
 rcases hi with h | h | h | h
 ·exact AeG x y z (hk 0 h) hy0 hy1 h1 h2
 ·exact AeH x y z (hk 1 h) hy0 hy1 h1 h2
 ·exact wP x y z (hk 2 h) hy0 hy1 h1 h2
 ·exact wQ x y z (hk 3 h) hy0 hy1 h1 h2
end Go.RgP
