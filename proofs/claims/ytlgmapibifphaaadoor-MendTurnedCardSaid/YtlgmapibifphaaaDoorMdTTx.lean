/- What the program says of a tray; a tray by numbers. -/
import Derived.Test.YtlgmapibifphaaaDoorMdTPx

set_option maxRecDepth 100000
set_option maxHeartbeats 4000000
namespace Go.MdTM
open Go.Sp Go.MdT Go.MdM Go.MdV
theorem q30 (k:Nat) (args:List Value):Fh (k+1) 30 args=kU (Fh k) L args:=by kernel_rfl
theorem zO (pu:Af) (fl fl':Nat) (k:Int) (h w:List Int):kU pu L [tr fl fl' k h w]=WF pu L k (sl fl h) (sl fl' w):=by kernel_rfl
theorem q16 (k:Nat) (args:List Value):Fh (k+1) 16 args=kS (Fh k) L args:=by kernel_rfl
theorem zP (pu:Af) (fl fl':Nat) (k:Int) (h w:List Int):kS pu L [tr fl fl' k h w]=WE pu L k (sl fl h) (sl fl' w):=by kernel_rfl
theorem jJ (k:Nat) (args:List Value):Fh (k+1) 10290 args=JN (Fh k) L args:=by kernel_rfl
theorem Xc (pu:Af) (fl fl':Nat) (k:Int) (h w:List Int):JN pu L [tr fl fl' k h w]=Ji pu L k (sl fl h) (sl fl' w):=by kernel_rfl
theorem xQ:nt (Bd (0:Int) 0)=false:=rfl
theorem p30 (n fl fl':Nat) {K:Nat} {h w:List Int} (t:Gv K h w):Fh (n+4) 30 [tr fl fl' K h w]=some (.tuple ⟨[I (Int.ofNat (inv (Kc h w []))),I 0]⟩):=by
 rw[q30,zO]
 have e1:=p47 (n+1) fl fl' K h w
 rw[t.chk] at e1
 have e2:=p58 (n+2) fl fl' K h w t.chk
 have hl:(Kc h w []).length < 50:=by rw[RO];have:=t.n10;have:=t.len;omega
 have e3:=l30 (Fh (n+3)) L (by show 100≤1000000;omega) (Kc h w []) hl L 0 0 (by show _ < 1000000;omega) (by omega) (by omega)
 unfold tr S at e1 e2
 unfold WF
 simp -implicitDefEqProofs only [e1,e2,Ac,BP,xQ,AA,Dc,I4]
 rw[List.drop_zero,Nat.zero_add] at e3
 exact e3
theorem p16 (n fl fl':Nat) {K:Nat} {h w:List Int} (t:Gv K h w):Fh (n+30) 16 [tr fl fl' K h w]=some (.tuple ⟨[Sl.v 1 (LL 0 (C8 h w)),I 0]⟩):=by
 rw[q16,zP]
 have o:=t.ok
 have e1:=p47 (n+27) fl fl' K h w
 rw[t.chk] at e1
 have e2:=p48 fl fl' K h w o.n10 o.len o.kh o.kw (n+2) (QL o.len t.ih t.iw o.ev)
 unfold tr S at e1 e2
 unfold WE
 simp -implicitDefEqProofs only [e1,e2,Ac,BP,xQ,AA,Dc]
theorem Oi (n fl fl':Nat) {K:Nat} {h w:List Int} (t:Gv K h w):Fh (n+16) 10290 [tr fl fl' K h w]=some (.tuple ⟨[.tuple ⟨[I (CY h w),I 0]⟩]⟩):=by
 rw[jJ,Xc]
 have o:=t.ok
 have e1:=p47 (n+13) fl fl' K h w
 rw[t.chk] at e1
 have e2:=p44 (n+1) fl fl' K h w o.n10 o.len o.kh o.kw
 unfold tr S at e1 e2
 unfold Ji
 simp -implicitDefEqProofs only [e1,e2,Ac,BP,xQ,AA]
theorem KZ {y:Int} (h:0≤y∧y < 256) {m:Nat} (hm:0 < m):∃ A,A < m∧Int.tmod (Aj .i64 y) (.ofNat m) = .ofNat A:=by
 obtain⟨a,rfl⟩:=Int.eq_ofNat_of_zero_le h.1
 rw[Oe _ (by omega) (by omega)]
 exact⟨a % m,Nat.mod_lt _ hm,rfl⟩
theorem nz {m:Nat} (hm:0 < m):nt (Bd (Int.ofNat m) 0)=true:=by
 have:Bd (Int.ofNat m) 0=false:=by rw[Lr];simp;omega
 rw[this];rfl
theorem PK (l:List Int):Au Ah (l.map I)=true:=by rw[Bh,kL]
theorem Ue (l:List Int) (x:Int):Br (Am 0 (l.map I)) [I x]=(l++[x]).map I:=by simp
theorem wV {a b:Nat} (h:a < b):an (Nat.blt a b) true=true:=by rw[CF,blt_eq,decide_eq_true h];rfl
theorem Xd {a:Nat} (h:a≠0):Nat.beq a 0=false:=by
 cases a with
 | zero=>exact absurd rfl h
 | succ a=>rfl
section
variable (pu:Af) (m:Nat) (q:List Value) (x:Nat→Int) (hq:∀ i,i < 22→AL q i=some (.int .u8 (x i))) (hc:Au Ah q=true) (hx:∀ i,0≤x i∧x i < 256)
include hq hc hx
theorem Ou {K N:Nat} (hK:0 < K) (hN:N≤9):∀ (d w i:Nat) (W:List Int),i+d=N→d < w→W.length=i→I9 K W →
 ∃ W',W'.length=N∧I9 K W'∧OE pu m w W.length (2*W.length) (.ofNat N) (.ofNat i) q 0 (.ofNat K) W.length (2*W.length) (W.map I) (W.map I)=OD pu m W'.length (2*W'.length) q 0 (.ofNat K) W'.length (2*W'.length) (W'.map I) (W'.map I)
 | _,0,_,_,_,h,_,_=>by omega
 | 0, w + 1, i, W, hi, _, hW, hk => by
  refine⟨W,by omega,hk,?_⟩
  show L6 pu m (OE pu m w) W.length (2*W.length) (.ofNat N) (.ofNat i) q 0 (.ofNat K) W.length (2*W.length) (W.map I) (W.map I)=_
  unfold L6
  rw[hc,PK,Ak,Ak,Ak,FL (by omega:¬ i < N),AA]
 | d + 1, w + 1, i, W, hi, hw, hW, hk => by
  have h1:i < N:=by omega
  obtain⟨A,hA,eA⟩:=KZ (hx (2+i)) hK
  have hg:AL q (2+i*1)=some (.int .u8 (x (2+i))):=by rw[Nat.mul_one];exact hq _ (by omega)
  have gW:=I8 W (by omega)
  have hget:AL ((W++[Int.ofNat A]).map I) (0+i*1)=some (I (Int.ofNat A)):=by
   rw[BZ,Nat.zero_add,Nat.mul_one,Aja _ i (by simp;omega)]
   simp[←hW]
  obtain⟨W',w1,w2,w3⟩:=Ou hK hN d w (i+1) (W++[Int.ofNat A]) (by omega) (by omega) (by simp[hW]) (fun z hz=>by
   rcases List.mem_append.1 hz with hz | hz
   ·exact hk z hz
   ·rw[List.mem_singleton.1 hz];exact⟨Int.natCast_nonneg A,Int.ofNat_lt.2 hA⟩)
  refine⟨W',w1,w2,?_⟩
  rw[←w3]
  show L6 pu m (OE pu m w) W.length (2*W.length) (.ofNat N) (.ofNat i) q 0 (.ofNat K) W.length (2*W.length) (W.map I) (W.map I)=_
  unfold L6
  simp only[hc,PK,Ak,FD h1,Cx,Ac,show Nat.blt i 10=true from by rw[blt_eq];simp;omega,hg,show Bi .u8 (.int .u8 (x (2+i)))=some (x (2+i)) from rfl,nz hK,eA,gW,Ue,wV (show i < W.length+1 from by omega),hget,BP,DC i (by omega),AA,Nat.add_zero,List.length_append,List.length_singleton]
theorem RQ {K:Nat} (wn wc:Nat) (wq:List Value) (hwq:Au Ah wq=true):∀ (d w i c:Nat) (E H:List Int),E.length=d→d < w→E.length+i≤9→H.length≤i→E.length≤c / 2 →
 ∃ H',(H++E).Perm H'∧OC pu m w E.length c (.ofNat i) q 0 (.ofNat K) H.length (2*H.length) wn wc (E.map I) (H.map I) wq=OB pu m 0 (.ofNat K) H'.length (2*H'.length) wn wc (H'.map I) wq
 | _,0,_,_,_,_,_,h,_,_,_=>by omega
 | 0, w + 1, i, c, E, H, hE, _, _, _, _ => by
  obtain rfl:=List.eq_nil_of_length_eq_zero hE
  refine⟨H,by simp,?_⟩
  show LZ pu m (OC pu m w) 0 c (.ofNat i) q 0 (.ofNat K) H.length (2*H.length) wn wc ([].map I) (H.map I) wq=_
  unfold LZ
  rw[hc,PK,hwq,Ak,Ak,PK,Ak,Ak,show AY 0 (Int.ofNat 0)=false from rfl,AA]
 | d + 1, w + 1, i, c, E, H, hE, hw, hi, hH, hcc => by
  have hn:0 < E.length:=by omega
  obtain⟨kk,hkk,ek⟩:=KZ (hx (12+i)) hn
  have hg:AL q (12+i*1)=some (.int .u8 (x (12+i))):=by rw[Nat.mul_one];exact hq _ (by omega)
  have gH:=I8 H (by omega)
  have hget:AL (E.map I) (kk*1)=some (I E[kk]):=by rw[BZ,Nat.mul_one,Aja E kk hkk]
  have hw1:Aj .i64 (Int.add (Int.ofNat kk) 1)=Int.ofNat (kk+1):=DC kk (by omega)
  have t1:Aq (kk*1) (Am 0 (E.map I))=(E.take kk).map I:=by rw[Cg,Bz,List.drop_zero,Nat.mul_one,List.map_take]
  have t1':Aq (kk*1) ((E.take kk).map I)=(E.take kk).map I:=by rw[Cg,Nat.mul_one,List.take_of_length_le (by simp;omega)]
  have t2:Aq ((E.length - (kk+1))*1) (Am ((kk+1)*1) (E.map I))=(E.drop (kk+1)).map I:=by
   rw[Cg,Bz,Nat.mul_one,Nat.mul_one,List.map_drop,List.take_of_length_le (by simp)]
  have t2':Aq ((E.length - (kk+1))*1) ((E.drop (kk+1)).map I)=(E.drop (kk+1)).map I:=by rw[Cg,Nat.mul_one,List.take_of_length_le (by simp)]
  have hlen:(E.take kk++E.drop (kk+1)).length=E.length - 1:=by simp;omega
  have hperm:(H++E).Perm ((H++[E[kk]])++(E.take kk++E.drop (kk+1))):=by
   have e:E=E.take kk++E[kk]::E.drop (kk+1):=by rw[←List.drop_eq_getElem_cons hkk,List.take_append_drop]
   rw[List.append_assoc]
   refine List.Perm.append_left H ?_
   have:(E.take kk++E[kk]::E.drop (kk+1)).Perm (E[kk]::(E.take kk++E.drop (kk+1))):=List.perm_middle
   rw[←e] at this
   exact this
  have ih:=fun c' (h:E.length - 1≤c' / 2)=>RQ (K:=K) wn wc wq hwq d w (i+1) c' (E.take kk++E.drop (kk+1)) (H++[E[kk]]) (by omega) (by omega) (by omega) (by simp;omega) (by rw[hlen];exact h)
  have hL:(H++[E[kk]]).length=H.length+1:=by simp
  show ∃ H',_∧LZ pu m (OC pu m w) E.length c (.ofNat i) q 0 (.ofNat K) H.length (2*H.length) wn wc (E.map I) (H.map I) wq=_
  unfold LZ
  simp only[hc,hwq,PK,Ak,show AY 0 (Int.ofNat E.length)=true from FD hn,Cx,Ac,show Nat.blt i 10=true from by rw[blt_eq];simp;omega,hg,show Bi .u8 (.int .u8 (x (12+i)))=some (x (12+i)) from rfl,nz hn,ek,wV hkk,hget,BP,gH,Ue,show Nat.ble kk (c / 2)=true from by rw[ble_eq];simp;omega,hw1,show Nat.ble (kk+1) E.length=true from by rw[ble_eq];simp;omega,show Nat.ble (kk*1) (len (E.map I))=true from by rw[ble_eq,AV];simp;omega,show Nat.ble ((kk+1)*1+(E.length - (kk+1))*1) (len (E.map I))=true from by rw[ble_eq,AV];simp;omega,t1,t2,t1',t2',DC i (by omega),AA,Nat.add_zero,Nat.zero_add]
  by_cases k0:kk=0
  ·by_cases r0:E.length - (kk+1)=0
   ·obtain⟨H',p1,p2⟩:=ih 1 (by omega)
    refine⟨H',hperm.trans p1,?_⟩
    have e0:E.take kk++E.drop (kk+1)=[]:=List.eq_nil_of_length_eq_zero (by omega)
    rw[e0,hL] at p2
    rw[←p2,show Nat.beq kk 0=true from by rw[k0];rfl,show Nat.beq (E.length - (kk+1)) 0=true from by rw[r0];rfl,Ak,Ak]
    rfl
   ·obtain⟨H',p1,p2⟩:=ih (2*(E.length - (kk+1))) (by omega)
    refine⟨H',hperm.trans p1,?_⟩
    rw[hlen,hL] at p2
    have e0:E.take kk=[]:=by rw[k0];rfl
    rw[e0,List.nil_append,show E.length - 1=E.length - (kk+1) from by omega] at p2
    rw[←p2,show Nat.beq kk 0=true from by rw[k0];rfl,Xd (show E.length - (kk+1)≠0 from by omega),Ak,AA,MU (by omega),Ak]
  ·by_cases r0:E.length - (kk+1)=0
   ·obtain⟨H',p1,p2⟩:=ih (2*kk) (by omega)
    refine⟨H',hperm.trans p1,?_⟩
    rw[hlen,hL] at p2
    have e0:E.drop (kk+1)=[]:=List.drop_eq_nil_of_le (by omega)
    rw[e0,List.append_nil,show E.length - 1=kk from by omega] at p2
    rw[←p2,Xd (show kk≠0 from by omega),show Nat.beq (E.length - (kk+1)) 0=true from by rw[r0];rfl,Ak,AA,MU (by omega),Ak,Ak]
   ·obtain⟨H',p1,p2⟩:=ih (2*(kk+(E.length - (kk+1)))) (by omega)
    refine⟨H',hperm.trans p1,?_⟩
    rw[hlen,hL] at p2
    have ea:Br (Am 0 ((E.take kk).map I)) ((E.drop (kk+1)).map I)=(E.take kk++E.drop (kk+1)).map I:=by simp
    have es:Au D6 ((E.drop (kk+1)).map I)=true:=by
     rw[Bh,List.all_eq_true]
     intro v hv
     obtain⟨z,_,rfl⟩:=List.mem_map.1 hv
     rfl
    have hk1:(E.take kk).length=kk:=by simp;omega
    have gg:GV 1 8 kk (2*kk) (E.length - (kk+1)) ((E.take kk).map I)=true:=by
     have:=Yl 1 8 kk (E.length - (kk+1)) ((E.take kk).map I) (MU (by omega)) (by omega) (by simp;omega)
     exact this
    rw[show E.length - 1=kk+(E.length - (kk+1)) from by omega] at p2
    rw[←p2,Xd (show kk≠0 from by omega),Xd (show E.length - (kk+1)≠0 from by omega),AA,AA,MU (by omega),Ak,es,gg,show an true true=true from rfl,Ak,ea,PK,Ak]
end
end Go.MdTM
set_option maxRecDepth 100000
set_option maxHeartbeats 4000000
namespace Go.MdTM
open Go.Sp Go.MdT Go.MdM Go.MdV
theorem q21 (k:Nat) (args:List Value):Fh (k+1) 21 args=kT (Fh k) L args:=by kernel_rfl
theorem Yn (A:Nat) (hA:A < 1000):Aj .i64 (Int.add 1 (Int.ofNat A))=Int.ofNat (A+1):=by
 have e:Int.add 1 (Int.ofNat A)=((A+1:Nat):Int):=by show (1:Int)+(A:Int)=_;omega
 rw[e];exact Oe _ (by omega) (by omega)
theorem Uf (A B:Nat) (h:A+B < 100000):Aj .i64 (Int.add (Int.ofNat A) (Int.ofNat B))=Int.ofNat (A+B):=by
 have e:Int.add (Int.ofNat A) (Int.ofNat B)=((A+B:Nat):Int):=by show (A:Int)+(B:Int)=_;omega
 rw[e];exact Oe _ (by omega) (by omega)
theorem Ps (A:Nat) (h:A < 100000):Aj .i64 (Int.ofNat A)=Int.ofNat A:=Oe _ (by show -9223372036854775808≤(A:Int);omega) (by show (A:Int)≤9223372036854775807;omega)
theorem Xe (n:Nat) (q:List Value) (x:Nat→Int) (hl:len q=22) (hq:∀ i,i < 22→AL q i=some (.int .u8 (x i))) (hc:Au Ah q=true) (hx:∀ i,0≤x i∧x i < 256) :
 ∃ K h w,Fh (n+1) 21 [.agg ⟨q⟩,I 9,I 5]=some (tr 0 0 (K:Nat) h w)∧Gv K h w∧h.length≤9:=by
 rw[q21]
 obtain⟨A,hA,eA⟩:=KZ (hx 1) (show 0 < 9 from by omega)
 obtain⟨B,hB,eB⟩:=KZ (hx 0) (show 0 < 5 from by omega)
 obtain⟨W,w1,w2,w3⟩:=Ou (Fh n) L q x hq hc hx (K:=B+1) (N:=A+1) (by omega) (by omega) (A+1) L 0 [] (by omega) (by show _ < 1000000;omega) rfl (fun z hz=>by cases hz)
 obtain⟨H,p1,p2⟩:=RQ (Fh n) L q x hq hc hx (K:=B+1) W.length (2*W.length) (W.map I) (PK W) W.length L 0 (2*W.length) W [] rfl (by show _ < 1000000;omega) (by omega) (Nat.le_refl _) (by omega)
 rw[List.nil_append] at p1
 have hHl:=p1.length_eq
 refine⟨B+1,H,W,?_,⟨by omega,by omega,by omega,by omega,by omega,fun z hz=>w2 z (p1.symm.subset hz),w2,fun v=>(p1.count_eq v).symm⟩,by omega⟩
 have e0:kT (Fh n) L [.agg ⟨q⟩,I 9,I 5]=UN (Fh n) L q 9 5:=by
  show bb (an (Nat.beq (len q) 22) (Au Ah q)) (UN (Fh n) L q 9 5) none=_
  rw[hl,hc];rfl
 rw[e0]
 unfold UN
 simp only[hc,Ak,hq 0 (by omega),hq 1 (by omega),Ac,show Bi .u8 (.int .u8 (x 0))=some (x 0) from rfl,show Bi .u8 (.int .u8 (x 1))=some (x 1) from rfl,show nt (Bd (5:Int) 0)=true from rfl,show nt (Bd (9:Int) 0)=true from rfl,show (9:Int)=Int.ofNat 9 from rfl,show (5:Int)=Int.ofNat 5 from rfl,eA,eB,Yn A (by omega),Yn B (by omega)]
 refine Eq.trans w3 ?_
 unfold OD
 rw[hc,PK,Ak,Ak,Ak]
 refine Eq.trans p2 ?_
 unfold OB
 simp only[PK,Ak,R5 H H.length rfl,R5 W W.length rfl,show an (Nat.ble (0+H.length*1) (len (H.map I))) true=true from by rw[CF,ble_eq,AV];simp,show an (Nat.ble (0+W.length*1) (len (W.map I))) true=true from by rw[CF,ble_eq,AV];simp]
 rfl
noncomputable def gm (c:Nat) (x:Int):Int:=@ite _ (x=Int.ofNat c) (Classical.propDecidable _) 0 x
theorem Ug {x y:Int} (h:x=y):Bd x y=true:=by rw[Lr,h];simp
theorem Wt {x y:Int} (h:x≠y):Bd x y=false:=by rw[Lr];simpa using h
section
variable (pu:Af) (m P D O K N:Nat) (s1 s2 s3 s4:Sl) (nT cT nU cU:Nat)
variable (ih0:Int→Int→Int→Int→Bool→Int→Int→Int→Sl→Sl→Int→Sl→Sl→Int→Nat→Nat→Nat→Nat→Int→Nat→Nat→Nat→Nat→Int→Nat→Nat→Nat→Nat→List Value→List Value→List Value→List Value→List Value→List Value→Option Value)
theorem mer (hK:0 < K) (hO:O < 256) (b:Bool) (x y:Int) (i:Nat) (hi:i < 1000) (nF cF nG cG:Nat) (T U F G A B:List Int) (hA:A.length < 900) (hB:B.length < 900) :
 Ul pu m ih0 (.ofNat P) (.ofNat D) (.ofNat O) (.ofNat N) b x y (.ofNat N) (.ofNat i) (.ofNat K) s1 s2 (.ofNat K) s3 s4 (.ofNat K) nT cT nU cU (.ofNat K) nF cF nG cG (.ofNat K) A.length (2*A.length) B.length (2*B.length) (T.map I) (U.map I) (F.map I) (G.map I) (A.map I) (B.map I)
 = ih0 (.ofNat P) (.ofNat D) (.ofNat O) (.ofNat N) b (.ofNat N) (.ofNat (i+1)) (.ofNat K) s1 s2 (.ofNat K) s3 s4 (.ofNat K) nT cT nU cU (.ofNat K) nF cF nG cG (.ofNat K) (A++[gm (O % K) x]).length (2*(A++[gm (O % K) x]).length) (B++[gm (O % K) y]).length (2*(B++[gm (O % K) y]).length) (T.map I) (U.map I) (F.map I) (G.map I) ((A++[gm (O % K) x]).map I) ((B++[gm (O % K) y]).map I):=by
 have e1:Int.tmod (Aj .i64 (Int.ofNat O)) (Int.ofNat K)=Int.ofNat (O % K):=by rw[Ps O (by omega)];rfl
 have last : ∀ x' y' : Int, Uj pu m ih0 (.ofNat P) (.ofNat D) (.ofNat O) (.ofNat N) b x' y' (.ofNat N) (.ofNat i) (.ofNat K) s1 s2 (.ofNat K) s3 s4 (.ofNat K) nT cT nU cU (.ofNat K) nF cF nG cG (.ofNat K) A.length (2 * A.length) B.length (2 * B.length) (T.map I) (U.map I) (F.map I) (G.map I) (A.map I) (B.map I)
  = ih0 (.ofNat P) (.ofNat D) (.ofNat O) (.ofNat N) b (.ofNat N) (.ofNat (i+1)) (.ofNat K) s1 s2 (.ofNat K) s3 s4 (.ofNat K) nT cT nU cU (.ofNat K) nF cF nG cG (.ofNat K) (A.length+1) (2*(A.length+1)) (B.length+1) (2*(B.length+1)) (T.map I) (U.map I) (F.map I) (G.map I) ((A++[x']).map I) ((B++[y']).map I):=fun x' y'=>by
  unfold Uj
  simp only[I8 A (by omega),I8 B (by omega),PK,Ak,Ue,DC i (by omega),AA,Nat.add_zero]
 have mid : ∀ x' : Int, Uk pu m ih0 (.ofNat P) (.ofNat D) (.ofNat O) (.ofNat N) b x' y (.ofNat (O % K)) (.ofNat N) (.ofNat i) (.ofNat K) s1 s2 (.ofNat K) s3 s4 (.ofNat K) nT cT nU cU (.ofNat K) nF cF nG cG (.ofNat K) A.length (2 * A.length) B.length (2 * B.length) (T.map I) (U.map I) (F.map I) (G.map I) (A.map I) (B.map I)
  = ih0 (.ofNat P) (.ofNat D) (.ofNat O) (.ofNat N) b (.ofNat N) (.ofNat (i+1)) (.ofNat K) s1 s2 (.ofNat K) s3 s4 (.ofNat K) nT cT nU cU (.ofNat K) nF cF nG cG (.ofNat K) (A.length+1) (2*(A.length+1)) (B.length+1) (2*(B.length+1)) (T.map I) (U.map I) (F.map I) (G.map I) ((A++[x']).map I) ((B++[gm (O % K) y]).map I):=fun x'=>by
  unfold Uk
  simp only[PK,Ak,last]
  unfold gm
  by_cases h:y=Int.ofNat (O % K)
  ·rw[Ug h,Ak,if_pos h]
  ·rw[Wt h,AA,if_neg h]
 unfold Ul
 simp only[nz hK,Ak,e1,Cx,Ac,PK,mid,List.length_append,List.length_singleton]
 unfold gm
 by_cases h:x=Int.ofNat (O % K)
 ·rw[Ug h,Ak,if_pos h]
 ·rw[Wt h,AA,if_neg h]
end
end Go.MdTM
set_option maxRecDepth 100000
set_option maxHeartbeats 4000000
namespace Go.MdTM
open Go.Sp Go.MdT Go.MdM Go.MdV
theorem Pt {N P i j:Nat} (hi:i < N) (hj:j < N) (h:(i+P) % N=(j+P) % N):i=j:=by
 have h1:(i+P - (j+P)) % N=0:=Nat.sub_mod_eq_zero_of_mod_eq h
 have h2:(j+P - (i+P)) % N=0:=Nat.sub_mod_eq_zero_of_mod_eq h.symm
 rw[show i+P - (j+P)=i - j from by omega,Nat.mod_eq_of_lt (by omega)] at h1
 rw[show j+P - (i+P)=j - i from by omega,Nat.mod_eq_of_lt (by omega)] at h2
 omega
def Ox (D K:Nat) (x:Int):Int:=Int.ofNat ((x.toNat+D) % K)
structure Uh (h w:List Int) (N P D K i:Nat) (T U:List Int):Prop where
 lT:T.length=N
 lU:U.length=N
 at':∀ j,j < i→fn T ((j+P) % N)=Ox D K (fn h j)∧fn U ((j+P) % N)=Ox D K (fn w j)
def RY (h w:List Int) (i:Nat) (b:Bool) (F G:List Int):Prop:=
 (b=false∧F=h.take i∧G=w.take i)∨(b=true∧1 < h.length∧∃ r,r < i∧r < h.length∧fn h r=fn w r∧F=(h.take i).eraseIdx r∧G=(w.take i).eraseIdx r)
theorem Wu {T:List Int} {k:Nat} (v:Int) (hk:k < T.length) (j:Nat):fn (T.set k v) j=if j=k then v else fn T j:=by
 unfold fn
 rw[List.getD_eq_getElem?_getD,List.getD_eq_getElem?_getD,List.getElem?_set]
 by_cases h:j=k
 ·subst h;simp[hk]
 ·rw[if_neg (fun e=>h e.symm),if_neg h]
theorem Uh.step {h w:List Int} {N P D K i:Nat} {T U:List Int} (t:Uh h w N P D K i T U) (hi:i < N):Uh h w N P D K (i+1) (T.set ((i+P) % N) (Ox D K (fn h i))) (U.set ((i+P) % N) (Ox D K (fn w i))) where
 lT:=by rw[List.length_set];exact t.lT
 lU:=by rw[List.length_set];exact t.lU
 at':=fun j hj=>by
  have hm:(i+P) % N < N:=Nat.mod_lt _ (by omega)
  rw[Wu _ (by rw[t.lT];exact hm),Wu _ (by rw[t.lU];exact hm)]
  by_cases e:j=i
  ·subst e;rw[if_pos rfl,if_pos rfl];exact⟨rfl,rfl⟩
  ·have hne:¬ (j+P) % N=(i+P) % N:=fun e2=>e (Pt (by omega) hi e2)
   rw[if_neg hne,if_neg hne]
   exact t.at' j (by omega)
theorem FN {l:List Int} {i:Nat} (h:i < l.length):l.take (i+1)=l.take i++[l[i]]:=by rw[List.take_add_one,List.getElem?_eq_getElem h];rfl
theorem RY.keep {h w:List Int} {i:Nat} {b:Bool} {F G:List Int} (f:RY h w i b F G) (hi:i < h.length) (hw:i < w.length):RY h w (i+1) b (F++[h[i]]) (G++[w[i]]):=by
 rcases f with⟨rfl,rfl,rfl⟩ | ⟨rfl,h1,r,r1,r2,r3,rfl,rfl⟩
 ·exact .inl ⟨rfl,(FN hi).symm,(FN hw).symm⟩
 ·refine .inr ⟨rfl,h1,r,by omega,r2,r3,?_,?_⟩
  ·rw[FN hi,List.eraseIdx_append_of_lt_length (by simp;omega)]
  ·rw[FN hw,List.eraseIdx_append_of_lt_length (by simp;omega)]
theorem RY.drop {h w:List Int} {i:Nat} {F G:List Int} (f:RY h w i false F G) (hi:i < h.length) (hw:i < w.length) (he:h[i]=w[i]) (h1:1 < h.length):RY h w (i+1) true F G:=by
 rcases f with⟨_,rfl,rfl⟩ | ⟨e,_⟩
 ·refine .inr ⟨rfl,h1,i,by omega,hi,by rw[Eo hi,Eo hw,he],?_,?_⟩
  ·rw[FN hi,List.eraseIdx_append_of_length_le (by simp;omega)];simp;omega
  ·rw[FN hw,List.eraseIdx_append_of_length_le (by simp;omega)];simp;omega
 ·cases e
theorem RY.len {h w:List Int} {i:Nat} {b:Bool} {F G:List Int} (f:RY h w i b F G):F.length≤i∧G.length≤i:=by
 rcases f with⟨_,rfl,rfl⟩ | ⟨_,_,r,_,_,_,rfl,rfl⟩
 ·simp;omega
 ·have:=List.length_eraseIdx_le (h.take i) r
  have:=List.length_eraseIdx_le (w.take i) r
  simp at *;omega
section
variable (pu:Af) (m P D O K N:Nat) (h w:List Int) (hl:h.length=N) (hw:w.length=N) (hN:N≤9) (hK:0 < K) (hK5:K≤5) (ih:I9 K h) (iw:I9 K w) (hP:P < 256) (hD:D < 256) (hO:O < 256) (cT cU:Nat)
include hl hw hN hK hK5 ih iw hP hD hO
theorem Ov:∀ (d g i:Nat) (b:Bool) (T U F G A B:List Int),i+d=N→d < g→Uh h w N P D K i T U→RY h w i b F G→A=(h.take i).map (gm (O % K))→B=(w.take i).map (gm (O % K)) →
 ∃ b' T' U' F' G',Uh h w N P D K N T' U'∧RY h w N b' F' G' ∧
 Ke pu m g (.ofNat P) (.ofNat D) (.ofNat O) (.ofNat N) b (.ofNat N) (.ofNat i) (.ofNat K) (sl 0 h) (sl 0 w) (.ofNat K) (sl 0 w) (sl 0 h) (.ofNat K) N cT N cU (.ofNat K) F.length (2*F.length) G.length (2*G.length) (.ofNat K) A.length (2*A.length) B.length (2*B.length) (T.map I) (U.map I) (F.map I) (G.map I) (A.map I) (B.map I)
 = Ph pu m (.ofNat K) (sl 0 h) (sl 0 w) (.ofNat K) (sl 0 w) (sl 0 h) (.ofNat K) N cT N cU (.ofNat K) F'.length (2*F'.length) G'.length (2*G'.length) (.ofNat K) (h.map (gm (O % K))).length (2*(h.map (gm (O % K))).length) (w.map (gm (O % K))).length (2*(w.map (gm (O % K))).length) (T'.map I) (U'.map I) (F'.map I) (G'.map I) ((h.map (gm (O % K))).map I) ((w.map (gm (O % K))).map I)
 | _,0,_,_,_,_,_,_,_,_,_,h,_,_,_,_=>by omega
 | 0, g + 1, i, b, T, U, F, G, A, B, hi, _, t, f, hA, hB => by
  obtain rfl:i=N:=by omega
  rw[List.take_of_length_le (by omega)] at hA hB
  subst hA hB
  refine⟨b,T,U,F,G,t,f,?_⟩
  show R4 pu m (Ke pu m g) (.ofNat P) (.ofNat D) (.ofNat O) (.ofNat i) b (.ofNat i) (.ofNat i) (.ofNat K) (sl 0 h) (sl 0 w) (.ofNat K) (sl 0 w) (sl 0 h) (.ofNat K) i cT i cU (.ofNat K) F.length (2*F.length) G.length (2*G.length) (.ofNat K) _ _ _ _ (T.map I) (U.map I) (F.map I) (G.map I) _ _=_
  unfold R4
  simp only[PK,Ak,FL (Nat.lt_irrefl i),AA]
 | d + 1, g + 1, i, b, T, U, F, G, A, B, hi, hg, t, f, hA, hB => by
  have h1:i < N:=by omega
  have hih:i < h.length:=by omega
  have hiw:i < w.length:=by omega
  have hx:=ih _ (List.getElem_mem hih)
  have hy:=iw _ (List.getElem_mem hiw)
  obtain⟨X,hX⟩:∃ X:Nat,h[i]=Int.ofNat X:=⟨h[i].toNat,(Int.toNat_of_nonneg hx.1).symm⟩
  obtain⟨Y,hY⟩:∃ Y:Nat,w[i]=Int.ofNat Y:=⟨w[i].toNat,(Int.toNat_of_nonneg hy.1).symm⟩
  have hXK:X < K:=by rw[hX] at hx;exact Int.ofNat_lt.1 hx.2
  have hYK:Y < K:=by rw[hY] at hy;exact Int.ofNat_lt.1 hy.2
  have hm:(i+P) % N < N:=Nat.mod_lt _ (by omega)
  have e1:Int.tmod (Aj .i64 (Int.add (Int.ofNat i) (Aj .i64 (Int.ofNat P)))) (Int.ofNat N)=Int.ofNat ((i+P) % N):=by rw[Ps P (by omega),Uf _ _ (by omega)];rfl
  have e2:∀ Z:Nat,Z < K→Int.tmod (Aj .i64 (Int.add (Int.ofNat Z) (Aj .i64 (Int.ofNat D)))) (Int.ofNat K)=Int.ofNat ((Z+D) % K):=fun Z hZ=>by rw[Ps D (by omega),Uf _ _ (by omega)];rfl
  have gx:AL (h.map I) (i*1)=some (I (Int.ofNat X)):=by rw[BZ,Nat.mul_one,Aja h i hih,hX]
  have gy:AL (w.map I) (i*1)=some (I (Int.ofNat Y)):=by rw[BZ,Nat.mul_one,Aja w i hiw,hY]
  have sT:BM [(.int .i64 (Int.ofNat ((X+D) % K)):Value)] (0+(i+P) % N*1) (T.map I)=(T.set ((i+P) % N) (Ox D K (fn h i))).map I:=by
   rw[Nat.zero_add,Nat.mul_one,Hw _ _ _ (by rw[List.length_map,t.lT];exact hm),List.map_set,Eo hih,hX];rfl
  have sU:BM [(.int .i64 (Int.ofNat ((Y+D) % K)):Value)] (0+(i+P) % N*1) (U.map I)=(U.set ((i+P) % N) (Ox D K (fn w i))).map I:=by
   rw[Nat.zero_add,Nat.mul_one,Hw _ _ _ (by rw[List.length_map,t.lU];exact hm),List.map_set,Eo hiw,hY];rfl
  have bT:an (Nat.ble ((0+(i+P) % N*1)+1) (len (T.map I))) true=true:=by rw[CF,ble_eq,AV,List.length_map,t.lT,decide_eq_true (by omega)];rfl
  have bU:an (Nat.ble ((0+(i+P) % N*1)+1) (len (U.map I))) true=true:=by rw[CF,ble_eq,AV,List.length_map,t.lU,decide_eq_true (by omega)];rfl
  have hA1:A++[gm (O % K) (Int.ofNat X)]=(h.take (i+1)).map (gm (O % K)):=by rw[FN hih,List.map_append,hA,hX];rfl
  have hB1:B++[gm (O % K) (Int.ofNat Y)]=(w.take (i+1)).map (gm (O % K)):=by rw[FN hiw,List.map_append,hB,hY];rfl
  have hAl:A.length < 900:=by rw[hA];simp;omega
  have hBl:B.length < 900:=by rw[hB];simp;omega
  have fl:=f.len
  have t':=t.step h1
  -- without a place
  have goDrop : RY h w (i + 1) true F G → ∃ b' T' U' F' G', Uh h w N P D K N T' U' ∧ RY h w N b' F' G' ∧
   Pi pu m (Ke pu m g) (.ofNat P) (.ofNat D) (.ofNat O) (.ofNat N) b (.ofNat X) (.ofNat Y) (.ofNat N) (.ofNat i) true (.ofNat K) (sl 0 h) (sl 0 w) (.ofNat K) (sl 0 w) (sl 0 h) (.ofNat K) N cT N cU (.ofNat K) F.length (2*F.length) G.length (2*G.length) (.ofNat K) A.length (2*A.length) B.length (2*B.length) ((T.set ((i+P) % N) (Ox D K (fn h i))).map I) ((U.set ((i+P) % N) (Ox D K (fn w i))).map I) (F.map I) (G.map I) (A.map I) (B.map I)
   = Ph pu m (.ofNat K) (sl 0 h) (sl 0 w) (.ofNat K) (sl 0 w) (sl 0 h) (.ofNat K) N cT N cU (.ofNat K) F'.length (2*F'.length) G'.length (2*G'.length) (.ofNat K) (h.map (gm (O % K))).length (2*(h.map (gm (O % K))).length) (w.map (gm (O % K))).length (2*(w.map (gm (O % K))).length) (T'.map I) (U'.map I) (F'.map I) (G'.map I) ((h.map (gm (O % K))).map I) ((w.map (gm (O % K))).map I):=fun f'=>by
   obtain⟨b',T',U',F',G',r1,r2,r3⟩:=Ov d g (i+1) true _ _ F G _ _ (by omega) (by omega) t' f' hA1 hB1
   refine⟨b',T',U',F',G',r1,r2,?_⟩
   rw[←r3]
   unfold Pi
   simp only[PK,Ak]
   exact mer pu m P D O K N (sl 0 h) (sl 0 w) (sl 0 w) (sl 0 h) N cT N cU (Ke pu m g) hK hO true (.ofNat X) (.ofNat Y) i (by omega) F.length (2*F.length) G.length (2*G.length) _ _ F G A B hAl hBl
  have goKeep : ∃ b' T' U' F' G', Uh h w N P D K N T' U' ∧ RY h w N b' F' G' ∧
   Pi pu m (Ke pu m g) (.ofNat P) (.ofNat D) (.ofNat O) (.ofNat N) b (.ofNat X) (.ofNat Y) (.ofNat N) (.ofNat i) false (.ofNat K) (sl 0 h) (sl 0 w) (.ofNat K) (sl 0 w) (sl 0 h) (.ofNat K) N cT N cU (.ofNat K) F.length (2*F.length) G.length (2*G.length) (.ofNat K) A.length (2*A.length) B.length (2*B.length) ((T.set ((i+P) % N) (Ox D K (fn h i))).map I) ((U.set ((i+P) % N) (Ox D K (fn w i))).map I) (F.map I) (G.map I) (A.map I) (B.map I)
   = Ph pu m (.ofNat K) (sl 0 h) (sl 0 w) (.ofNat K) (sl 0 w) (sl 0 h) (.ofNat K) N cT N cU (.ofNat K) F'.length (2*F'.length) G'.length (2*G'.length) (.ofNat K) (h.map (gm (O % K))).length (2*(h.map (gm (O % K))).length) (w.map (gm (O % K))).length (2*(w.map (gm (O % K))).length) (T'.map I) (U'.map I) (F'.map I) (G'.map I) ((h.map (gm (O % K))).map I) ((w.map (gm (O % K))).map I):=by
   have f':=f.keep hih hiw
   rw[hX,hY] at f'
   obtain⟨b',T',U',F',G',r1,r2,r3⟩:=Ov d g (i+1) b _ _ _ _ _ _ (by omega) (by omega) t' f' hA1 hB1
   refine⟨b',T',U',F',G',r1,r2,?_⟩
   rw[←r3]
   unfold Pi
   simp only[PK,Ak,AA,I8 F (by omega),I8 G (by omega),Ue,Nat.add_zero]
   have e:=mer pu m P D O K N (sl 0 h) (sl 0 w) (sl 0 w) (sl 0 h) N cT N cU (Ke pu m g) hK hO b (.ofNat X) (.ofNat Y) i (by omega) (F.length+1) (2*(F.length+1)) (G.length+1) (2*(G.length+1)) (T.set ((i+P) % N) (Ox D K (fn h i))) (U.set ((i+P) % N) (Ox D K (fn w i))) (F++[Int.ofNat X]) (G++[Int.ofNat Y]) A B hAl hBl
   rw[show (F++[Int.ofNat X]).length=F.length+1 from by simp,show (G++[Int.ofNat Y]).length=G.length+1 from by simp]
   exact e
  show ∃ b' T' U' F' G',_∧_∧R4 pu m (Ke pu m g) (.ofNat P) (.ofNat D) (.ofNat O) (.ofNat N) b (.ofNat N) (.ofNat i) (.ofNat K) (sl 0 h) (sl 0 w) (.ofNat K) (sl 0 w) (sl 0 h) (.ofNat K) N cT N cU (.ofNat K) F.length (2*F.length) G.length (2*G.length) (.ofNat K) A.length (2*A.length) B.length (2*B.length) (T.map I) (U.map I) (F.map I) (G.map I) (A.map I) (B.map I)=_
  unfold R4
  simp only[PK,Ak,FD h1,nz (show 0 < N from by omega),e1,Cx,Ac,I4,GX,wV hih,wV hiw,gx,gy,BP,nz hK,e2 X hXK,e2 Y hYK,wV hm,bT,bU,sT,sU]
  by_cases hxy:Int.ofNat X=Int.ofNat Y
  ·rw[Ug hxy,Ak]
   cases b with
   | true=>rw[show nt true=false from rfl,AA];exact goKeep
   | false =>
    rw[show nt false=true from rfl,Ak]
    by_cases hN1:1 < N
    ·rw[show AY (1:Int) (Int.ofNat N)=true from FD hN1]
     exact goDrop (f.drop hih hiw (by rw[hX,hY,hxy]) (by omega))
    ·rw[show AY (1:Int) (Int.ofNat N)=false from FL hN1]
     exact goKeep
  ·rw[Wt hxy,AA];exact goKeep
end
end Go.MdTM
set_option maxRecDepth 100000
set_option maxHeartbeats 4000000
namespace Go.MdTM
open Go.Sp Go.MdT Go.MdM Go.MdV
theorem Wv {X D K:Nat} (hX:X < K):((X+D) % K+(K - D % K)) % K=X:=by
 have hd:D % K < K:=Nat.mod_lt _ (by omega)
 have e:(X+D) % K=(X+D % K) % K:=by rw[Nat.add_mod,Nat.mod_eq_of_lt hX]
 rw[e]
 generalize D % K=d at *
 by_cases h:X+d < K
 ·rw[Nat.mod_eq_of_lt h,show X+d+(K - d)=X+K from by omega,Nat.add_mod_right,Nat.mod_eq_of_lt hX]
 ·have e3:(X+d) % K=X+d - K:=by rw[Nat.mod_eq_sub_mod (by omega),Nat.mod_eq_of_lt (by omega)]
  rw[e3,show X+d - K+(K - d)=X from by omega,Nat.mod_eq_of_lt hX]
theorem RS {j P N:Nat} (hj:j < N):((j+(N - P % N)) % N+P) % N=j:=by
 have hp:P % N < N:=Nat.mod_lt _ (by omega)
 rw[Nat.add_mod,Nat.mod_mod,←Nat.add_mod]
 have e:(j+(N - P % N)+P) % N=(j+(N - P % N)+P % N) % N:=by rw[Nat.add_mod,Nat.add_mod (j+(N - P % N)) (P % N),Nat.mod_mod]
 rw[e,show j+(N - P % N)+P % N=j+N from by omega,Nat.add_mod_right,Nat.mod_eq_of_lt hj]
theorem list_fn (l:List Int):(List.range l.length).map (fn l)=l:=by
 apply List.ext_getElem
 ·simp
 ·intro i h1 h2;simp[fn,List.getD_eq_getElem?_getD,h2]
theorem Ww (N P:Nat):(List.range N).Perm ((List.range N).map fun j=>(j+P) % N):=by
 have e:Ud N N (fun j=>(j+P) % N) (fun _=>true) (fun _=>true):=⟨fun i hi _=>Nat.mod_lt _ (by omega),fun i j hi hj _ _ h=>Pt hi hj h,fun j hj=>⟨fun _=>⟨(j+(N - P % N)) % N,Nat.mod_lt _ (by omega),rfl,RS hj⟩,fun _=>rfl⟩⟩
 have:=e.perm
 unfold els at this
 rwa [List.filter_eq_self.2 fun _ _=>rfl] at this
theorem Uh.perm {h w T U:List Int} {N P D K:Nat} (hl:h.length=N) (hw:w.length=N) (t:Uh h w N P D K N T U):T.Perm (h.map (Ox D K))∧U.Perm (w.map (Ox D K)):=by
 have p:=Ww N P
 constructor
 ·have e1:=p.map (fn T)
  rw[List.map_map] at e1
  rw[←list_fn T,t.lT,←list_fn h,hl,List.map_map]
  refine e1.trans (List.Perm.of_eq (List.map_congr_left fun j hj=>?_))
  exact(t.at' j (List.mem_range.1 hj)).1
 ·have e1:=p.map (fn U)
  rw[List.map_map] at e1
  rw[←list_fn U,t.lU,←list_fn w,hw,List.map_map]
  refine e1.trans (List.Perm.of_eq (List.map_congr_left fun j hj=>?_))
  exact(t.at' j (List.mem_range.1 hj)).2
theorem jK {D K:Nat} (hK:0 < K) (x:Int):0≤Ox D K x∧Ox D K x < K:=⟨Int.natCast_nonneg _,Int.ofNat_lt.2 (Nat.mod_lt _ hK)⟩
theorem RU {D K:Nat} {x:Int} (hx:0≤x∧x < K):Ox (K - D % K) K (Ox D K x)=x:=by
 obtain⟨X,rfl⟩:=Int.eq_ofNat_of_zero_le hx.1
 have hX:X < K:=Int.ofNat_lt.1 hx.2
 unfold Ox
 show Int.ofNat (((X+D) % K+(K - D % K)) % K)=_
 rw[Wv hX];rfl
theorem Uh.like {h w T U:List Int} {N P D K:Nat} (t0:Gv K h w) (hl:h.length=N) (t:Uh h w N P D K N T U):OA h w T U (fun j=>(j+P) % N) (Ox D K) (Ox (K - D % K) K) where
 lt:=fun i hi=>by rw[t.lT];exact Nat.mod_lt _ (by omega)
 inj:=fun i j hi hj e=>Pt (by omega) (by omega) e
 hT:=fun i hi=>(t.at' i (by omega)).1
 hU:=fun i hi=>(t.at' i (by omega)).2
 kh:=fun i hi=>RU (by rw[Eo hi];exact t0.ih _ (List.getElem_mem hi))
 kw:=fun i hi=>by
  have:=t0.len
  exact RU (by rw[Eo (by omega:i < w.length)];exact t0.iw _ (List.getElem_mem _))
 rest:=fun j hj hn=>by
  rw[t.lT] at hj
  exact absurd (RS (P:=P) hj) (hn _ (by rw[hl];exact Nat.mod_lt _ (by omega)))
theorem Uh.tray {h w T U:List Int} {N P D K:Nat} (t0:Gv K h w) (hl:h.length=N) (t:Uh h w N P D K N T U):Gv K T U:=by
 have hw:w.length=N:=by have:=t0.len;omega
 obtain⟨p1,p2⟩:=t.perm hl hw
 have hK:0 < K:=t0.k1
 have tm:=t0.map (g:=Ox D K) fun x _=>jK hK x
 exact⟨t0.k1,t0.k5,by rw[t.lT,←hl];exact t0.n1,by rw[t.lT,←hl];exact t0.n10,by rw[t.lT,t.lU],fun x hx=>tm.ih x (p1.subset hx),fun x hx=>tm.iw x (p2.subset hx),fun v=>by rw[p1.count_eq,p2.count_eq];exact tm.cnt v⟩
theorem RY.tray {h w F G:List Int} {K N:Nat} {b:Bool} (t0:Gv K h w) (hl:h.length=N) (f:RY h w N b F G):Gv K F G∧CY F G=CY h w:=by
 have hw:=t0.len
 rcases f with⟨_,rfl,rfl⟩ | ⟨_,h1,r,_,r2,r3,rfl,rfl⟩
 ·rw[List.take_of_length_le (by omega),List.take_of_length_le (by omega)];exact⟨t0,rfl⟩
 ·rw[List.take_of_length_le (by omega),List.take_of_length_le (by omega)];exact⟨t0.erase r2 r3 h1,Wq hw r2 r3⟩
theorem wW {c K:Nat} (hK:0 < K) (x:Int) (hx:0≤x∧x < K):0≤gm c x∧gm c x < K:=by
 unfold gm
 by_cases h:x=Int.ofNat c
 ·rw[if_pos h];exact⟨Int.le_refl _,by omega⟩
 ·rw[if_neg h];exact hx
theorem zQ (L:List (List Nat)):(LL 0 L).n=L.length:=rfl
theorem wZ (x:Int):Bd x x=true:=Ug rfl
theorem p12 (n:Nat):Fh (n+1) 12 []=some (.bool true):=by kernel_rfl
theorem Uy {N:Nat} {T:List Int} (h:T.length=N):an (Nat.ble (0+N*1) (len (T.map I))) true=true:=by rw[CF,ble_eq,AV,List.length_map,h,decide_eq_true (by omega)];rfl
theorem O3 {N:Nat} {T:List Int} (h:T.length=N):Aq (N*1) (Am 0 (T.map I))=T.map I:=R5 T N h.symm
theorem Xf (n:Nat) {K N P D O:Nat} {h w T U F G:List Int} {b:Bool} (cT cU:Nat) (t0:Gv K h w) (hl:h.length=N) (t:Uh h w N P D K N T U) (f:RY h w N b F G) :
 Ph (Fh (n+31)) L (.ofNat K) (sl 0 h) (sl 0 w) (.ofNat K) (sl 0 w) (sl 0 h) (.ofNat K) N cT N cU (.ofNat K) F.length (2*F.length) G.length (2*G.length) (.ofNat K) (h.map (gm (O % K))).length (2*(h.map (gm (O % K))).length) (w.map (gm (O % K))).length (2*(w.map (gm (O % K))).length) (T.map I) (U.map I) (F.map I) (G.map I) ((h.map (gm (O % K))).map I) ((w.map (gm (O % K))).map I)=some (.bool true):=by
 have hw:=t0.len
 have tT:=t.tray t0 hl
 have lk:=t.like t0 hl
 obtain⟨tF,fF⟩:=f.tray t0 hl
 have tM:=t0.map (g:=gm (O % K)) (wW t0.k1)
 have e1:=Oi (n+15) 0 0 t0
 have e2:=Oi (n+15) 0 0 t0.swap
 have e3:=Oi (n+15) 0 0 tT
 have e4:=Oi (n+15) 0 0 tF
 have e5:=Oi (n+15) 0 0 tM
 rw[Xb hw] at e2
 rw[lk.CY hw (by rw[t.lT,t.lU])] at e3
 rw[fF] at e4
 have e6:=p30 (n+27) 0 0 t0
 have e7:=p30 (n+27) 0 0 t0.swap
 rw[←Wn hw t0.cnt] at e7
 have e8:=p16 (n+1) 0 0 t0
 have e9:=p16 (n+1) 0 0 tT
 have g8:=Ws t0
 have g9:=Ws tT
 rw[lk.M,←g8] at g9
 have hM:=Wp (gm (O % K)) hw
 unfold tr S at e1 e2 e3 e4 e5 e6 e7 e8 e9
 rw[show n+15+16=n+31 from rfl,show ((K:Nat):Int)=Int.ofNat K from rfl] at e1 e2 e3 e4 e5
 rw[show n+27+4=n+31 from rfl,show ((K:Nat):Int)=Int.ofNat K from rfl] at e6 e7
 rw[show n+1+30=n+31 from by omega,show ((K:Nat):Int)=Int.ofNat K from rfl] at e8 e9
 have s1:sl 0 T=Sl.mk N 0 (T.map I):=by unfold sl;rw[t.lT]
 have s2:sl 0 U=Sl.mk N 0 (U.map I):=by unfold sl;rw[t.lU]
 rw[s1,s2] at e3 e9
 have s3:∀ l:List Int,sl 0 l=Sl.mk l.length 0 (l.map I):=fun l=>rfl
 rw[s3 F,s3 G] at e4
 rw[s3 (h.map (gm (O % K))),s3 (w.map (gm (O % K)))] at e5
 have e10:Fh (n+31) 12 []=some (.bool true):=p12 (n+30)
 unfold Ph LK LY
 simp -implicitDefEqProofs only [e1, Ac, FW, Dj, EG, BP, PK, Ak, e2, O3 t.lT, O3 t.lU, Uy t.lT, Uy t.lU, e3, O3 (rfl : F.length = F.length), O3 (rfl : G.length = G.length), Uy (rfl : F.length = F.length), Uy (rfl : G.length = G.length), e4,
  O3 (rfl:(h.map (gm (O % K))).length=_),O3 (rfl:(w.map (gm (O % K))).length=_),Uy (rfl:(h.map (gm (O % K))).length=_),Uy (rfl:(w.map (gm (O % K))).length=_),e5,xQ,AA,wZ,show nt true=false from rfl,vU.2 (show ¬ CY h w < CY (h.map (gm (O % K))) (w.map (gm (O % K))) from by omega),e6,e7,e8,e9,Dc,zQ,g9,show Bd (0:Int) 0=true from rfl,e10,BU]
theorem q8 (k:Nat) (args:List Value):Fh (k+1) 8 args=m8 (Fh k) L args:=by kernel_rfl
theorem Wx (N:Nat):AF ([(.int .i64 (0:Int))]:List Value) N=(List.replicate N (0:Int)).map I:=by
 induction N with
 | zero=>rfl
 | succ N ih =>
  show Br ([(.int .i64 (0:Int))]:List Value) (AF ([(.int .i64 (0:Int))]:List Value) N)=_
  rw[ih,BH,List.replicate_succ];rfl
theorem Sg (n:Nat) (q:List Value) (x:Nat→Int) (P D O:Nat) (hl:len q=22) (hq:∀ i,i < 22→AL q i=some (.int .u8 (x i))) (hc:Au Ah q=true) (hx:∀ i,0≤x i∧x i < 256) (hP:P < 256) (hD:D < 256) (hO:O < 256) (h2:Au closed2 [.agg ⟨q⟩,.int .i64 9,.int .i64 5]=true) (ht:Aq 22 (Am 0 q)=q) :
 Fh (n+32) 8 [.agg ⟨q⟩,.int .u8 (.ofNat P),.int .u8 (.ofNat D),.int .u8 (.ofNat O)]=some (.bool true):=by
 obtain⟨K,h,w,e1,t0,h9⟩:=Xe (n+30) q x hl hq hc hx
 have hw:=t0.len
 have hK:=t0.k1
 obtain⟨b',T',U',F',G',r1,r2,r3⟩:=Ov (Fh (n+31)) L P D O K h.length h w rfl hw h9 hK t0.k5 t0.ih t0.iw hP hD hO (2*h.length+1) (2*h.length+1) h.length L 0 false (List.replicate h.length 0) (List.replicate h.length 0) [] [] [] [] (by omega) (by show _ < 1000000;omega) ⟨by simp,by simp,fun j hj=>by omega⟩ (.inl ⟨rfl,rfl,rfl⟩) rfl rfl
 rw[q8]
 have e0:m8 (Fh (n+31)) L [.agg ⟨q⟩,.int .u8 (.ofNat P),.int .u8 (.ofNat D),.int .u8 (.ofNat O)]=sI (Fh (n+31)) L q (.ofNat P) (.ofNat D) (.ofNat O):=by
  show bb (an (Nat.beq (len q) 22) (Au Ah q)) (sI (Fh (n+31)) L q (.ofNat P) (.ofNat D) (.ofNat O)) none=_
  rw[hl,hc];rfl
 rw[e0]
 unfold tr S at e1
 rw[show n+30+1=n+31 from rfl,show ((K:Nat):Int)=Int.ofNat K from rfl] at e1
 have hr:an (Nat.ble h.length h.length) (an (Nat.ble (h.length*8) 1099511627776) (an (Nat.ble h.length 1099511627776) true))=true:=by
  rw[show Nat.ble h.length h.length=true from Nat.ble_eq_true_of_le (Nat.le_refl _),show Nat.ble (h.length*8) 1099511627776=true from Nat.ble_eq_true_of_le (by omega),show Nat.ble h.length 1099511627776=true from Nat.ble_eq_true_of_le (by omega)];rfl
 have h3:Au closed2 [.agg ⟨q⟩,I 9,I 5]=true:=h2
 have hb:Nat.ble (0+22) (len q)=true:=by rw[hl];rfl
 unfold sI
 simp -implicitDefEqProofs only [hc,Ak,hb,ht,e1,Ac,RL,Dj,EG,BP,Dc,h3,I4,hr,Wx,PK]
 refine Eq.trans r3 ?_
 exact Xf n (2*h.length+1) (2*h.length+1) t0 rfl r1 r2
theorem Gw {n:Int} (h:(Lit.int .u8 n).wf=true):0≤n∧n < 256:=by
 simp only[Lit.wf,Bool.and_eq_true,decide_eq_true_eq] at h
 have h1:(0:Int)≤n:=h.1
 have h2:n≤(255:Int):=h.2
 exact⟨h1,by omega⟩
theorem jL {n:Int} (h:0≤n∧n < 256):∃ k:Nat,n=Int.ofNat k∧k < 256:=⟨n.toNat,(Int.toNat_of_nonneg h.1).symm,by omega⟩
theorem zR {l:List Int} (h:∀ z∈l,0≤z∧z < 256) (i:Nat):0≤l.getD i 0∧l.getD i 0 < 256:=by
 rw[List.getD_eq_getElem?_getD]
 cases e:l[i]? with
 | none=>exact⟨by decide,by decide⟩
 | some z=>exact h z (List.mem_of_getElem? e)
theorem PI (l:List Int) (h22:l.length=22) (hl:∀ z∈l,0≤z∧z < 256) {p d o:Int} (hp:0≤p∧p < 256) (hd:0≤d∧d < 256) (ho:0≤o∧o < 256):Fh 32 8 [.agg ⟨l.map (Value.int .u8)⟩,.int .u8 p,.int .u8 d,.int .u8 o]=some (.bool true):=by
 obtain⟨P,rfl,hP⟩:=jL hp
 obtain⟨D,rfl,hD⟩:=jL hd
 obtain⟨O,rfl,hO⟩:=jL ho
 have hc:Au Ah (l.map (Value.int .u8))=true:=by
  rw[Bh,List.all_eq_true]
  intro v hv
  obtain⟨z,_,rfl⟩:=List.mem_map.1 hv
  rfl
 refine Sg 0 (l.map (Value.int .u8)) (fun i=>l.getD i 0) P D O (by rw[AV,List.length_map,h22]) (fun i hi=>?_) hc (zR hl) hP hD hO ?_ ?_
 ·rw[BZ,List.getElem?_map,List.getElem?_eq_getElem (by omega)]
  simp[List.getD_eq_getElem?_getD,show i < l.length from by omega]
 ·show Au closed2 _=true
  match l,h22 with
  | [a0,a1,a2,a3,a4,a5,a6,a7,a8,a9,b0,b1,b2,b3,b4,b5,b6,b7,b8,b9,c0,c1],_=>rfl
 ·rw[Cg,Bz,List.drop_zero,List.take_of_length_le (by simp[h22])]
end Go.MdTM
