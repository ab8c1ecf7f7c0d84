/- Made from wip. -/
import Derived.Test.YtciohfkjabeooaaGreatDoorSpOps5x

namespace Go.Sp

section
variable {P:Program} {tt:TT} (hT:Jm P tt) {H H':Aa} {R:Ren} {w:World}

theorem DW {t:TypeId} {ie:TI} (h:elemOf tt t=some ie):∃ i e,tt t=some i∧i.und = .slice e∧tt e=some ie:=by
 obtain⟨i,hi,h1⟩:=Ab h
 obtain⟨e,he,h2⟩:=Ab h1
 exact⟨i,e,hi,F9 he,h2⟩

theorem BJ (z:List Value) (n:Nat):(AF z n).length=n*z.length:=by
 induction n with
 | zero=>show ([]:List Value).length=0*z.length;simp
 | succ n ih=>show (Br z (AF z n)).length=_;simp[ih,Nat.add_mul];omega
theorem Eu (z:List Value) (hz:0 < z.length) (n i:Nat) (hi:i < n*z.length):(AF z n)[i]?=z[i % z.length]?:=by
 induction n generalizing i with
 | zero=>simp at hi
 | succ n ih =>
  show (Br z (AF z n))[i]?=_
  rw[BH]
  by_cases h:i < z.length
  ·rw[List.getElem?_append_left h,Nat.mod_eq_of_lt h]
  ·have e:i % z.length=(i - z.length) % z.length:=Nat.mod_eq_sub_mod (by omega)
   have h2:i < n*z.length+z.length:=by rw[←Nat.succ_mul];exact hi
   rw[List.getElem?_append_right (by omega),ih _ (by omega),e]
theorem Kv (z:Array Value) (n:Nat):(Builtin.zeroCells z n).toList=AF z.toList n:=by
 apply List.ext_getElem?
 intro i
 by_cases hi:i < n*z.size
 ·have hz:0 < z.size:=Nat.pos_of_ne_zero fun e=>by rw[e] at hi;simp at hi
  rw[Eu _ (by simpa using hz) _ _ (by simpa using hi)]
  have hm:i % z.size < z.size:=Nat.mod_lt _ hz
  simp[Builtin.zeroCells,hi,hm]
 ·rw[List.getElem?_eq_none (by simp[Builtin.zeroCells];omega),List.getElem?_eq_none (by rw[BJ];simp;omega)]
theorem Ev {R:Ren} {z z':List Value} (h:Cf R z z') (n:Nat):Cf R (AF z n) (AF z' n):=by
 induction n with
 | zero=>exact .nil
 | succ n ih=>show Cf R (Br z _) (Br z' _);rw[BH,BH];exact h.append ih

theorem LA {R:Ren} {x x':Value} {n:Nat} (h:H5 x=some n) (hx:VR R x x'):∃ a c,x' = .slice a n c:=by
 unfold H5 at h
 cases hl:PS x with
 | some m =>
  rw[hl,Ac] at h
  injection h with h;subst h
  obtain⟨a,c,rfl⟩:=U7 hl
  cases hx <;> exact⟨_,_,rfl⟩
 | none =>
  rw[hl,Az] at h
  obtain⟨f,hf,h1⟩:=Ab h
  injection h1 with h1;subst h1
  rcases hx.fs_l hf with⟨k,_,rfl⟩ | ⟨_,k,_,c,o,sp,rfl⟩ | ⟨c,o,cap,C,hro,rfl,_⟩
  ·rw[k];exact⟨_,_,rfl⟩
  ·rw[k];exact⟨_,_,rfl⟩
  ·exact⟨_,_,rfl⟩

theorem G7 (hs:Ck H R w) {sz n:Nat} {x x':Value} {new:List Value} (h:Dt H sz n x=some new) (hx:VR R x x') (hlen:H5 x=some n∨∃ m,H5 x=some m∧n≤m) :
 new.length=n*sz∧∃ zs,Cf R new zs∧∀ w2:World,w2.heap=w.heap→(Builtin.firstCells sz n x').run P w2 = .ok zs.toArray w2:=by
 unfold Dt at h
 cases hsl:IA x with
 | none =>
  rw[hsl,Az] at h
  cases hf:Le x with
  | some f =>
   rw[hf,Ac,BL] at h
   split at h
   ·rename_i h0
    have h0:=Nat.eq_of_beq_eq_true h0
    subst h0
    injection h with h;subst h
    refine⟨by simp,[],.nil,fun w2 _=>?_⟩
    rcases hx.fs_l hf with⟨_,_,rfl⟩ | ⟨_,_,_,c,o,sp,rfl⟩ | ⟨c,o,cap,C,hro,rfl,_⟩ <;> simp[Builtin.firstCells,loadCells,loadCellsFrom]
   ·rename_i h0
    have h0:n≠0:=fun e=>h0 (by rw[e];rfl)
    obtain⟨hc,h2⟩:=Ae h
    obtain⟨hc1,hc2⟩:=Av hc
    have hc1:=Nat.eq_of_beq_eq_true hc1
    have hc2:=Nat.le_of_ble_eq_true hc2
    injection h2 with h2;subst h2
    simp only[Cg]
    rcases hx.fs_l hf with⟨k,_⟩ | ⟨_,k,_⟩ | ⟨c,o,cap,C,hro,rfl,hn,k1,k2,k3,hfit,hcr,hcl⟩
    ·omega
    ·omega
    ·obtain⟨⟨ty,fz,hC⟩,_⟩:=hs.ro c C hro
     have hmul:n*sz≤f.cs.length:=by rw[hn,hc1];exact Nat.mul_le_mul_right _ hc2
     have hst:=Jo hcr hfit 0 (n*sz) (by omega)
     simp only[List.drop_zero,Nat.add_zero] at hst
     refine⟨by simp;omega,_,hst,fun w2 hw2=>?_⟩
     simp only[Builtin.firstCells]
     exact Fv (by rw[hw2];exact hC) (by omega)
  | none=>
  rw[hf,Az] at h
  obtain⟨hn,h1⟩:=Ae h
  injection h1 with h1;subst h1
  have:=CB hn;subst this
  have hn0:n=0:=by rcases hlen with h | ⟨m,h,hm⟩ <;> (simp[H5,PS,vv] at h;omega)
  subst hn0
  rw[hx.slNil_l]
  exact⟨by simp,[],.nil,fun w2 _=>by simp[run_firstCells_none]⟩
 | some sv =>
  rw[hsl,Ac] at h
  have h:bb (Nat.beq n 0) (some []) (oo (Bv (H.get sv.id)) none fun o=>bb (an (Nat.beq sv.sz sz) (Nat.ble (sv.off+n*sz) (len o.xs))) (some (Aq (n*sz) (Am sv.off o.xs))) none)=some new:=h
  have hlen':n≤sv.len:=by
   have e:=Ko hsl
   rcases hlen with h | ⟨m,h,hm⟩ <;> (rw[e] at h;simp[H5,PS,vv] at h;omega)
  rw[BL] at h
  split at h
  ·rename_i h0
   have h0:=Nat.eq_of_beq_eq_true h0
   subst h0
   injection h with h;subst h
   refine⟨by simp,[],.nil,fun w2 _=>?_⟩
   rcases hx.sl_l hsl with⟨c,β,cap,hid,rfl,_⟩ | ⟨c,o,rfl,_⟩ | ⟨rfl,_⟩ <;> simp[Builtin.firstCells,loadCells,loadCellsFrom]
  ·rename_i h0
   have h0:n≠0:=fun e=>h0 (by rw[e];rfl)
   obtain⟨o,ho,h1⟩:=Ab h
   obtain⟨hc,h2⟩:=Ae h1
   obtain⟨hc1,hc2⟩:=Av hc
   have hc1:=Nat.eq_of_beq_eq_true hc1
   simp only[AV] at hc2
   have hc2:=Nat.le_of_ble_eq_true hc2
   injection h2 with h2;subst h2
   simp only[Cg,Bz]
   rcases hx.sl_l hsl with⟨c,β,cap,hid,rfl,_⟩ | ⟨c,o2,rfl,k0,_⟩ | ⟨rfl,k0,_⟩
   ·obtain⟨C,t,fz,hC,hsz,hcf,hcr⟩:=hs.cells hid ho
    refine⟨by simp;omega,_,Jo hcr hcf sv.off (n*sz) hc2,fun w2 hw2=>?_⟩
    simp only[Builtin.firstCells]
    exact Fv (by rw[hw2];exact hC) (by omega)
   ·omega
   ·omega

include hT in
theorem Vl (hs:Ck H R w) {st xt ty:TypeId} {s x s' x' v:Value} (h:Xm tt H st xt s x=some (v,H')) (hsv:VR R s s') (hxv:VR R x x') :
 ∃ u w' R',(Builtin.append_ #[st,xt] ty #[s',x']).run P w = .ok u w'∧VR R' v u∧Ba H R w H' R' w':=by
 obtain⟨ie,hie,h1⟩:=Ab h
 obtain⟨z,hz,h2⟩:=Ab h1
 obtain⟨hc,h3⟩:=Ae h2
 obtain⟨hc1,hb⟩:=Av hc
 simp only[AV] at hc1
 have hzs:=Nat.eq_of_beq_eq_true hc1
 rw[Nat.blt_eq] at hb
 obtain⟨ix,hix,h4⟩:=Ab h3
 obtain⟨is,e,his,hd,hte⟩:=DW hie
 have hu:=hT.run_und his w
 rw[hd] at hu
 have hux:=hT.run_und hix w
 have hsz:=hT.run_size hte w
 cases hdx:Xi ix.und with
 | some e2 =>
  rw[hdx,Ac] at h4
  obtain⟨n,hn,h5⟩:=Ab h4
  obtain⟨new,hnew,h6⟩:=Ab h5
  rw[F9 hdx] at hux
  obtain⟨hnl,zs,hzv,hrun⟩:=G7 (P:=P) hs hnew hxv (.inl hn)
  have hlen:(Builtin.lenOf x').run P w = .ok n w:=by
   obtain⟨a,c,rfl⟩:=LA hn hxv
   simp[Builtin.lenOf]
  obtain⟨base,sLen,sCap,rfl,u,w',R',hr,hv,hp⟩:=Mh (zeros:=false) (appended:=Builtin.firstCells ie.size n x') (x:=x') hT hs hte hz hzs hb hsv hzv hnl h6 hrun
  refine⟨u,w',R',?_,hv,hp⟩
  rw[←hr]
  simp only[Builtin.append_,CJ,Sem.run_bind,hu,hsz,Result.andThen_ok,List.getElem?_cons_zero,List.getElem?_cons_succ,hux,Sem.run_pure,hlen,Bool.false_eq_true,if_false,Bool.not_false,if_true,List.getElem?_toArray]
  try rfl
 | none =>
  rw[hdx,Az] at h4
  obtain⟨k,hk,h5⟩:=Ab h4
  obtain⟨n,hn,h6⟩:=Ab h5
  obtain⟨hmax,h7⟩:=Ae h6
  obtain⟨hmax,hroomy⟩:=Av hmax
  have hmax:=Nat.le_of_ble_eq_true hmax
  have hroomy:=Nat.le_of_ble_eq_true hroomy
  rw[Lu hk] at hux
  obtain⟨j,rfl⟩:=hxv.nat_l hn
  have hpz:=hT.plain _ _ _ hte hz
  have hzv:Cf R (AF (cellsOf z) n) (AF z.cells.toList n):=Ev (Bw hpz) n
  have hzlen:z.cells.size=ie.size:=by
   rw[←Array.length_toList,←(Bw (R:=R) hpz).1];exact hzs
  have hwrap:IntKind.i64.wrap (n:Int)=n:=IntWalk.i64_in _ (by omega)
  obtain⟨inf,hinf,_,hbt,_⟩:=hT.run_bytes hte w
  have hbig:¬ ((n:Int)*(inf.bytes:Int) > 2 ^ 48):=by
   rw[hbt]
   have h9:n*ie.bytes≤(4*n+4096)*ie.bytes:=Nat.mul_le_mul_right _ (by omega)
   have h8:((n*ie.bytes:Nat):Int)=(n:Int)*(ie.bytes:Int):=by push_cast;rfl
   rw[←h8]
   omega
  have hneg:¬ ((n:Int) < 0):=by omega
  have happ:∀ w2:World,w2.heap=w.heap→(if n*ie.size=0 then (pure #[]:Sem (Array Value)) else do pure (Builtin.zeroCells (←zeroValue e).cells n)).run P w2 = .ok (AF z.cells.toList n).toArray w2:=fun w2 _=>by
   split
   ·rename_i h0
    have:AF z.cells.toList n=[]:=List.eq_nil_of_length_eq_zero (by rw[BJ];simpa [hzlen] using h0)
    rw[this];rfl
   ·have:=hT.run_zero hte hz w2
    simp only[Sem.run_bind,this,Result.andThen_ok,Sem.run_pure]
    rw[←Kv]
  obtain⟨base,sLen,sCap,rfl,u,w',R',hr,hv,hp⟩:=Mh (zeros:=true) (x:=.int j n) hT hs hte hz hzs hb hsv hzv (by rw[BJ,hzs]) h7 happ
  refine⟨u,w',R',?_,hv,hp⟩
  rw[←hr]
  simp only[Builtin.append_,CJ,Sem.run_bind,hu,hsz,Result.andThen_ok,List.getElem?_cons_zero,List.getElem?_cons_succ,hux,Sem.run_pure,Bool.false_eq_true,if_false,Bool.not_true,if_true,List.getElem?_toArray,asInt,asIntOf,hwrap,hneg,hinf,hbig,Int.toNat_natCast]
  try rfl

theorem aI (a b:Nat):Nat.min a b≤a∧Nat.min a b≤b:=⟨Nat.min_le_left a b,Nat.min_le_right a b⟩

include hT in
theorem aJ (hs:Ck H R w) {dt xt ty:TypeId} {d x d' x' v:Value} (h:mV tt H dt d x=some (v,H')) (hdv:VR R d d') (hxv:VR R x x') :
 ∃ u w' R',(Builtin.copy_ #[dt,xt] ty #[d',x']).run P w = .ok u w'∧VR R' v u∧Ba H R w H' R' w':=by
 obtain⟨ie,hie,h1⟩:=Ab h
 obtain⟨n,hn,h2⟩:=Ab h1
 obtain⟨is,e,his,hd,hte⟩:=DW hie
 have hu:=hT.run_und his w
 rw[hd] at hu
 have hsz:=hT.run_size hte w
 have hlen:(Builtin.lenOf x').run P w = .ok n w:=by
  obtain⟨a,c,rfl⟩:=LA hn hxv
  simp[Builtin.lenOf]
 cases hsl:IA d with
 | none =>
  rw[hsl,Az] at h2
  obtain⟨hnil,h3⟩:=Ae h2
  obtain⟨new,hnew,h4⟩:=Ab h3
  injection h4 with h4;injection h4 with e1 e2;subst e1;subst e2
  have:=CB hnil;subst this
  rw[hdv.slNil_l]
  obtain⟨hnl,zs,hzv,hrun⟩:=G7 (P:=P) hs hnew hxv (.inr ⟨n,hn,Nat.zero_le _⟩)
  refine⟨.int .i64 0,w,R,?_,.int _ _,.refl hs⟩
  have hr:=hrun w rfl
  simp[Builtin.copy_,hu,hsz,hlen,hr,goInt]
 | some sv =>
  rw[hsl,Ac] at h2
  have h2:oo (Dt H ie.size (Nat.min n sv.len) x) none (fun new=>bb (Nat.beq sv.sz ie.size) (bb (Nat.beq (Nat.min n sv.len) 0) (some (gi 0,H)) (oo (Ej H sv.id sv.off new) none fun H'=>some (gi (Nat.min n sv.len),H'))) none)=some (v,H'):=h2
  obtain⟨new,hnew,h3⟩:=Ab h2
  obtain⟨hc,h4⟩:=Ae h3
  obtain⟨hnl,zs,hzv,hrun⟩:=G7 (P:=P) hs hnew hxv (.inr ⟨n,hn,(aI n sv.len).1⟩)
  have hr:=hrun w rfl
  rw[BL] at h4
  split at h4
  ·rename_i h0
   have h0:=Nat.eq_of_beq_eq_true h0
   injection h4 with h4;injection h4 with e1 e2;subst e1;subst e2
   have hz0:zs=[]:=List.eq_nil_of_length_eq_zero (by rw[←hzv.1,hnl,h0];simp)
   subst hz0
   refine⟨.int .i64 0,w,R,?_,.int _ _,.refl hs⟩
   rcases hdv.sl_l hsl with⟨c,β,cap,hid,rfl,_⟩ | ⟨c,o,rfl,k0,_⟩ | ⟨rfl,k0,_⟩
   ·rw[h0] at hr
    simp[Builtin.copy_,hu,hsz,hlen,h0,hr,goInt,storeCells]
   ·rw[h0] at hr
    rw[k0] at h0
    simp[Builtin.copy_,hu,hsz,hlen,h0,hr,goInt,storeCells]
   ·rw[h0] at hr
    rw[k0] at h0
    simp[Builtin.copy_,hu,hsz,hlen,h0,hr,goInt]
  ·rename_i h0
   have h0:Nat.min n sv.len≠0:=fun e=>h0 (by rw[e];rfl)
   obtain⟨H1,hw,h5⟩:=Ab h4
   injection h5 with h5;injection h5 with e1 e2;subst e1;subst e2
   rcases hdv.sl_l hsl with⟨c,β,cap,hid,rfl,k1,k2,k3,k4⟩ | ⟨c,o,rfl,k0,_⟩ | ⟨rfl,k0,_⟩
   ·obtain⟨C,t,hC,hcf,hone,hpost⟩:=F8 hs hw hid hzv
    have hst:=run_storeCells_at P c (β+sv.off) t zs 0 C w hC (by simpa using hcf) hone
    refine⟨_,_,R,?_,.int .i64 (.ofNat (Nat.min n sv.len)),hpost⟩
    simp only[Nat.add_zero] at hst
    simp[Builtin.copy_,hu,hsz,hlen,hr,hst,goInt]
   ·rw[k0] at h0;exact absurd (Nat.min_zero n) h0
   ·rw[k0] at h0;exact absurd (Nat.min_zero n) h0

include hT in
theorem jV (hs:Ck H R w) {t ty:TypeId} {x x' v:Value} (h:U3 tt H t x=some v) (hx:VR R x x'):(Builtin.len_ #[t] ty #[x']).run P w = .ok v w∧BR v=true:=by
 obtain⟨i,hi,h1⟩:=Ab h
 have hu:=hT.run_und hi w
 cases hd:Xi i.und with
 | some e =>
  rw[hd,Ac] at h1
  obtain⟨n,hn,h2⟩:=Ab h1
  injection h2 with h2;subst h2
  obtain⟨a,c,rfl⟩:=LA hn hx
  rw[F9 hd] at hu
  refine⟨?_,rfl⟩
  simp[Builtin.len_,hu,goInt,gi]
 | none =>
  rw[hd,Az] at h1
  cases hd2:MO i.und with
  | some p =>
   rw[hd2,Ac] at h1
   injection h1 with h1;subst h1
   rw[Hg hd2] at hu
   refine⟨?_,rfl⟩
   simp[Builtin.len_,hu,goInt,gi]
  | none =>
   rw[hd2,Az] at h1
   cases hd3:YF i.und with
   | some p =>
    rw[hd3,Ac] at h1
    obtain⟨m,hm,h2⟩:=Ab h1
    have:=EW hm;subst this
    rw[PY hd3] at hu
    cases m with
    | none =>
     simp only[Az] at h2
     injection h2 with h2;subst h2
     rw[hx.mapNil_l]
     exact⟨by simp[Builtin.len_,hu,goInt,gi],rfl⟩
    | some id =>
     simp only[Ac] at h2
     obtain⟨o,ho,h3⟩:=Ab h2
     injection h3 with h3;subst h3
     obtain⟨c,hid,rfl⟩:=hx.map_l
     have hob:=hs.obj id c 0 hid
     rw[DI ho] at hob
     obtain⟨_,Es,hE,hl,_⟩:=hob
     refine⟨?_,rfl⟩
     simp[Builtin.len_,hu,goInt,gi,getObj,Sem.run,hE,hl]
   | none =>
    rw[hd3,Az] at h1
    obtain⟨hstr,h2⟩:=Ae h1
    obtain⟨s,hss,h3⟩:=Ab h2
    injection h3 with h3;subst h3
    have:=Cw hss;subst this
    rw[hx.string_l]
    rw[Er hstr] at hu
    exact⟨by simp[Builtin.len_,hu,goInt,gi],rfl⟩

include hT in
theorem jW {t ty:TypeId} {x x' v:Value} (h:jO tt t x=some v) (hx:VR R x x'):(Builtin.cap_ #[t] ty #[x']).run P w = .ok v w∧BR v=true:=by
 obtain⟨i,hi,h1⟩:=Ab h
 have hu:=hT.run_und hi w
 obtain⟨e,hd,h2⟩:=Ab h1
 rw[F9 hd] at hu
 cases hsl:IA x with
 | none =>
  rw[hsl,Az] at h2
  cases hf:Le x with
  | some f =>
   rw[hf,Ac] at h2
   obtain⟨hc,h3⟩:=Ae h2
   rw[Ed,Bool.or_eq_true] at hc
   injection h3 with h3;subst h3
   refine⟨?_,rfl⟩
   rcases hx.fs_l hf with⟨k,_,rfl⟩ | ⟨_,k,_,c,o,sp,rfl⟩ | ⟨c,o,cap,C,hro,rfl,_,_,k2,k3,_⟩
   ·simp[Builtin.cap_,hu,goInt,gi,k]
   ·simp[Builtin.cap_,hu,goInt,gi,k]
   ·have h1 : f.fl = 1 := by
     rcases hc with h9 | h9
     ·exact Nat.eq_of_beq_eq_true h9
     ·exact absurd (Nat.eq_of_beq_eq_true h9) k3
    simp[Builtin.cap_,hu,goInt,gi,k2 h1]
  | none=>
  rw[hf,Az] at h2
  obtain⟨hn,h3⟩:=Ae h2
  injection h3 with h3;subst h3
  have:=CB hn;subst this
  rw[hx.slNil_l]
  exact⟨by simp[Builtin.cap_,hu,goInt,gi],rfl⟩
 | some s =>
  rw[hsl,Ac] at h2
  obtain⟨hc,h3⟩:=Ae (show bb (Nat.beq (s.cap % 2) 1) (some (gi (s.cap / 2))) none=some v from h2)
  have hc:=Nat.eq_of_beq_eq_true hc
  injection h3 with h3;subst h3
  refine⟨?_,rfl⟩
  rcases hx.sl_l hsl with⟨c,β,cap,hid,rfl,k1,k2,k3,k4⟩ | ⟨c,o,rfl,k0,k00⟩ | ⟨rfl,k0,k00⟩
  ·simp[Builtin.cap_,hu,goInt,gi,k3 hc]
  ·simp[Builtin.cap_,hu,goInt,gi,k00]
  ·simp[Builtin.cap_,hu,goInt,gi,k00]

theorem Vm {isMax:Bool} {k:IntKind} {l l':List Value} {a:Int} {v:Value} (h:MW isMax k l a=some v) (hl:Cf R l l') :
 (l'.foldlM (if isMax then Builtin.max2 else Builtin.min2) (.int k a)).run P w = .ok v w∧BR v=true:=by
 induction l generalizing a l' with
 | nil =>
  rw[hl.unnil]
  have h:iv k a=some v:=h
  injection h with h;subst h
  exact⟨rfl,rfl⟩
 | cons y l ih =>
  obtain⟨y',r',rfl,hy,hr⟩:=hl.uncons
  have h:oo (ES y) none (fun p=>pp p fun _ b=>MW isMax k l (bb isMax (bb (AY a b) b a) (bb (AY b a) b a)))=some v:=h
  obtain⟨p,hp,h1⟩:=Ab h
  rw[Bg] at h1
  have:=Cm hp;subst this
  rw[hy.int_l]
  have:=ih h1 hr
  cases isMax
  ·simp only[List.foldlM_cons,Sem.run_bind,Bool.false_eq_true,if_false,Builtin.min2,Sem.run_pure,Result.andThen_ok] at this ⊢
   simp only[AA,BL,JY,decide_eq_true_eq] at this
   exact this
  ·simp only[List.foldlM_cons,Sem.run_bind,if_true,Builtin.max2,Sem.run_pure,Result.andThen_ok] at this ⊢
   simp only[Ak,BL,JY,decide_eq_true_eq] at this
   exact this
end
end Go.Sp
namespace Go.Sp

section
variable {P:Program} {tt:TT} (hT:Jm P tt) {H H':Aa} {R:Ren} {w:World}

theorem Mi {isMax:Bool} {l l':List Value} {v:Value} (h:Nw isMax l=some v) (hl:Cf R l l') (ts:Array TypeId) (ty:TypeId) :
 ((if isMax then Builtin.max_ else Builtin.min_) ts ty ⟨l'⟩).run P w = .ok v w∧BR v=true:=by
 cases l with
 | nil=>cases h
 | cons x r =>
  obtain⟨x',r',rfl,hx,hr⟩:=hl.uncons
  obtain⟨p,hp,h1⟩:=Ab (show oo (ES x) none (fun p=>pp p fun k a=>MW isMax k r a)=some v from h)
  rw[Bg] at h1
  have:=Cm hp;subst this
  rw[hx.int_l]
  have:=Vm (P:=P) (w:=w) h1 hr
  cases isMax
  ·simpa [Builtin.min_] using this
  ·simpa [Builtin.max_] using this

theorem GM {t:TypeId} {z:Value} (h:zeroOf tt t=some z):∃ i,tt t=some i∧i.zero=some z:=by
 obtain⟨i,hi,h1⟩:=Ab h;exact⟨i,hi,h1⟩

include hT in
theorem Vn (hs:Ck H R w) {e:TypeId} {v:Value} (h:Xo tt H e=some (v,H')) :
 ∃ u w' R',(Instr.alloc e true (.tuple #[])).run P w = .ok u w'∧VR R' v u∧Ba H R w H' R' w':=by
 obtain⟨z,hz,h1⟩:=Ab h
 obtain⟨i,hi,hiz⟩:=GM hz
 injection h1 with h1;injection h1 with e1 e2;subst e1;subst e2
 have hzr:=hT.run_zero hi hiz w
 obtain⟨w',R',hr,hv,hp⟩:=PZ (P:=P) hs e (Bw (hT.plain _ _ _ hi hiz))
 refine⟨_,w',R',?_,hv,hp⟩
 simp only[Instr.alloc,Sem.run_bind,hzr,Result.andThen_ok]
 simpa using hr

theorem jX (hs:Ck H R w) {e:TypeId} {x x' v:Value} (h:bb (noCell x) none (QZ H (cellsOf x))=some (v,H')) (hx:VR R x x') :
 ∃ u w' R',(Instr.box e x').run P w = .ok u w'∧VR R' v u∧Ba H R w H' R' w':=by
 obtain⟨ht,h⟩:=FQ h
 injection h with h;injection h with e1 e2;subst e1;subst e2
 obtain⟨w',R',hr,hv,hp⟩:=PZ (P:=P) hs e (EX hx ht)
 exact⟨_,w',R',by simpa [Instr.box] using hr,hv,hp⟩

theorem Tk (hs:Ck H R w) (t:TypeId):∃ u w' R',(Instr.makeMap t none).run P w = .ok u w'∧VR R' (.map (some H.next)) u∧Ba H R w (H.push (.map [] 0)) R' w':=by
 have hp:=Jl (o:=.map [] 0) (ob:=.map #[] 0) 0 hs (fun C t fz e=>by cases e) (by simp[AJ.ancOf]) (fun R' _ _=>⟨rfl,#[],rfl,rfl,by simp⟩)
 exact⟨_,_,_,by simp[Instr.makeMap],.map (Ren.ext_new R H.next w.heap.size 0 0),hp⟩

include hT in
theorem PE (hs:Ck H R w) {t:TypeId} {l c l' c' v:Value} (h:H8 tt H t l c=some (v,H')) (hl:VR R l l') (hc:VR R c c') :
 ∃ u w' R',(Instr.makeSlice t l' c').run P w = .ok u w'∧VR R' v u∧Ba H R w H' R' w':=by
 obtain⟨ie,hie,h1⟩:=Ab h
 obtain⟨n,hn,h2⟩:=Ab h1
 obtain⟨m,hm,h3⟩:=Ab h2
 obtain⟨z,hz,h4⟩:=Ab h3
 obtain⟨hcc,h5⟩:=Ae h4
 simp only[CF,AV,Bool.and_eq_true] at hcc
 obtain⟨c1,c2,c3,c4⟩:=hcc
 have c1:=Nat.le_of_ble_eq_true c1
 have c2:=Nat.le_of_ble_eq_true c2
 have c3:=Nat.le_of_ble_eq_true c3
 have c4:=Nat.eq_of_beq_eq_true c4
 injection h5 with h5;injection h5 with e1 e2;subst e1;subst e2
 obtain⟨kl,rfl⟩:=hl.nat_l hn
 obtain⟨kc,rfl⟩:=hc.nat_l hm
 obtain⟨is,e,his,hd,hte⟩:=DW hie
 have hu:=hT.run_und his w
 rw[hd] at hu
 have hsz:=hT.run_size hte w
 have hzr:=hT.run_zero hte hz w
 obtain⟨inf,hinf,_,hbt,_⟩:=hT.run_bytes hte w
 have hpz:=hT.plain _ _ _ hte hz
 have hzlen:z.cells.size=ie.size:=by
  rw[←Array.length_toList,←(Bw (R:=R) hpz).1];exact c4
 have hw1:IntKind.i64.wrap (n:Int)=n:=IntWalk.i64_in _ (by omega)
 have hw2:IntKind.i64.wrap (m:Int)=m:=IntWalk.i64_in _ (by omega)
 have hb8:((m*ie.bytes:Nat):Int)=(ie.bytes:Int)*(m:Int):=by push_cast;exact Int.mul_comm _ _
 have hbig:¬ ((ie.bytes:Int)*(m:Int) > 2 ^ 48):=by rw[←hb8];omega
 have hm0:¬ ((m:Int) < 0):=by omega
 have hn0:¬ ((n:Int) < 0):=by omega
 have hnm:¬ ((n:Int) > (m:Int)):=by omega
 have hcells:∀ zz:Array Value,(m*ie.size=0→zz = #[])→(m*ie.size≠0→zz=z.cells)→(Array.range (m*ie.size)).map (fun i=>zz[i % zz.size]!)=(AF z.cells.toList m).toArray:=fun zz h1 h2=>by
  apply Array.ext'
  apply List.ext_getElem?
  intro i
  by_cases hi:i < m*ie.size
  ·have hne:m*ie.size≠0:=by omega
   rw[h2 hne]
   have hzp:0 < z.cells.size:=Nat.pos_of_ne_zero fun e=>by rw[hzlen] at e;rw[e] at hi;simp at hi
   have hmod:i % z.cells.size < z.cells.size:=Nat.mod_lt _ hzp
   show _=(AF z.cells.toList m)[i]?
   rw[Eu _ (by simpa using hzp) _ _ (by simpa [hzlen] using hi)]
   simp[hi,hmod]
  ·rw[List.getElem?_eq_none (by simp;omega),List.getElem?_eq_none (by simp[BJ,hzlen];omega)]
 have hpost:=EY (w:=w) (xs:=AF (cellsOf z) m) (ys:=AF z.cells.toList m) e [] false hs (Ev (Bw hpz) m) false [] (by simp)
 refine⟨.slice (some ⟨w.heap.size,0,none⟩) n m,_,_,?_,?_,hpost⟩
 ·have hbig':(ie.bytes:Int)*(m:Int)≤281474976710656:=by rw[←hb8];omega
  have hn0':¬ ((n:Int) < 0):=hn0
  have e0:((AF z.cells.toList m++[]).toArray)=(AF z.cells.toList m).toArray:=by simp
  rw[e0]
  by_cases h0:m*ie.size=0
  ·have:=hcells #[] (fun _=>rfl) (fun h=>absurd h0 h)
   rw[←this]
   simp[Instr.makeSlice,hu,asInt,asIntOf,hinf,hw1,hw2,hbt,hsz,hbig',c1,h0,newRow]
   intro h;exfalso;omega
  ·have:=hcells z.cells (fun h=>absurd h h0) (fun _=>rfl)
   rw[←this]
   simp[Instr.makeSlice,hu,asInt,asIntOf,hinf,hw1,hw2,hbt,hsz,hbig',c1,h0,hzr,newRow]
   intro h;exfalso;omega
 ·have := VR.sl (R := R.ext H.next w.heap.size 0 (AF z.cells.toList m ++ []).length) (off := 0) (sz := ie.size) (ln := n) (c2 := 2 * m + bb true 1 0) (cap := m) (Ren.ext_new R H.next w.heap.size 0 _)
   (by rw[Bc];exact c1) (by rw[Bc];exact Nat.le_refl _) (fun _=>by rw[Bc]) (by rw[Ren.ext_sz];simp[BJ,hzlen])
  simpa [sliceAt] using this
end
end Go.Sp
namespace Go.Sp

section
variable {P:Program} {tt:TT} (hT:Jm P tt) {H H':Aa} {R:Ren} {w:World}

theorem foldl_set (vs:List Value) (off k:Nat) (C:Array Value) (h:off+k+vs.length≤C.size) :
 ((vs.zipIdx k).foldl (fun cs (p:Value×Nat)=>cs.setIfInBounds (off+p.2) p.1) C).toList=BM vs (off+k) C.toList:=by
 induction vs generalizing k C with
 | nil =>
  apply List.ext_getElem?
  intro j
  rw[He _ _ _ (by simpa using h)]
  rw[if_neg (by simp)]
  rfl
 | cons v vs ih =>
  simp only[List.zipIdx_cons,List.foldl_cons]
  simp only[List.length_cons] at h
  rw[ih (k+1) (C.setIfInBounds (off+k) v) (by simp;omega)]
  apply List.ext_getElem?
  intro j
  rw[He _ _ _ (by simp;omega),He _ _ _ (by simp;omega)]
  by_cases hj:off+(k+1)≤j∧j < off+(k+1)+vs.length
  ·rw[if_pos hj,if_pos (by simp;omega)]
   have:j - (off+k)=(j - (off+(k+1)))+1:=by omega
   rw[this,List.getElem?_cons_succ]
  ·rw[if_neg hj]
   by_cases hj2:j=off+k
   ·subst hj2
    rw[if_pos (by simp),Nat.sub_self,List.getElem?_cons_zero,Array.toList_setIfInBounds,List.getElem?_set,if_pos rfl]
    rw[if_pos (by simp;omega)]
   ·rw[if_neg (by simp;omega)]
    simp[List.getElem?_set,Ne.symm hj2]

theorem aK {R:Ren} {xs ys as bs:List Value} {off:Nat} (h:Cf R as bs) (hv:Cf R xs ys) (hfit:off+xs.length≤as.length):Cf R (BM xs off as) (BM ys off bs):=by
 refine⟨by rw[Ep _ _ _ hfit,Ep _ _ _ (by rw[←h.1,←hv.1];exact hfit),h.1],fun i x y hx hy=>?_⟩
 rw[He _ _ _ hfit] at hx
 rw[He _ _ _ (by rw[←h.1,←hv.1];exact hfit),←hv.1] at hy
 split at hx
 ·rename_i hi;rw[if_pos hi] at hy;exact hv.2 _ x y hx hy
 ·rename_i hi;rw[if_neg hi] at hy;exact h.2 _ x y hx hy

def NB (R:Ren) (ps qs:List (Nat×Value)):Prop:=ps.length=qs.length∧∀ (i:Nat) (p q:Nat×Value),ps[i]?=some p→qs[i]?=some q→p.1=q.1∧VR R p.2 q.2

theorem Rc {place place':Nat→Option (Nat×Nat)} (hpl:∀ i q,place i=some q→place' i=some q) {ps qs:List (Nat×Value)} (hps:NB R ps qs) {cells r:List Value} {C:Array Value}
 (h:lay place ps cells=some r) (hc:Cf R cells C.toList):∃ D,Instr.fill place' C qs=some D∧Cf R r D.toList:=by
 induction ps generalizing qs cells C with
 | nil =>
  cases qs with
  | cons=>have:=hps.1;simp at this
  | nil=>injection h with h;subst h;exact⟨C,rfl,hc⟩
 | cons p ps ih =>
  cases qs with
  | nil=>have:=hps.1;simp at this
  | cons q qs =>
   obtain⟨e1,hv⟩:=hps.2 0 p q rfl rfl
   have h:pp p (fun i v=>oo (place i) none fun q=>pp q fun off size=>bb (an (nt (noCell v)) (an (Nat.beq (len (cellsOf v)) size) (Nat.ble (off+size) (len cells)))) (lay place ps (BM (cellsOf v) off cells)) none)=some r:=h
   rw[Bg] at h
   obtain⟨os,hos,h1⟩:=Ab h
   rw[Bg] at h1
   obtain⟨hcond,h2⟩:=Ae h1
   obtain⟨htup,hcond⟩:=Av hcond
   simp only[CF,AV,Bool.and_eq_true] at hcond
   have k1:=Nat.eq_of_beq_eq_true hcond.1
   have k2:=Nat.le_of_ble_eq_true hcond.2
   have hvl:=EX hv (Dh htup)
   have hsz:q.2.cells.size=os.2:=by rw[←Array.length_toList,←hvl.1];exact k1
   have hCs:C.size=cells.length:=by rw[←Array.length_toList,hc.1]
   have hnext:Cf R (BM (cellsOf p.2) os.1 cells) (q.2.cells.zipIdx.foldl (fun cs (x:Value×Nat)=>cs.setIfInBounds (os.1+x.2) x.1) C).toList:=by
    have e:(q.2.cells.zipIdx.foldl (fun cs (x:Value×Nat)=>cs.setIfInBounds (os.1+x.2) x.1) C)=(q.2.cells.toList.zipIdx 0).foldl (fun cs (x:Value×Nat)=>cs.setIfInBounds (os.1+x.2) x.1) C:=by
     rw[←Array.foldl_toList];simp
    rw[e,foldl_set q.2.cells.toList os.1 0 C (by rw[Array.length_toList,hsz];omega)]
    exact aK hc hvl (by rw[k1];exact k2)
   obtain⟨D,hD,hDl⟩:=ih (qs:=qs) ⟨by have:=hps.1;simpa using this,fun i a b ha hb=>hps.2 (i+1) a b (by simpa using ha) (by simpa using hb)⟩ h2 hnext
   refine⟨D,?_,hDl⟩
   have hp2:=hpl _ _ hos
   rw[e1] at hp2
   obtain⟨q1,q2⟩:=q
   simp only at hsz hD hp2
   have c1:(decide (q2.cells.size≠os.2) || decide (os.1+q2.cells.size > C.size))=false:=by
    simp[hsz];omega
   simp only[Instr.fill,hp2]
   rw[if_neg (by simpa using c1)]
   exact hD

include hT in
theorem Vo {fs : Array Field} (hall : (fs.toList.all fun f => isS (tt f.type)) = true) (w : World) :
 ∃ places:Array (Nat×Nat),(fs.mapM fun f=>do pure (f.offset,←sizeOf f.type):Sem (Array (Nat×Nat))).run P w = .ok places w∧∀ i q,placeOf tt fs.toList i=some q→places[i]?=some q:=by
 have key : ∀ (l : List Field), (l.all fun f => isS (tt f.type)) = true → ∃ ps : List (Nat × Nat), (l.mapM fun f => do pure (f.offset, ← sizeOf f.type) : Sem (List (Nat × Nat))).run P w = .ok ps w ∧
  ∀ (i:Nat) q,placeOf tt l i=some q→ps[i]?=some q:=by
  intro l hl
  induction l with
  | nil=>exact⟨[],by simp,fun i q h=>by simp[placeOf] at h⟩
  | cons f l ih =>
   simp only[List.all_cons,Bool.and_eq_true] at hl
   obtain⟨ps,h1,h2⟩:=ih hl.2
   cases hf:tt f.type with
   | none=>rw[hf] at hl;simp at hl
   | some ie =>
    have hs:=hT.run_size hf w
    refine⟨(f.offset,ie.size)::ps,?_,fun i q h=>?_⟩
    ·simp[List.mapM_cons,hs] at h1 ⊢
     simp[h1]
    ·cases i with
     | zero=>simpa [placeOf,hf] using h
     | succ i=>exact h2 i q (by simpa [placeOf] using h)
 obtain⟨ps,h1,h2⟩:=key fs.toList hall
 refine⟨ps.toArray,?_,fun i q h=>by simpa using h2 i q h⟩
 rw[Array.mapM_eq_mapM_toList,Sem.run_map,h1]
 rfl

theorem Ib {z:Value} {m sz:Nat} (hzlen:z.cells.size=sz) (zz:Array Value) (h1:m*sz=0→zz = #[]) (h2:m*sz≠0→zz=z.cells) :
 (Array.range (m*sz)).map (fun i=>zz[i % zz.size]!)=(AF z.cells.toList m).toArray:=by
 apply Array.ext'
 apply List.ext_getElem?
 intro i
 by_cases hi:i < m*sz
 ·have hne:m*sz≠0:=by omega
  rw[h2 hne]
  have hzp:0 < z.cells.size:=Nat.pos_of_ne_zero fun e=>by rw[hzlen] at e;rw[e] at hi;simp at hi
  have hmod:i % z.cells.size < z.cells.size:=Nat.mod_lt _ hzp
  show _=(AF z.cells.toList m)[i]?
  rw[Eu _ (by simpa using hzp) _ _ (by simpa [hzlen] using hi)]
  simp[hi,hmod]
 ·rw[List.getElem?_eq_none (by simp;omega),List.getElem?_eq_none (by simp[BJ,hzlen];omega)]

include hT in
theorem YY {t:TypeId} {ps:List (Nat×Value)} {qs:Array (Nat×Value)} {v:Value} (h:Z7 tt t ps=some v) (hps:NB R ps qs.toList):∃ u,(Instr.build t qs).run P w = .ok u w∧VR R v u:=by
 obtain⟨i,hi,h1⟩:=Ab h
 obtain⟨z,hz,h2⟩:=Ab h1
 have hu:=hT.run_und hi w
 have hzr:=hT.run_zero hi hz w
 have hzv:=Bw (R:=R) (hT.plain _ _ _ hi hz)
 cases hd:Kj i.und with
 | some fs =>
  rw[hd,Ac] at h2
  obtain⟨hall,h3⟩:=Ae h2
  obtain⟨l,hl,h4⟩:=Ab h3
  injection h4 with h4;subst h4
  rw[Ku hd] at hu
  rw[Bh] at hall
  obtain⟨places,hp1,hp2⟩:=Vo hT hall w
  obtain⟨D,hD,hDl⟩:=Rc (place':=fun i=>places[i]?) hp2 hps hl hzv
  refine⟨.agg D,?_,?_⟩
  ·simp only[Instr.build,Sem.run_bind,hzr,hu,Result.andThen_ok,hp1,hD,Sem.run_pure]
  ·obtain⟨Dl⟩:=D
   exact .agg hDl.1 hDl.2
 | none =>
  rw[hd,Az] at h2
  obtain⟨p,hp,h3⟩:=Ab h2
  obtain⟨ie,hie,h4⟩:=Ab h3
  obtain⟨l,hl,h5⟩:=Ab h4
  injection h5 with h5;subst h5
  rw[Hg hp] at hu
  have hsz:=hT.run_size hie w
  obtain⟨D,hD,hDl⟩:=Rc (place':=fun i=>some (i*ie.size,ie.size)) (fun i q h=>h) hps hl hzv
  refine⟨.agg D,?_,?_⟩
  ·simp only[Instr.build,Sem.run_bind,hzr,hu,Result.andThen_ok,hsz,hD,Sem.run_pure]
  ·obtain⟨Dl⟩:=D
   exact .agg hDl.1 hDl.2

include hT in
theorem ND (hs:Ck H R w) {t n:Nat} {ps:List (Nat×Value)} {qs:Array (Nat×Value)} {v:Value} (h:GG tt H t n ps=some (v,H')) (hps:NB R ps qs.toList) :
 ∃ u w' R',(Instr.buildSlice t n qs).run P w = .ok u w'∧VR R' v u∧Ba H R w H' R' w':=by
 obtain⟨ie,hie,h1⟩:=Ab h
 obtain⟨z,hz,h2⟩:=Ab h1
 obtain⟨hc,h3⟩:=Ae h2
 obtain⟨cs,hcs,h4⟩:=Ab h3
 injection h4 with h4;injection h4 with e1 e2;subst e1;subst e2
 simp only[CF,AV,Bool.and_eq_true] at hc
 have c1:=Nat.le_of_ble_eq_true hc.1
 have c2:=Nat.eq_of_beq_eq_true hc.2
 obtain⟨is,e,his,hd,hte⟩:=DW hie
 have hu:=hT.run_und his w
 rw[hd] at hu
 have hsz:=hT.run_size hte w
 have hzr:=hT.run_zero hte hz w
 have hpz:=hT.plain _ _ _ hte hz
 have hzlen:z.cells.size=ie.size:=by
  rw[←Array.length_toList,←(Bw (R:=R) hpz).1];exact c2
 have hzv:Cf R (AF (cellsOf z) n) (AF z.cells.toList n).toArray.toList:=Ev (Bw hpz) n
 obtain⟨D,hD,hDl⟩:=Rc (place':=fun i=>some (i*ie.size,ie.size)) (fun i q h=>h) hps hcs hzv
 have hDlen:D.size=n*ie.size:=by
  have:=hDl.1
  have hlen:∀ (place:Nat→Option (Nat×Nat)) (ps:List (Nat×Value)) (cells r:List Value),lay place ps cells=some r→r.length=cells.length:=by
   intro place ps
   induction ps with
   | nil=>intro cells r h;injection h with h;rw[h]
   | cons p ps ih =>
    intro cells r h
    have h:pp p (fun i v=>oo (place i) none fun q=>pp q fun off size=>bb (an (nt (noCell v)) (an (Nat.beq (len (cellsOf v)) size) (Nat.ble (off+size) (len cells)))) (lay place ps (BM (cellsOf v) off cells)) none)=some r:=h
    rw[Bg] at h
    obtain⟨os,hos,h1⟩:=Ab h
    rw[Bg] at h1
    obtain⟨hcond,h2⟩:=Ae h1
    obtain⟨_,hcond⟩:=Av hcond
    simp only[CF,AV,Bool.and_eq_true] at hcond
    have k1:=Nat.eq_of_beq_eq_true hcond.1
    have k2:=Nat.le_of_ble_eq_true hcond.2
    rw[ih _ _ h2,Ep _ _ _ (by rw[k1];exact k2)]
  rw[←Array.length_toList,←this,hlen _ _ _ _ hcs,BJ,c2]
 have hpost:=EY (w:=w) (xs:=cs) (ys:=D.toList) e [] false hs hDl false [] (by simp)
 refine⟨.slice (some ⟨w.heap.size,0,none⟩) n n,_,_,?_,?_,hpost⟩
 ·have hbig:¬ (n*ie.size > 2 ^ 24):=by omega
  by_cases h0:n*ie.size=0
  ·have hr:=Ib (z:=z) (m:=n) hzlen #[] (fun _=>rfl) (fun h=>absurd h0 h)
   rw[h0] at hr
   rw[←hr] at hD
   simp[Instr.buildSlice,hu,hsz,hbig,h0] at hD ⊢
   simp[hD,newRow]
  ·have hr:=Ib (z:=z) (m:=n) hzlen z.cells (fun h=>absurd h h0) (fun _=>rfl)
   rw[←hr] at hD
   simp only[Instr.buildSlice,Sem.run_bind,hu,Result.andThen_ok,hsz,hbig,if_false,h0,hzr,Sem.run_pure,hD]
   simp[newRow]
 ·have := VR.sl (R := R.ext H.next w.heap.size 0 (D.toList ++ []).length) (off := 0) (sz := ie.size) (ln := n) (c2 := 2 * n + bb true 1 0) (cap := n) (Ren.ext_new R H.next w.heap.size 0 _)
   (by rw[Bc];exact Nat.le_refl _) (by rw[Bc];exact Nat.le_refl _) (fun _=>by rw[Bc]) (by rw[Ren.ext_sz];simp[hDlen])
  simpa [sliceAt] using this
end
end Go.Sp
namespace Go.Sp

section
variable {P:Program} {tt:TT} (hT:Jm P tt) {H H':Aa} {R:Ren} {w:World}

theorem Mj {xs ys:List Value} {b:Bool} (h:Cj xs ys=some b):xs.length=ys.length:=by
 induction xs generalizing ys b with
 | nil => cases ys with
  | nil=>rfl
  | cons=>cases h
 | cons x xs ih => cases ys with
  | nil=>cases h
  | cons y ys =>
   have h:oo (DK x y) none (fun b=>oo (Cj xs ys) none fun c=>some (an b c))=some b:=h
   obtain⟨p,_,h1⟩:=Ab h
   obtain⟨q,hq,_⟩:=Ab h1
   simp[ih hq]

inductive jY (tt : TT) (kt : TypeId) (k : Value) : Prop
 | int (i:TI) (j:IntKind) (n:Int) (h:tt kt=some i) (hd:i.und = .int j) (e:k = .int j n)
 | bool (i:TI) (b:Bool) (h:tt kt=some i) (hd:i.und = .bool) (e:k = .bool b)
 | string (i:TI) (s:ByteArray) (h:tt kt=some i) (hd:i.und = .string) (e:k = .string s)
 | agg (i:TI) (xs:List Value) (h:tt kt=some i) (zs:List Value) (hf:i.flat=true) (hz:i.zero=some (.agg ⟨zs⟩)) (hl:Bo zs xs=true) (ha:DU i.und=true) (e:k = .agg ⟨xs⟩)

theorem Ic {kt:TypeId} {k:Value} (h:Mc tt kt k=true):jY tt kt k:=by
 unfold Mc at h
 cases hi:tt kt with
 | none=>rw[hi] at h;cases h
 | some i =>
  rw[hi,Ac] at h
  cases hk:ES k with
  | some p =>
   rw[hk,Ac] at h
   cases hd:YG i.und with
   | none=>rw[hd] at h;cases h
   | some j =>
    rw[hd,Ac] at h
    have:=CZ h
    exact .int i j p.2 hi (Lu hd) (by rw[this];exact Cm hk)
  | none =>
   rw[hk,Az] at h
   cases ha:Bt k with
   | some xs =>
    rw[ha,Ac] at h
    obtain⟨hag,h⟩:=Av h
    obtain⟨hfl,zs,hz,hlike⟩:=JE h
    exact .agg i xs hi zs hfl hz hlike hag (BQ ha)
   | none =>
    rw[ha,Az] at h
    cases hb:Bf k with
    | some b =>
     rw[hb,Ac] at h
     exact .bool i b hi (Mg (Nat.eq_of_beq_eq_true h)) (BV hb)
    | none =>
     rw[hb,Az] at h
     cases hs:Gx k with
     | none=>rw[hs] at h;cases h
     | some s =>
      rw[hs,Ac] at h
      exact .string i s hi (Er h) (Cw hs)

include hT in
theorem GN {kt:TypeId} {k k':Value} (hk:jY tt kt k) (hv:VR R k k') (e:Bool):(Instr.checkKey e 10000 kt k').run P w = .ok () w:=by
 have main:∀ n,(∀ xs,k ≠ .agg ⟨xs⟩)→(Instr.checkKey e (n+1) kt k').run P w = .ok () w:=fun n hna=>by
  cases hk with
  | int i j m h hd ek =>
   have hu:=hT.run_und h w
   subst ek
   rw[hv.int_l,hd] at *
   simp[Instr.checkKey,hu]
  | bool i b h hd ek =>
   have hu:=hT.run_und h w
   subst ek
   rw[hv.bool_l,hd] at *
   simp[Instr.checkKey,hu]
  | string i s h hd ek =>
   have hu:=hT.run_und h w
   subst ek
   rw[hv.string_l,hd] at *
   simp[Instr.checkKey,hu]
  | agg i xs h zs hf hz hl ha ek=>exact absurd ek (hna xs)
 cases hk with
 | agg i xs h zs hf hz hl ha ek =>
  subst ek
  obtain⟨us,rfl,hr⟩:=hv.agg_l
  exact(hT.flat _ _ _ h hf hz).2.2 us w e (by rw[←hr.1];exact Fg hl)
 | int i j m h hd ek=>exact main 9999 (fun xs e2=>by rw[ek] at e2;cases e2)
 | bool i b h hd ek=>exact main 9999 (fun xs e2=>by rw[ek] at e2;cases e2)
 | string i s h hd ek=>exact main 9999 (fun xs e2=>by rw[ek] at e2;cases e2)

def NE (R:Ren) (r r':Option (Nat×Value)):Prop:=
 match r,r' with
 | none,none=>True
 | some p,some q=>p.1=q.1∧VR R p.2 q.2
 | _,_=>False

theorem CR.uncons {R:Ren} {e:EO} {es:List EO} {Es:List MapEntry} (h:CR R (e::es) Es):∃ E Es',Es=E::Es'∧Tc R e E∧CR R es Es':=by
 cases Es with
 | nil=>have:=h.1;simp at this
 | cons E Es'=>exact⟨E,Es',rfl,h.2 0 e E rfl rfl,by have:=h.1;simpa using this,fun i a b ha hb=>h.2 (i+1) a b (by simpa using ha) (by simpa using hb)⟩
theorem CR.unnil {R:Ren} {Es:List MapEntry} (h:CR R [] Es):Es=[]:=by
 have:=h.1;cases Es with
 | nil=>rfl
 | cons=>simp at this

theorem JZ {k:Value} {e:EO} {es:List EO} {i:Nat} {r:Option (Nat×Value)} (h:GD k (e::es) i=some r) :
 ∃ b,IG k e.key=some b∧bb b (some (some (i,e.val))) (GD k es (i+1))=some r:=Ab (show oo (IG k e.key) none (fun b=>bb b (some (some (i,e.val))) (GD k es (i+1)))=some r from h)

include hT in
theorem Vp {kt:TypeId} {k k':Value} (hk:jY tt kt k) (hna:∀ xs,k ≠ .agg ⟨xs⟩) (hv:VR R k k') {es:List EO} {Es:List MapEntry} (hE:CR R es Es) {i:Nat} {r:Option (Nat×Value)} (h:GD k es i=some r) :
 ∃ d r',(∀ w:World,(underlying kt).run P w = .ok d w)∧Instr.findNow d k' Es i=some r'∧NE R r r':=by
 have key:∀ d,(∀ (x x':Value) (b:Bool),IG k x=some b→VR R x x'→Instr.sameNow d k' x'=some b)→∃ r',Instr.findNow d k' Es i=some r'∧NE R r r':=fun d hsame=>by
  induction es generalizing Es i with
  | nil=>rw[hE.unnil];injection h with h;subst h;exact⟨none,rfl,trivial⟩
  | cons e es ih =>
   obtain⟨E,Es',rfl,⟨h1,h2,_⟩,h3⟩:=hE.uncons
   obtain⟨b,hb,h4⟩:=JZ h
   have hs:=hsame _ _ _ hb h1
   cases b with
   | true=>injection h4 with h4;subst h4;exact⟨some (i,E.val),by simp[Instr.findNow,hs],rfl,h2⟩
   | false =>
    obtain⟨r',hr,hf⟩:=ih h3 h4
    exact⟨r',by simp[Instr.findNow,hs,hr],hf⟩
 cases hk with
 | int i j n h' hd ek =>
  subst ek
  have:=hv.int_l;subst this
  obtain⟨r',hr,hf⟩:=key (.int j) fun x x' b hb hx=>by
   have hb:DK (.int j n) x=some b:=hb
   obtain⟨q,hq,h5⟩:=Ab (show oo (ES x) none (fun q=>pp q fun j' b=>bb (De j j') (some (Bd n b)) none)=some b from hb)
   rw[Bg] at h5
   obtain⟨h6,h7⟩:=Ae h5
   have:=Cm hq;subst this
   have:=hx.int_l;subst this
   have:=CZ h6;rw[←this]
   simp only[Instr.sameNow,if_true,←Lr]
   exact h7
  exact⟨.int j,r',fun w=>by rw[hT.run_und h' w,hd],hr,hf⟩
 | bool i c h' hd ek =>
  subst ek
  have:=hv.bool_l;subst this
  obtain⟨r',hr,hf⟩:=key .bool fun x x' b hb hx=>by
   have hb:DK (.bool c) x=some b:=hb
   obtain⟨q,hq,h5⟩:=Ab (show oo (Bf x) none (fun b=>some (bq c b))=some b from hb)
   have:=BV hq;subst this
   have:=hx.bool_l;subst this
   simp only[Instr.sameNow]
   rw[mY] at h5;exact h5
  exact⟨.bool,r',fun w=>by rw[hT.run_und h' w,hd],hr,hf⟩
 | string i s h' hd ek =>
  subst ek
  have:=hv.string_l;subst this
  obtain⟨r',hr,hf⟩:=key .string fun x x' b hb hx=>by
   have hb:DK (.string s) x=some b:=hb
   obtain⟨q,hq,h5⟩:=Ab (show oo (Gx x) none (fun b=>some (s == b))=some b from hb)
   have:=Cw hq;subst this
   have:=hx.string_l;subst this
   exact h5
  exact⟨.string,r',fun w=>by rw[hT.run_und h' w,hd],hr,hf⟩
 | agg i xs h' zs hf hz hl ha ek=>exact absurd ek (hna xs)

include hT in
theorem Ga {kt:TypeId} {k k':Value} (hk:jY tt kt k) (hv:VR R k k') {es:List EO} {Es:List MapEntry} (hE:CR R es Es) {r:Option (Nat×Value)} (h:GD k es 0=some r) :
 ∃ r',(Instr.findKey kt k' Es).run P w = .ok r' w∧NE R r r':=by
 by_cases hna:∀ xs,k ≠ .agg ⟨xs⟩
 ·obtain⟨d,r',hu,hf,hr⟩:=Vp hT hk hna hv hE h
  exact⟨r',by simp[Instr.findKey,hu,hf],hr⟩
 ·have : ∃ xs, k = .agg ⟨xs⟩ := by
   simp only[ne_eq,Classical.not_forall,Classical.not_not] at hna;exact hna
  obtain⟨xs,rfl⟩:=this
  cases hk with
  | int i j n h' hd ek=>cases ek
  | bool i b h' hd ek=>cases ek
  | string i s h' hd ek=>cases ek
  | agg i ys h' z0 hf hz hl ha ek =>
   cases ek
   obtain⟨us,rfl,hr⟩:=hv.agg_l
   have hfl:=(hT.flat _ _ _ h' hf hz).1
   have key : ∀ (es : List EO) (Es : List MapEntry) (j : Nat) (r : Option (Nat × Value)), CR R es Es → GD (.agg ⟨xs⟩) es j = some r →
    ∃ r',(Instr.findAsking kt (.agg ⟨us⟩) Es j).run P w = .ok r' w∧NE R r r':=by
    intro es
    induction es with
    | nil=>intro Es j r hE h;rw[hE.unnil];injection h with h;subst h;exact⟨none,rfl,trivial⟩
    | cons e es ih =>
     intro Es j r hE h
     obtain⟨E,Es',rfl,⟨h1,h2,_⟩,h3⟩:=hE.uncons
     obtain⟨b,hb,h4⟩:=JZ h
     obtain⟨zs,hzs,h5⟩:=Ab (show oo (Bt e.key) none (fun ys=>Cj xs ys)=some b from hb)
     have hke:=BQ hzs
     rw[hke] at h1
     obtain⟨vs,hEk,hvs⟩:=h1.agg_l
     have he:=hfl us vs b w (JD hl hr) (IP h5 hr hvs)
     cases b with
     | true=>injection h4 with h4;subst h4;exact⟨some (j,E.val),by simp[Instr.findAsking,hEk,he],rfl,h2⟩
     | false =>
      obtain⟨r',hrr,hf'⟩:=ih Es' (j+1) r h3 h4
      exact⟨r',by simp[Instr.findAsking,hEk,he,hrr],hf'⟩
   have hu:=hT.run_und h' w
   have hnow:∀ d,DU d=true→∀ Es:List MapEntry,Instr.findNow d (.agg ⟨us⟩) Es 0=none∨Es=[]:=fun d hd Es=>by
    cases Es with
    | nil=>exact .inr rfl
    | cons E Es'=>left;cases d <;> simp[DU,dd] at hd <;> simp[Instr.findNow,Instr.sameNow]
   rcases hnow i.und ha Es with h9 | h9
   ·obtain⟨r',hrr,hf'⟩:=key es Es 0 r hE h
    exact⟨r',by simp[Instr.findKey,hu,h9,hrr],hf'⟩
   ·subst h9
    have:es=[]:=List.eq_nil_of_length_eq_zero hE.1
    subst this
    injection h with h;subst h
    exact⟨none,by simp[Instr.findKey,hu,Instr.findNow],trivial⟩

theorem Ck.map (hs:Ck H R w) {id c:Nat} (hid:R.f id=some (c,0)) {o:Lf} (ho:JU (H.get id)=some o):∃ Es,w.heap[c]?=some (.map Es o.clock)∧CR R o.es Es.toList:=by
 have h:=hs.obj id c 0 hid
 rw[DI ho] at h
 exact h.2
theorem run_getObj_map {c:Nat} {Es:Array MapEntry} {cl:Nat} (h:w.heap[c]?=some (.map Es cl)):(getObj c).run P w = .ok (.map Es cl) w:=by
 simp[getObj,Sem.run,h]
theorem run_setObj_map {c:Nat} {Es:Array MapEntry} {cl:Nat} (h:w.heap[c]?=some (.map Es cl)) (o:Obj):(setObj c o).run P w = .ok () { w with heap:=w.heap.setIfInBounds c o }:=by
 simp[setObj,Sem.run,h]

theorem DX {β:Type} {t:TypeId} {k:TypeId→TypeId→Option β} {r:β} (h:II tt t k=some r):∃ i kt et,tt t=some i∧i.und = .map kt et∧k kt et=some r:=by
 obtain⟨i,hi,h1⟩:=Ab h
 obtain⟨p,hp,h2⟩:=Ab h1
 rw[Bg] at h2
 exact⟨i,p.1,p.2,hi,PY hp,h2⟩

include hT in
theorem YZ (hs:Ck H R w) {t:TypeId} {x x' v:Value} (h:Z4 tt H t x=some (v,H')) (hx:VR R x x'):∃ u w' R',(Instr.range t x').run P w = .ok u w'∧VR R' v u∧Ba H R w H' R' w':=by
 obtain⟨i,kt,et,hi,hd,h1⟩:=DX h
 obtain⟨mo,hmo,h2⟩:=Ab h1
 have:=EW hmo;subst this
 have hu:=hT.run_und hi w
 rw[hd] at hu
 cases mo with
 | none =>
  injection h2 with h2;injection h2 with e1 e2;subst e1;subst e2
  rw[hx.mapNil_l]
  have hp:=Jl (o:=.iter none 0 [] 0) (ob:=.mapIter none 0 #[] 0) 0 hs (fun C t fz e=>by cases e) (by simp[AJ.ancOf]) (fun R' _ _=>⟨rfl,none,#[],rfl,rfl,rfl⟩)
  exact⟨.pointer (some ⟨w.heap.size,0,none⟩),_,_,by simp[Instr.range,hu],by simpa using VR.ptr (off:=0) (Ren.ext_new R H.next w.heap.size 0 0),hp⟩
 | some id =>
  simp only[Ac] at h2
  obtain⟨o,ho,h3⟩:=Ab h2
  injection h3 with h3;injection h3 with e1 e2;subst e1;subst e2
  obtain⟨c,hid,rfl⟩:=hx.map_l
  obtain⟨Es,hE,hEs⟩:=hs.map hid ho
  have hp:=Jl (o:=.iter (some id) o.clock [] o.clock) (ob:=.mapIter (some c) o.clock #[] o.clock) 0 hs (fun C t fz e=>by cases e) (by simp[AJ.ancOf]) (fun R' hle _=>⟨rfl,some c,#[],rfl,rfl,c,(hle.1 id c 0 hid).1,rfl⟩)
  refine⟨.pointer (some ⟨w.heap.size,0,none⟩),_,_,?_,by simpa using VR.ptr (off:=0) (Ren.ext_new R H.next w.heap.size 0 0),hp⟩
  simp[Instr.range,hu,run_getObj_map hE]

theorem NF {o:AJ} {it:Q0} (h:Xj o=some it):o = .iter it.m it.since it.seen it.st:=by
 cases o <;> first | (cases h;done) | (injection h with h;subst h;rfl)
theorem Tm:∀ l:List Nat,Xk l=l.getLast?
 | []=>rfl
 | [a]=>rfl
 | a :: b :: r => by
  have ih:=Tm (b::r)
  show Xk (b::r)=_
  rw[ih];simp[List.getLast?_cons_cons]
theorem Tn {R : Ren} {s : Nat} : ∀ {es : List EO} {Es : List MapEntry} {e : EO}, CR R es Es → Xl s es = some e → ∃ E, Es.find? (fun e => e.born == s) = some E ∧ Tc R e E
 | [],_,_,_,h=>by cases h
 | a :: es, Es, e, hE, h => by
  obtain⟨A,Es',rfl,hA,hE'⟩:=hE.uncons
  have h:bb (Nat.beq a.born s) (some a) (Xl s es)=some e:=h
  rw[BL] at h
  split at h
  ·rename_i hb
   injection h with h;subst h
   have hb:=Nat.eq_of_beq_eq_true hb
   refine⟨A,?_,hA⟩
   rw[List.find?_cons]
   have:(A.born == s)=true:=by rw[←hA.2.2,hb];simp
   rw[this]
  ·rename_i hb
   obtain⟨E,h1,h2⟩:=Tn hE' h
   refine⟨E,?_,h2⟩
   rw[List.find?_cons]
   have:(A.born == s)=false:=by
    cases hc:A.born == s with
    | false=>rfl
    | true =>
     rw[beq_iff_eq] at hc
     exact absurd (by rw[hA.2.2,hc];exact Nat.beq_refl s) hb
   rw[this];exact h1
theorem Y0 (hs:Ck H R w) {x x' v:Value} (h:Z5 H x=some v) (hx:VR R x x'):∃ u,(Instr.entry x').run P w = .ok u w∧VR R v u:=by
 obtain⟨p,hp,h1⟩:=Ab h
 rw[Bg] at h1
 obtain⟨h0,h2⟩:=Ae h1
 obtain⟨it,hit,h3⟩:=Ab h2
 obtain⟨mid,hmid,h4⟩:=Ab h3
 obtain⟨o,ho,h5⟩:=Ab h4
 obtain⟨e,he,h6⟩:=Ab h5
 injection h6 with h6;subst h6
 obtain⟨hc,h7⟩:=Ae (show bb (Nat.beq o.clock it.st) (oo (Xk it.seen) none fun s=>Xl s o.es) none=some e from he)
 obtain⟨s,hls,hf⟩:=Ab h7
 have hc:=Nat.eq_of_beq_eq_true hc
 have h0:=Nat.eq_of_beq_eq_true h0
 have hxv:x = .pointer (some ⟨p.1,0,none⟩):=by
  have:=Dg (v:=x) (p:=p) hp
  rw[this,h0]
 subst hxv
 generalize hq:x'=u at hx
 cases hx with
 | @ptr _ off c β hfid =>
  have hob:=hs.obj p.1 c β hfid
  rw[NF hit] at hob
  obtain⟨hβ,m',S,hcell,hS,hm⟩:=hob
  subst hβ
  rw[hmid] at hm
  obtain⟨cm,hmf,hm'⟩:=hm
  subst hm'
  obtain⟨Es,hE,hEs⟩:=hs.map hmf ho
  obtain⟨E,hE1,hE2⟩:=Tn hEs hf
  have hback:S.back?=some s:=by
   rw[Tm,←hS] at hls
   rw[←hls];simp[Array.back?,List.getLast?_eq_getElem?]
  refine⟨.tuple #[E.key,E.val],?_,?_⟩
  ·subst hq
   have hfa:Es.find? (fun e=>e.born == s)=some E:=by rw[←Array.find?_toList];exact hE1
   simp[Instr.entry,getObj,Sem.run,hcell,hback,hE,hc,hfa,Result.andThen]
  ·have hvl:Cf R [e.key,e.val] [E.key,E.val]:=.cons hE2.1 (.cons hE2.2.1 .nil)
   exact .tuple hvl.1 hvl.2

theorem aL {ok b:Bool} {x y v:Value} (h:okV ok x b=some v) (hv:VR R x y):VR R v (if ok then .tuple #[y,.bool b] else y):=by
 injection h with h;subst h
 cases ok
 ·exact hv
 ·exact .tuple rfl (Cf.cons hv (.cons (.bool b) .nil)).2

include hT in
theorem Vq (hs:Ck H R w) {t:TypeId} {m k m' k' v:Value} {ok:Bool} (h:Jk tt H t m k ok=some v) (hm:VR R m m') (hk:VR R k k'):∃ u,(Instr.lookup t m' k' ok).run P w = .ok u w∧VR R v u:=by
 obtain⟨i,kt,et,hi,hd,h1⟩:=DX h
 obtain⟨hko,h2⟩:=Ae h1
 obtain⟨r,hr,h3⟩:=Ab h2
 obtain⟨mo,hmo,h4⟩:=Ab hr
 have hu:=hT.run_und hi w
 rw[hd] at hu
 have hkk:=Ic hko
 have:=EW hmo;subst this
 have fin : ∀ (Es : Array MapEntry) (r' : Option (Nat × Value)), NE R r r' → (Instr.findKey kt k' Es.toList).run P w = .ok r' w →
  ((m' = .map none∧Es = #[])∨∃ c cl,m' = .map (some c)∧w.heap[c]?=some (.map Es cl)) →
  ∃ u,(Instr.lookup t m' k' ok).run P w = .ok u w∧VR R v u:=fun Es r' hf hfk hes=>by
  have hck:=GN (w:=w) hT hkk hk Es.isEmpty
  cases r with
  | none =>
   cases r' with
   | some q=>exact hf.elim
   | none =>
    obtain⟨z,hz,h5⟩:=Ab (show oo (zeroOf tt et) none (fun z=>okV ok z false)=some v from h3)
    obtain⟨ie,hie,hiz⟩:=GM hz
    have hzr:=hT.run_zero hie hiz w
    refine⟨if ok then .tuple #[z,.bool false] else z,?_,aL h5 (Kn (hT.plain _ _ _ hie hiz))⟩
    rcases hes with⟨rfl,rfl⟩ | ⟨c,cl,rfl,hE⟩
    ·simp only[Instr.lookup,Sem.run_bind,hu,Result.andThen_ok,hck,hfk,hzr,Sem.run_pure]
    ·simp only[Instr.lookup,Sem.run_bind,hu,Result.andThen_ok,run_getObj_map hE,hck,hfk,hzr,Sem.run_pure]
  | some p =>
   cases r' with
   | none=>exact hf.elim
   | some q =>
    have h5:okV ok p.2 true=some v:=by rw[Ac,Bg] at h3;exact h3
    refine⟨if ok then .tuple #[q.2,.bool true] else q.2,?_,aL h5 hf.2⟩
    rcases hes with⟨rfl,rfl⟩ | ⟨c,cl,rfl,hE⟩
    ·simp only[Instr.lookup,Sem.run_bind,hu,Result.andThen_ok,hck,hfk,Sem.run_pure]
    ·simp only[Instr.lookup,Sem.run_bind,hu,Result.andThen_ok,run_getObj_map hE,hck,hfk,Sem.run_pure]
 cases mo with
 | none =>
  have:=hm.mapNil_l;subst this
  simp only[Az] at h4
  injection h4 with h4;subst h4
  exact fin #[] none trivial (by
   obtain⟨r',hr',hf'⟩:=Ga (w:=w) (es:=[]) (Es:=[]) (r:=none) hT hkk hk ⟨rfl,by simp⟩ rfl
   cases r' with
   | none=>exact hr'
   | some=>exact hf'.elim) (.inl ⟨rfl,rfl⟩)
 | some id =>
  simp only[Ac] at h4
  obtain⟨o,ho,h5⟩:=Ab h4
  obtain⟨c,hid,rfl⟩:=hm.map_l
  obtain⟨Es,hE,hEs⟩:=hs.map hid ho
  obtain⟨r',hr',hf'⟩:=Ga (w:=w) hT hkk hk hEs h5
  exact fin Es r' hf' hr' (.inr ⟨c,o.clock,rfl,hE⟩)

theorem Mk {x y:Value} (h:DK x y=some true) (n:Nat):Instr.sameBits n y x=true:=by
 cases x <;> simp only[DK,vv] at h <;> try (cases h;done)
 case bool a=>
  obtain⟨c,hc,h1⟩:=Ab h
  have:=BV hc;subst this
  rw[mY] at h1;injection h1 with h1
  have:a=c:=by simpa using h1
  subst this;cases n <;> simp[Instr.sameBits]
 case int k a=>
  obtain⟨q,hq,h1⟩:=Ab h
  rw[Bg] at h1
  obtain⟨h2,h3⟩:=Ae h1
  have:=Cm hq;subst this
  have:=CZ h2
  rw[Lr] at h3;injection h3 with h3
  have h4:a=q.2:=by simpa using h3
  rw[this,h4];cases n <;> simp[Instr.sameBits]
 case string a=>
  obtain⟨c,hc,h1⟩:=Ab h
  have:=Cw hc;subst this
  injection h1 with h1
  have:a=c:=(Go.MapKept.bytes_beq a c).mp h1
  subst this;cases n <;> (simp only[Instr.sameBits];exact h1)
theorem Vr {x y:Value} (h:IG x y=some true):Instr.sameBits 10000 y x=true:=by
 unfold IG at h
 cases hx:Bt x with
 | none=>rw[hx,Az] at h;exact Mk h _
 | some xs =>
  rw[hx,Ac] at h
  obtain⟨ys,hy,h1⟩:=Ab h
  have:=BQ hx;subst this
  have:=BQ hy;subst this
  have key:∀ (xs ys:List Value),Cj xs ys=some true→((ys.zip xs).all fun (p:Value×Value)=>Instr.sameBits 9999 p.1 p.2)=true:=by
   intro xs
   induction xs with
   | nil => intro ys h; cases ys with
    | nil=>rfl
    | cons=>cases h
   | cons x xs ih =>
    intro ys h
    cases ys with
    | nil=>cases h
    | cons y ys =>
     have h:oo (DK x y) none (fun b=>oo (Cj xs ys) none fun c=>some (an b c))=some true:=h
     obtain⟨p,hp,h1⟩:=Ab h
     obtain⟨q,hq,h2⟩:=Ab h1
     injection h2 with h2
     obtain⟨rfl,rfl⟩:=Av h2
     simp only[List.zip_cons_cons,List.all_cons,Bool.and_eq_true]
     exact⟨Mk hp _,ih ys hq⟩
  have hl:=Mj h1
  show ((⟨ys⟩:Array Value).size == (⟨xs⟩:Array Value).size && ((⟨ys⟩:Array Value).toList.zip (⟨xs⟩:Array Value).toList).all fun (x,y)=>Instr.sameBits 9999 x y)=true
  simp only[Bool.and_eq_true]
  exact⟨by simp[hl],key xs ys h1⟩

theorem aM {R:Ren} {x y x' y':Value} {b:Bool} (h:IG x y=some b) (hx:VR R x x') (hy:VR R y y'):IG x' y'=some b:=by
 unfold IG at h ⊢
 cases ha:Bt x with
 | some xs =>
  rw[ha,Ac] at h
  obtain⟨ys,hys,h1⟩:=Ab h
  have:=BQ ha;subst this
  have:=BQ hys;subst this
  obtain⟨us,rfl,h2⟩:=hx.agg_l
  obtain⟨vs,rfl,h3⟩:=hy.agg_l
  exact IP h1 h2 h3
 | none =>
  rw[ha,Az] at h
  have:Bt x'=none:=by cases hx <;> first | rfl | (simp[Bt,vv] at ha;done) | (cases h)
  rw[this,Az]
  exact PX h hx hy

theorem IQ {k:Value} {es:List EO} {i j:Nat} {v:Value} (h:GD k es i=some (some (j,v))):i≤j∧∃ e,es[j - i]?=some e∧IG k e.key=some true∧e.val=v:=by
 induction es generalizing i with
 | nil=>injection h with h;cases h
 | cons e es ih =>
  obtain⟨b,hb,h1⟩:=JZ h
  cases b with
  | true=>injection h1 with h1;injection h1 with h1;injection h1 with h1 h2;subst h1;subst h2;exact⟨Nat.le_refl _,e,by simp,hb,rfl⟩
  | false =>
   obtain⟨h2,e',h3,h4,h5⟩:=ih h1
   refine⟨by omega,e',?_,h4,h5⟩
   rw[show j - i=(j - (i+1))+1 by omega,List.getElem?_cons_succ];exact h3

theorem aN {α:Type} (f:α→α) (i:Nat) (l:List α) (j:Nat):(SS f i l)[j]?=if j=i then (l[j]?).map f else l[j]?:=by
 induction i generalizing l j with
 | zero => cases l with
  | nil=>show ([]:List α)[j]?=_;simp
  | cons a l=>show (f a::l)[j]?=_;cases j <;> simp
 | succ i ih => cases l with
  | nil=>show ([]:List α)[j]?=_;simp
  | cons a l =>
   show (a::SS f i l)[j]?=_
   cases j with
   | zero=>simp
   | succ j=>simp[ih]
theorem Tp {α:Type} (f:α→α) (i:Nat) (l:List α):(SS f i l).length=l.length:=by
 induction i generalizing l with
 | zero => cases l with
  | nil=>rfl
  | cons a l=>rfl
 | succ i ih => cases l with
  | nil=>rfl
  | cons a l=>show (a::SS f i l).length=_;simp[ih]
theorem CR.modify {R:Ren} {es:List EO} {Es:Array MapEntry} (h:CR R es Es.toList) (i:Nat) {f:EO→EO} {g:MapEntry→MapEntry} (hfg:∀ e E,es[i]?=some e→Es[i]?=some E→Tc R e E→Tc R (f e) (g E)) :
 CR R (SS f i es) (Es.modify i g).toList:=by
 refine⟨by rw[Tp];simpa using h.1,fun j e E he hE=>?_⟩
 rw[aN] at he
 rw[Array.getElem?_toList,Array.getElem?_modify] at hE
 split at he
 ·rename_i hj
  subst hj
  rw[if_pos rfl] at hE
  cases h1:es[j]? with
  | none=>rw[h1] at he;cases he
  | some e0 =>
   cases h2:Es[j]? with
   | none=>rw[h2] at hE;cases hE
   | some E0 =>
    rw[h1] at he;rw[h2] at hE
    injection he with he;injection hE with hE
    subst he;subst hE
    exact hfg e0 E0 h1 h2 (h.2 j e0 E0 h1 (by simpa using h2))
 ·rename_i hj
  rw[if_neg (Ne.symm hj)] at hE
  exact h.2 j e E he (by simpa using hE)
theorem CR.push {R:Ren} {es:List EO} {Es:Array MapEntry} (h:CR R es Es.toList) {e:EO} {E:MapEntry} (he:Tc R e E):CR R (Br es [e]) (Es.push E).toList:=by
 rw[BH]
 refine⟨by simpa using h.1,fun j a A ha hA=>?_⟩
 have hl:es.length=Es.size:=by simpa using h.1
 by_cases hj:j < es.length
 ·rw[List.getElem?_append_left hj] at ha
  rw[Array.toList_push,List.getElem?_append_left (by simpa using (by omega:j < Es.size))] at hA
  exact h.2 j a A ha hA
 ·rw[List.getElem?_append_right (by omega)] at ha
  rw[Array.toList_push,List.getElem?_append_right (by simp;omega)] at hA
  simp only[Array.length_toList] at hA
  rw[←hl] at hA
  cases hd:j - es.length with
  | zero=>rw[hd] at ha hA;simp at ha hA;subst ha;subst hA;exact he
  | succ n=>rw[hd] at ha;simp at ha

theorem FR {m:Value} {p:Nat×Lf} (h:Kk H m=some p):m = .map (some p.1)∧JU (H.get p.1)=some p.2:=by
 obtain⟨mo,hmo,h1⟩:=Ab h
 obtain⟨id,rfl,h2⟩:=Ab h1
 obtain⟨o,ho,h3⟩:=Ab h2
 injection h3 with h3;subst h3
 exact⟨EW hmo,ho⟩

theorem Tq {R:Ren} {k k':Value} {e:EO} {E:MapEntry} (hk:VR R k k') (he:VR R e.key E.key) (h:IG k e.key=some true):(Instr.keyThatStays E.key k').run P w = .ok k' w:=by
 have:=Vr (aM h hk he)
 simp[Instr.keyThatStays,this]

include hT in
theorem JG (hs:Ck H R w) {t:TypeId} {m k x m' k' x':Value} (h:JV tt H t m k x=some H') (hm:VR R m m') (hk:VR R k k') (hx:VR R x x') :
 ∃ w',(Instr.mapUpdate t m' k' x').run P w = .ok () w'∧Ba H R w H' R w':=by
 obtain⟨i,kt,et,hi,hd,h1⟩:=DX h
 obtain⟨p,hp,h2⟩:=Ab h1
 rw[Bg] at h2
 obtain⟨hko,h3⟩:=Ae h2
 obtain⟨r,hr,h4⟩:=Ab h3
 obtain⟨hme,ho⟩:=FR hp
 subst hme
 obtain⟨c,hid,rfl⟩:=hm.map_l
 obtain⟨Es,hE,hEs⟩:=hs.map hid ho
 have hu:=hT.run_und hi w
 rw[hd] at hu
 have hkk:=Ic hko
 have hck:=GN (w:=w) hT hkk hk false
 obtain⟨r',hr',hf⟩:=Ga (w:=w) hT hkk hk hEs hr
 cases r with
 | none =>
  cases r' with
  | some=>exact hf.elim
  | none =>
   simp only[Az] at h4
   injection h4 with h4;subst h4
   refine⟨_,?_,Fu hs (DI ho) hid (hEs.push (E:={ key:=k',val:=x',born:=p.2.clock }) ⟨hk,hx,rfl⟩)⟩
   simp only[Instr.mapUpdate,Sem.run_bind,hu,Result.andThen_ok,run_getObj_map hE,hck,hr',run_setObj_map hE]
 | some q =>
  cases r' with
  | none=>exact hf.elim
  | some q' =>
   rw[Ac,Bg] at h4
   injection h4 with h4;subst h4
   obtain⟨hle,e,he,hke,_⟩:=IQ hr
   rw[Nat.sub_zero] at he
   have hq:q.1=q'.1:=hf.1
   have hlt:q.1 < Es.size:=by
    have:=(List.getElem?_eq_some_iff.1 he).1
    rw[←Array.length_toList,←hEs.1];exact this
   have hEe:Es.toList[q.1]?=some Es[q.1]:=by simp[hlt]
   have hst:=Tq (P:=P) (w:=w) hk (hEs.2 q.1 e _ he hEe).1 hke
   refine⟨_,?_,Fu hs (DI ho) hid (hEs.modify q.1 (f:=fun e=>⟨k,x,e.born⟩) (g:=fun E=>{ E with key:=k',val:=x' }) fun e E _ _ h9=>⟨hk,hx,h9.2.2⟩)⟩
   have hget:Es[q'.1]?=some Es[q.1]:=by rw[←hq];simp[hlt]
   simp only[Instr.mapUpdate,Sem.run_bind,hu,Result.andThen_ok,run_getObj_map hE,hck,hr',hget,Option.map_some,Option.getD_some,hst,run_setObj_map hE]
   rw[hq]

include hT in
theorem Re (hs:Ck H R w) {t:TypeId} {m k m' k' v:Value} (h:PT tt H t m k=some (v,H')) (hm:VR R m m') (hk:VR R k k') :
 ∃ u w' R',(Instr.mapEntry t m' k').run P w = .ok u w'∧VR R' v u∧Ba H R w H' R' w':=by
 obtain⟨i,kt,et,hi,hd,h1⟩:=DX h
 obtain⟨p,hp,h2⟩:=Ab h1
 rw[Bg] at h2
 obtain⟨hko,h3⟩:=Ae h2
 obtain⟨r,hr,h4⟩:=Ab h3
 obtain⟨hme,ho⟩:=FR hp
 subst hme
 obtain⟨c,hid,rfl⟩:=hm.map_l
 obtain⟨Es,hE,hEs⟩:=hs.map hid ho
 have hu:=hT.run_und hi w
 rw[hd] at hu
 have hkk:=Ic hko
 have hck:=GN (w:=w) hT hkk hk false
 obtain⟨r',hr',hf⟩:=Ga (w:=w) hT hkk hk hEs hr
 cases r with
 | none =>
  cases r' with
  | some=>exact hf.elim
  | none =>
   simp only[Az] at h4
   obtain⟨z,hz,h5⟩:=Ab h4
   injection h5 with h5;injection h5 with e1 e2;subst e1;subst e2
   obtain⟨ie,hie,hiz⟩:=GM hz
   have hzr:=hT.run_zero hie hiz w
   have hzv:VR R z z:=Kn (hT.plain _ _ _ hie hiz)
   refine⟨.tuple #[z,goInt p.2.clock],_,R,?_,.tuple rfl (Cf.cons hzv (.cons (.int _ _) .nil)).2,Fu hs (DI ho) hid (hEs.push (E:={ key:=k',val:=z,born:=p.2.clock }) ⟨hk,hzv,rfl⟩)⟩
   simp only[Instr.mapEntry,Sem.run_bind,hu,Result.andThen_ok,run_getObj_map hE,hck,hr',hzr,run_setObj_map hE,Sem.run_pure]
 | some q =>
  cases r' with
  | none=>exact hf.elim
  | some q' =>
   rw[Ac,Bg] at h4
   obtain⟨e,he,h5⟩:=Ab h4
   rw[BZ] at he
   injection h5 with h5;injection h5 with e1 e2;subst e1;subst e2
   obtain⟨hle,e',he',hke,_⟩:=IQ hr
   rw[Nat.sub_zero,he] at he'
   injection he' with he';subst he'
   have hq:q.1=q'.1:=hf.1
   have hlt:q.1 < Es.size:=by
    have:=(List.getElem?_eq_some_iff.1 he).1
    rw[←Array.length_toList,←hEs.1];exact this
   obtain⟨E0,hE0⟩:∃ E0,Es[q.1]?=some E0:=⟨Es[q.1],by simp[hlt]⟩
   have hEe:Es.toList[q.1]?=some E0:=by simpa using hE0
   have hee:=hEs.2 q.1 e _ he hEe
   have hst:=Tq (P:=P) (w:=w) hk hee.1 hke
   have hget:Es[q'.1]?=some E0:=by rw[←hq];exact hE0
   refine⟨.tuple #[q'.2,goInt E0.born],_,R,?_,.tuple rfl (Cf.cons hf.2 (.cons (by rw[hee.2.2];exact .int _ _) .nil)).2,Fu hs (DI ho) hid (hEs.modify q.1 (f:=fun e=>⟨k,e.val,e.born⟩) (g:=fun E=>{ E with key:=k' }) fun e E _ _ h9=>⟨hk,h9.2.1,h9.2.2⟩)⟩
   simp only[Instr.mapEntry,Sem.run_bind,hu,Result.andThen_ok,run_getObj_map hE,hck,hr',hget,Option.map_some,Option.getD_some,hst,run_setObj_map hE,Sem.run_pure]
   rw[hq]

theorem Rf {s:Nat} {es:List EO} {i j:Nat} (h:U2 s es i=some j) {Es:List MapEntry} (hE:CR R es Es):i≤j∧Es.findIdx? (fun e=>(e.born:Int) == (s:Int))=some (j - i):=by
 induction es generalizing i Es with
 | nil=>cases h
 | cons e es ih =>
  obtain⟨E,Es',rfl,h1,h2⟩:=hE.uncons
  have h:bb (Nat.beq e.born s) (some i) (U2 s es (i+1))=some j:=h
  rw[BL] at h
  split at h
  ·rename_i hb
   have hb:=Nat.eq_of_beq_eq_true hb
   injection h with h;subst h
   refine⟨Nat.le_refl _,?_⟩
   have:((E.born:Int) == (s:Int))=true:=by rw[←h1.2.2,hb];simp
   simp[List.findIdx?_cons,this]
  ·rename_i hb
   have hne:¬ ((E.born:Int)=(s:Int)):=by
    intro e2
    apply hb
    rw[h1.2.2]
    have h9:E.born=s:=by omega
    rw[h9]
    simp
   obtain⟨h3,h4⟩:=ih h h2
   refine⟨by omega,?_⟩
   simp only[List.findIdx?_cons,h4]
   simp[hne]
   omega

theorem NG (hs:Ck H R w) {t:TypeId} {m s x m' s' x':Value} (h:Md H m s x=some H') (hm:VR R m m') (hsv:VR R s s') (hx:VR R x x') :
 ∃ w',(Instr.entryStore t m' s' x').run P w = .ok () w'∧Ba H R w H' R w':=by
 obtain⟨p,hp,h1⟩:=Ab h
 rw[Bg] at h1
 obtain⟨n,hn,h2⟩:=Ab h1
 obtain⟨j,hj,h3⟩:=Ab h2
 injection h3 with h3;subst h3
 obtain⟨hme,ho⟩:=FR hp
 subst hme
 obtain⟨c,hid,rfl⟩:=hm.map_l
 obtain⟨Es,hE,hEs⟩:=hs.map hid ho
 obtain⟨kd,rfl⟩:=hsv.nat_l hn
 obtain⟨_,hfi⟩:=Rf hj hEs
 rw[Nat.sub_zero] at hfi
 have hfi':Es.findIdx? (fun e=>(e.born:Int) == (n:Int))=some j:=by
  obtain⟨l⟩:=Es
  simpa using hfi
 refine⟨_,?_,Fu hs (DI ho) hid (hEs.modify j (f:=fun e=>⟨e.key,x,e.born⟩) (g:=fun E=>{ E with val:=x' }) fun e E _ _ h9=>⟨h9.1,hx,h9.2.2⟩)⟩
 simp only[Instr.entryStore,Sem.run_bind,run_getObj_map hE,Result.andThen_ok,asInt,asIntOf,Sem.run_pure,hfi',run_setObj_map hE]

include hT in
theorem Rh (hs:Ck H R w) {t ty:TypeId} {x x':Value} (h:Li tt H t x=some H') (hx:VR R x x'):∃ u w',(Builtin.clear_ #[t] ty #[x']).run P w = .ok u w'∧u = .tuple #[]∧Ba H R w H' R w':=by
 obtain⟨i,kt,et,hi,hd,h1⟩:=DX h
 obtain⟨mo,hmo,h2⟩:=Ab h1
 have:=EW hmo;subst this
 have hu:=hT.run_und hi w
 rw[hd] at hu
 cases mo with
 | none =>
  injection h2 with h2;subst h2
  rw[hx.mapNil_l]
  exact⟨_,w,by simp[Builtin.clear_,hu],rfl,.refl hs⟩
 | some id =>
  simp only[Ac] at h2
  obtain⟨o,ho,h3⟩:=Ab h2
  injection h3 with h3;subst h3
  obtain⟨c,hid,rfl⟩:=hx.map_l
  obtain⟨Es,hE,hEs⟩:=hs.map hid ho
  refine⟨_,_,?_,rfl,Fu (Es':=#[]) hs (DI ho) hid ⟨rfl,by simp⟩⟩
  simp[Builtin.clear_,hu,run_getObj_map hE,run_setObj_map hE]

include hT in
theorem Y1 (hs:Ck H R w) {t ty:TypeId} {x x':Value} (h:Z6 tt H t x=some H') (hx:VR R x x'):∃ u w',(Builtin.clear_ #[t] ty #[x']).run P w = .ok u w'∧u = .tuple #[]∧Ba H R w H' R w':=by
 have h:oo (IA x) (Li tt H t x) (fun s=>oo (elemOf tt t) none fun ie=>oo ie.zero none fun z=>
  bb (an (Nat.beq (len (cellsOf z)) ie.size) (nt (Nat.beq s.len 0))) (Ej H s.id s.off (AF (cellsOf z) s.len)) none)=some H':=h
 cases hsl:IA x with
 | none=>rw[hsl,Az] at h;exact Rh hT hs h hx
 | some sv =>
  rw[hsl,Ac] at h
  obtain⟨ie,hie,h1⟩:=Ab h
  obtain⟨z,hz,h2⟩:=Ab h1
  obtain⟨hc,hw⟩:=Ae h2
  obtain⟨is,e,his,hd,hte⟩:=DW hie
  have hu:=hT.run_und his w
  rw[hd] at hu
  have hzr:=hT.run_zero hte hz w
  have hpz:=hT.plain _ _ _ hte hz
  simp only[CF,Km,Bool.and_eq_true] at hc
  have h0:sv.len≠0:=fun e=>by rw[e] at hc;exact absurd hc.2 (by decide)
  rcases hx.sl_l hsl with⟨c,β,cap,hid,rfl,_⟩ | ⟨c,o,rfl,k0,_⟩ | ⟨rfl,k0,_⟩
  ·obtain⟨C,t,hC,hcf,hone,hpost⟩:=F8 hs hw hid (Ev (Bw hpz) sv.len)
   have hst:=run_storeCells_at P c (β+sv.off) t _ 0 C w hC (by simpa using hcf) hone
   refine⟨_,_,?_,rfl,hpost⟩
   simp only[Nat.add_zero] at hst
   simp only[Builtin.clear_]
   simp[hu,hzr,Kv,hst]
  ·exact absurd k0 h0
  ·exact absurd k0 h0

theorem jZ {α:Type} (i:Nat) (l:List α):qD i l=l.eraseIdx i:=by
 induction i generalizing l with
 | zero=>cases l <;> rfl
 | succ i ih =>
  cases l with
  | nil=>rfl
  | cons a r =>
   show a::qD i r=_
   rw[ih];rfl

theorem CR.erase {R:Ren} {es:List EO} {Es:List MapEntry} (h:CR R es Es) (i:Nat):CR R (es.eraseIdx i) (Es.eraseIdx i):=by
 induction i generalizing es Es with
 | zero =>
  cases es with
  | nil=>rw[h.unnil];exact⟨rfl,by simp⟩
  | cons e es=>obtain⟨E,Es',rfl,_,h2⟩:=h.uncons;exact h2
 | succ i ih =>
  cases es with
  | nil=>rw[h.unnil];exact⟨rfl,by simp⟩
  | cons e es =>
   obtain⟨E,Es',rfl,h1,h2⟩:=h.uncons
   have h3:=ih h2
   refine⟨by simp[h3.1],fun j a A ha hA=>?_⟩
   cases j with
   | zero =>
    simp at ha hA;subst ha;subst hA;exact h1
   | succ j=>exact h3.2 j a A (by simpa using ha) (by simpa using hA)

include hT in
theorem Vs (hs:Ck H R w) {t ty:TypeId} {m k m' k':Value} (h:Xn tt H t m k=some H') (hm:VR R m m') (hk:VR R k k') :
 ∃ u w',(Builtin.delete_ #[t] ty #[m',k']).run P w = .ok u w'∧u = .tuple #[]∧Ba H R w H' R w':=by
 obtain⟨i,kt,et,hi,hd,h1⟩:=DX h
 obtain⟨p,hp,h2⟩:=Ab h1
 rw[Bg] at h2
 obtain⟨hko,h3⟩:=Ae h2
 obtain⟨r,hr,h4⟩:=Ab h3
 obtain⟨hme,ho⟩:=FR hp
 subst hme
 obtain⟨c,hid,rfl⟩:=hm.map_l
 obtain⟨Es,hE,hEs⟩:=hs.map hid ho
 have hu:=hT.run_und hi w
 rw[hd] at hu
 have hkk:=Ic hko
 have hck:=GN (w:=w) hT hkk hk Es.isEmpty
 obtain⟨r',hr',hf⟩:=Ga (w:=w) hT hkk hk hEs hr
 cases r with
 | none =>
  cases r' with
  | some=>exact hf.elim
  | none =>
   simp only[Az] at h4
   injection h4 with h4;subst h4
   refine⟨_,_,?_,rfl,Fu hs (DI ho) hid (Es':=Es) hEs⟩
   simp[Builtin.delete_,hu,run_getObj_map hE,hck,hr',run_setObj_map hE]
 | some q =>
  cases r' with
  | none=>exact hf.elim
  | some q' =>
   rw[Ac,Bg] at h4
   injection h4 with h4;subst h4
   have hq:q.1=q'.1:=hf.1
   obtain⟨hle,e,he,hke,_⟩:=IQ hr
   rw[Nat.sub_zero] at he
   have hlt:q.1 < Es.size:=by
    have:=(List.getElem?_eq_some_iff.1 he).1
    rw[←Array.length_toList,←hEs.1];exact this
   have hlist:(Es.eraseIdxIfInBounds q'.1).toList=Es.toList.eraseIdx q.1:=by
    rw[←hq]
    simp[Array.eraseIdxIfInBounds,hlt]
   refine⟨_,_,?_,rfl,Fu hs (DI ho) hid (Es':=Es.eraseIdxIfInBounds q'.1) (by rw[hlist,jZ];exact hEs.erase q.1)⟩
   simp[Builtin.delete_,hu,run_getObj_map hE,hck,hr',run_setObj_map hE]
end
end Go.Sp
