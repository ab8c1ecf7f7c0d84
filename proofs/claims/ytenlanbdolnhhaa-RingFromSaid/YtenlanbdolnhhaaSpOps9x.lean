/- Made from wip. -/
import Derived.Test.YtenlanbdolnhhaaSpOps5x

namespace Go.Sp

section
variable {P:Program} {tt:TT} (hT:TOk P tt) {H H':AHeap} {R:Ren} {w:World}

theorem elemOf_some {t:TypeId} {ie:TI} (h:elemOf tt t=some ie):∃ i e,tt t=some i∧i.und = .slice e∧tt e=some ie:=by
 obtain⟨i,hi,h1⟩:=oo_inv h
 obtain⟨e,he,h2⟩:=oo_inv h1
 exact⟨i,e,hi,dSl_some he,h2⟩

theorem zeroRow_length (z:List Value) (n:Nat):(zeroRow z n).length=n*z.length:=by
 induction n with
 | zero=>show ([]:List Value).length=0*z.length;simp
 | succ n ih=>show (appL z (zeroRow z n)).length=_;simp[ih,Nat.add_mul];omega
theorem zeroRow_get (z:List Value) (hz:0 < z.length) (n i:Nat) (hi:i < n*z.length):(zeroRow z n)[i]?=z[i % z.length]?:=by
 induction n generalizing i with
 | zero=>simp at hi
 | succ n ih =>
  show (appL z (zeroRow z n))[i]?=_
  rw[appL_eq]
  by_cases h:i < z.length
  ·rw[List.getElem?_append_left h,Nat.mod_eq_of_lt h]
  ·have e:i % z.length=(i - z.length) % z.length:=Nat.mod_eq_sub_mod (by omega)
   have h2:i < n*z.length+z.length:=by rw[←Nat.succ_mul];exact hi
   rw[List.getElem?_append_right (by omega),ih _ (by omega),e]
theorem zeroCells_eq (z:Array Value) (n:Nat):(Builtin.zeroCells z n).toList=zeroRow z.toList n:=by
 apply List.ext_getElem?
 intro i
 by_cases hi:i < n*z.size
 ·have hz:0 < z.size:=Nat.pos_of_ne_zero fun e=>by rw[e] at hi;simp at hi
  rw[zeroRow_get _ (by simpa using hz) _ _ (by simpa using hi)]
  have hm:i % z.size < z.size:=Nat.mod_lt _ hz
  simp[Builtin.zeroCells,hi,hm]
 ·rw[List.getElem?_eq_none (by simp[Builtin.zeroCells];omega),List.getElem?_eq_none (by rw[zeroRow_length];simp;omega)]
theorem zeroRow_VRL {R:Ren} {z z':List Value} (h:VRL R z z') (n:Nat):VRL R (zeroRow z n) (zeroRow z' n):=by
 induction n with
 | zero=>exact .nil
 | succ n ih=>show VRL R (appL z _) (appL z' _);rw[appL_eq,appL_eq];exact h.append ih

theorem slLen2_VR {R:Ren} {x x':Value} {n:Nat} (h:slLen2 x=some n) (hx:VR R x x'):∃ a c,x' = .slice a n c:=by
 unfold slLen2 at h
 cases hl:slLen x with
 | some m =>
  rw[hl,oo_some] at h
  injection h with h;subst h
  obtain⟨a,c,rfl⟩:=slLen_some hl
  cases hx <;> exact⟨_,_,rfl⟩
 | none =>
  rw[hl,oo_none] at h
  obtain⟨f,hf,h1⟩:=oo_inv h
  injection h1 with h1;subst h1
  rcases hx.fs_l hf with⟨k,_,rfl⟩ | ⟨_,k,_,c,o,sp,rfl⟩ | ⟨c,o,cap,C,hro,rfl,_⟩
  ·rw[k];exact⟨_,_,rfl⟩
  ·rw[k];exact⟨_,_,rfl⟩
  ·exact⟨_,_,rfl⟩

theorem sliceCells_ok (hs:Sim H R w) {sz n:Nat} {x x':Value} {new:List Value} (h:sliceCells H sz n x=some new) (hx:VR R x x') (hlen:slLen2 x=some n∨∃ m,slLen2 x=some m∧n≤m) :
 new.length=n*sz∧∃ zs,VRL R new zs∧∀ w2:World,w2.heap=w.heap→(Builtin.firstCells sz n x').run P w2 = .ok zs.toArray w2:=by
 unfold sliceCells at h
 cases hsl:vSl x with
 | none =>
  rw[hsl,oo_none] at h
  cases hf:vFs x with
  | some f =>
   rw[hf,oo_some,bb_eq] at h
   split at h
   ·rename_i h0
    have h0:=Nat.eq_of_beq_eq_true h0
    subst h0
    injection h with h;subst h
    refine⟨by simp,[],.nil,fun w2 _=>?_⟩
    rcases hx.fs_l hf with⟨_,_,rfl⟩ | ⟨_,_,_,c,o,sp,rfl⟩ | ⟨c,o,cap,C,hro,rfl,_⟩ <;> simp[Builtin.firstCells,loadCells,loadCellsFrom]
   ·rename_i h0
    have h0:n≠0:=fun e=>h0 (by rw[e];rfl)
    obtain⟨hc,h2⟩:=bb_inv h
    obtain⟨hc1,hc2⟩:=an_inv hc
    have hc1:=Nat.eq_of_beq_eq_true hc1
    have hc2:=Nat.le_of_ble_eq_true hc2
    injection h2 with h2;subst h2
    simp only[takeL_eq]
    rcases hx.fs_l hf with⟨k,_⟩ | ⟨_,k,_⟩ | ⟨c,o,cap,C,hro,rfl,hn,k1,k2,k3,hfit,hcr,hcl⟩
    ·omega
    ·omega
    ·obtain⟨⟨ty,fz,hC⟩,_⟩:=hs.ro c C hro
     have hmul:n*sz≤f.cs.length:=by rw[hn,hc1];exact Nat.mul_le_mul_right _ hc2
     have hst:=stretch hcr hfit 0 (n*sz) (by omega)
     simp only[List.drop_zero,Nat.add_zero] at hst
     refine⟨by simp;omega,_,hst,fun w2 hw2=>?_⟩
     simp only[Builtin.firstCells]
     exact run_stretch (by rw[hw2];exact hC) (by omega)
  | none=>
  rw[hf,oo_none] at h
  obtain⟨hn,h1⟩:=bb_inv h
  injection h1 with h1;subst h1
  have:=isNilSl_true hn;subst this
  have hn0:n=0:=by rcases hlen with h | ⟨m,h,hm⟩ <;> (simp[slLen2,slLen,vv] at h;omega)
  subst hn0
  rw[hx.slNil_l]
  exact⟨by simp,[],.nil,fun w2 _=>by simp[run_firstCells_none]⟩
 | some sv =>
  rw[hsl,oo_some] at h
  have h:bb (Nat.beq n 0) (some []) (oo (oCells (H.get sv.id)) none fun o=>bb (an (Nat.beq sv.sz sz) (Nat.ble (sv.off+n*sz) (len o.xs))) (some (takeL (n*sz) (dropL sv.off o.xs))) none)=some new:=h
  have hlen':n≤sv.len:=by
   have e:=vSl_some hsl
   rcases hlen with h | ⟨m,h,hm⟩ <;> (rw[e] at h;simp[slLen2,slLen,vv] at h;omega)
  rw[bb_eq] at h
  split at h
  ·rename_i h0
   have h0:=Nat.eq_of_beq_eq_true h0
   subst h0
   injection h with h;subst h
   refine⟨by simp,[],.nil,fun w2 _=>?_⟩
   rcases hx.sl_l hsl with⟨c,β,cap,hid,rfl,_⟩ | ⟨c,o,rfl,_⟩ | ⟨rfl,_⟩ <;> simp[Builtin.firstCells,loadCells,loadCellsFrom]
  ·rename_i h0
   have h0:n≠0:=fun e=>h0 (by rw[e];rfl)
   obtain⟨o,ho,h1⟩:=oo_inv h
   obtain⟨hc,h2⟩:=bb_inv h1
   obtain⟨hc1,hc2⟩:=an_inv hc
   have hc1:=Nat.eq_of_beq_eq_true hc1
   simp only[len_eq] at hc2
   have hc2:=Nat.le_of_ble_eq_true hc2
   injection h2 with h2;subst h2
   simp only[takeL_eq,dropL_eq]
   rcases hx.sl_l hsl with⟨c,β,cap,hid,rfl,_⟩ | ⟨c,o2,rfl,k0,_⟩ | ⟨rfl,k0,_⟩
   ·obtain⟨C,t,fz,hC,hsz,hcf,hcr⟩:=hs.cells hid ho
    refine⟨by simp;omega,_,stretch hcr hcf sv.off (n*sz) hc2,fun w2 hw2=>?_⟩
    simp only[Builtin.firstCells]
    exact run_stretch (by rw[hw2];exact hC) (by omega)
   ·omega
   ·omega

include hT in
theorem aappend_ok (hs:Sim H R w) {st xt ty:TypeId} {s x s' x' v:Value} (h:aappend tt H st xt s x=some (v,H')) (hsv:VR R s s') (hxv:VR R x x') :
 ∃ u w' R',(Builtin.append_ #[st,xt] ty #[s',x']).run P w = .ok u w'∧VR R' v u∧Post H R w H' R' w':=by
 obtain⟨ie,hie,h1⟩:=oo_inv h
 obtain⟨z,hz,h2⟩:=oo_inv h1
 obtain⟨hc,h3⟩:=bb_inv h2
 obtain⟨hc1,hb⟩:=an_inv hc
 simp only[len_eq] at hc1
 have hzs:=Nat.eq_of_beq_eq_true hc1
 rw[Nat.blt_eq] at hb
 obtain⟨ix,hix,h4⟩:=oo_inv h3
 obtain⟨is,e,his,hd,hte⟩:=elemOf_some hie
 have hu:=hT.run_und his w
 rw[hd] at hu
 have hux:=hT.run_und hix w
 have hsz:=hT.run_size hte w
 cases hdx:dSl ix.und with
 | some e2 =>
  rw[hdx,oo_some] at h4
  obtain⟨n,hn,h5⟩:=oo_inv h4
  obtain⟨new,hnew,h6⟩:=oo_inv h5
  rw[dSl_some hdx] at hux
  obtain⟨hnl,zs,hzv,hrun⟩:=sliceCells_ok (P:=P) hs hnew hxv (.inl hn)
  have hlen:(Builtin.lenOf x').run P w = .ok n w:=by
   obtain⟨a,c,rfl⟩:=slLen2_VR hn hxv
   simp[Builtin.lenOf]
  obtain⟨base,sLen,sCap,rfl,u,w',R',hr,hv,hp⟩:=append_core (zeros:=false) (appended:=Builtin.firstCells ie.size n x') (x:=x') hT hs hte hz hzs hb hsv hzv hnl h6 hrun
  refine⟨u,w',R',?_,hv,hp⟩
  rw[←hr]
  simp only[Builtin.append_,appendTail,Sem.run_bind,hu,hsz,Result.andThen_ok,List.getElem?_cons_zero,List.getElem?_cons_succ,hux,Sem.run_pure,hlen,Bool.false_eq_true,if_false,Bool.not_false,if_true,List.getElem?_toArray]
  try rfl
 | none =>
  rw[hdx,oo_none] at h4
  obtain⟨k,hk,h5⟩:=oo_inv h4
  obtain⟨n,hn,h6⟩:=oo_inv h5
  obtain⟨hmax,h7⟩:=bb_inv h6
  obtain⟨hmax,hroomy⟩:=an_inv hmax
  have hmax:=Nat.le_of_ble_eq_true hmax
  have hroomy:=Nat.le_of_ble_eq_true hroomy
  rw[dInt_some hk] at hux
  obtain⟨j,rfl⟩:=hxv.nat_l hn
  have hpz:=hT.plain _ _ _ hte hz
  have hzv:VRL R (zeroRow (cellsOf z) n) (zeroRow z.cells.toList n):=zeroRow_VRL (cellsOf_plain hpz) n
  have hzlen:z.cells.size=ie.size:=by
   rw[←Array.length_toList,←(cellsOf_plain (R:=R) hpz).1];exact hzs
  have hwrap:IntKind.i64.wrap (n:Int)=n:=IntWalk.i64_in _ (by omega)
  obtain⟨inf,hinf,_,hbt,_⟩:=hT.run_bytes hte w
  have hbig:¬ ((n:Int)*(inf.bytes:Int) > 2 ^ 48):=by
   rw[hbt]
   have h9:n*ie.bytes≤(4*n+4096)*ie.bytes:=Nat.mul_le_mul_right _ (by omega)
   have h8:((n*ie.bytes:Nat):Int)=(n:Int)*(ie.bytes:Int):=by push_cast;rfl
   rw[←h8]
   omega
  have hneg:¬ ((n:Int) < 0):=by omega
  have happ:∀ w2:World,w2.heap=w.heap→(if n*ie.size=0 then (pure #[]:Sem (Array Value)) else do pure (Builtin.zeroCells (←zeroValue e).cells n)).run P w2 = .ok (zeroRow z.cells.toList n).toArray w2:=fun w2 _=>by
   split
   ·rename_i h0
    have:zeroRow z.cells.toList n=[]:=List.eq_nil_of_length_eq_zero (by rw[zeroRow_length];simpa [hzlen] using h0)
    rw[this];rfl
   ·have:=hT.run_zero hte hz w2
    simp only[Sem.run_bind,this,Result.andThen_ok,Sem.run_pure]
    rw[←zeroCells_eq]
  obtain⟨base,sLen,sCap,rfl,u,w',R',hr,hv,hp⟩:=append_core (zeros:=true) (x:=.int j n) hT hs hte hz hzs hb hsv hzv (by rw[zeroRow_length,hzs]) h7 happ
  refine⟨u,w',R',?_,hv,hp⟩
  rw[←hr]
  simp only[Builtin.append_,appendTail,Sem.run_bind,hu,hsz,Result.andThen_ok,List.getElem?_cons_zero,List.getElem?_cons_succ,hux,Sem.run_pure,Bool.false_eq_true,if_false,Bool.not_true,if_true,List.getElem?_toArray,asInt,asIntOf,hwrap,hneg,hinf,hbig,Int.toNat_natCast]
  try rfl

theorem copy_min (a b:Nat):Nat.min a b≤a∧Nat.min a b≤b:=⟨Nat.min_le_left a b,Nat.min_le_right a b⟩

include hT in
theorem acopy_ok (hs:Sim H R w) {dt xt ty:TypeId} {d x d' x' v:Value} (h:acopy tt H dt d x=some (v,H')) (hdv:VR R d d') (hxv:VR R x x') :
 ∃ u w' R',(Builtin.copy_ #[dt,xt] ty #[d',x']).run P w = .ok u w'∧VR R' v u∧Post H R w H' R' w':=by
 obtain⟨ie,hie,h1⟩:=oo_inv h
 obtain⟨n,hn,h2⟩:=oo_inv h1
 obtain⟨is,e,his,hd,hte⟩:=elemOf_some hie
 have hu:=hT.run_und his w
 rw[hd] at hu
 have hsz:=hT.run_size hte w
 have hlen:(Builtin.lenOf x').run P w = .ok n w:=by
  obtain⟨a,c,rfl⟩:=slLen2_VR hn hxv
  simp[Builtin.lenOf]
 cases hsl:vSl d with
 | none =>
  rw[hsl,oo_none] at h2
  obtain⟨hnil,h3⟩:=bb_inv h2
  obtain⟨new,hnew,h4⟩:=oo_inv h3
  injection h4 with h4;injection h4 with e1 e2;subst e1;subst e2
  have:=isNilSl_true hnil;subst this
  rw[hdv.slNil_l]
  obtain⟨hnl,zs,hzv,hrun⟩:=sliceCells_ok (P:=P) hs hnew hxv (.inr ⟨n,hn,Nat.zero_le _⟩)
  refine⟨.int .i64 0,w,R,?_,.int _ _,.refl hs⟩
  have hr:=hrun w rfl
  simp[Builtin.copy_,hu,hsz,hlen,hr,goInt]
 | some sv =>
  rw[hsl,oo_some] at h2
  have h2:oo (sliceCells H ie.size (Nat.min n sv.len) x) none (fun new=>bb (Nat.beq sv.sz ie.size) (bb (Nat.beq (Nat.min n sv.len) 0) (some (gi 0,H)) (oo (awrite H sv.id sv.off new) none fun H'=>some (gi (Nat.min n sv.len),H'))) none)=some (v,H'):=h2
  obtain⟨new,hnew,h3⟩:=oo_inv h2
  obtain⟨hc,h4⟩:=bb_inv h3
  obtain⟨hnl,zs,hzv,hrun⟩:=sliceCells_ok (P:=P) hs hnew hxv (.inr ⟨n,hn,(copy_min n sv.len).1⟩)
  have hr:=hrun w rfl
  rw[bb_eq] at h4
  split at h4
  ·rename_i h0
   have h0:=Nat.eq_of_beq_eq_true h0
   injection h4 with h4;injection h4 with e1 e2;subst e1;subst e2
   have hz0:zs=[]:=List.eq_nil_of_length_eq_zero (by rw[←hzv.1,hnl,h0];simp)
   subst hz0
   refine⟨.int .i64 0,w,R,?_,.int _ _,.refl hs⟩
   rcases hdv.sl_l hsl with⟨c,β,cap,hid,rfl,_⟩ | ⟨c,o,rfl,k0,_⟩ | ⟨rfl,k0,_⟩
   ·rw[h0] at hr
    simp[Builtin.copy_,hu,hsz,hlen,h0,hr,goInt,storeCells]
   ·rw[h0] at hr
    rw[k0] at h0
    simp[Builtin.copy_,hu,hsz,hlen,h0,hr,goInt,storeCells]
   ·rw[h0] at hr
    rw[k0] at h0
    simp[Builtin.copy_,hu,hsz,hlen,h0,hr,goInt]
  ·rename_i h0
   have h0:Nat.min n sv.len≠0:=fun e=>h0 (by rw[e];rfl)
   obtain⟨H1,hw,h5⟩:=oo_inv h4
   injection h5 with h5;injection h5 with e1 e2;subst e1;subst e2
   rcases hdv.sl_l hsl with⟨c,β,cap,hid,rfl,k1,k2,k3,k4⟩ | ⟨c,o,rfl,k0,_⟩ | ⟨rfl,k0,_⟩
   ·obtain⟨C,t,hC,hcf,hone,hpost⟩:=post_write hs hw hid hzv
    have hst:=run_storeCells_at P c (β+sv.off) t zs 0 C w hC (by simpa using hcf) hone
    refine⟨_,_,R,?_,.int .i64 (.ofNat (Nat.min n sv.len)),hpost⟩
    simp only[Nat.add_zero] at hst
    simp[Builtin.copy_,hu,hsz,hlen,hr,hst,goInt]
   ·rw[k0] at h0;exact absurd (Nat.min_zero n) h0
   ·rw[k0] at h0;exact absurd (Nat.min_zero n) h0

include hT in
theorem alen_ok (hs:Sim H R w) {t ty:TypeId} {x x' v:Value} (h:alen tt H t x=some v) (hx:VR R x x'):(Builtin.len_ #[t] ty #[x']).run P w = .ok v w∧plain1 v=true:=by
 obtain⟨i,hi,h1⟩:=oo_inv h
 have hu:=hT.run_und hi w
 cases hd:dSl i.und with
 | some e =>
  rw[hd,oo_some] at h1
  obtain⟨n,hn,h2⟩:=oo_inv h1
  injection h2 with h2;subst h2
  obtain⟨a,c,rfl⟩:=slLen2_VR hn hx
  rw[dSl_some hd] at hu
  refine⟨?_,rfl⟩
  simp[Builtin.len_,hu,goInt,gi]
 | none =>
  rw[hd,oo_none] at h1
  cases hd2:dArr i.und with
  | some p =>
   rw[hd2,oo_some] at h1
   injection h1 with h1;subst h1
   rw[dArr_some hd2] at hu
   refine⟨?_,rfl⟩
   simp[Builtin.len_,hu,goInt,gi]
  | none =>
   rw[hd2,oo_none] at h1
   cases hd3:dMap i.und with
   | some p =>
    rw[hd3,oo_some] at h1
    obtain⟨m,hm,h2⟩:=oo_inv h1
    have:=vMap_some hm;subst this
    rw[dMap_some hd3] at hu
    cases m with
    | none =>
     simp only[oo_none] at h2
     injection h2 with h2;subst h2
     rw[hx.mapNil_l]
     exact⟨by simp[Builtin.len_,hu,goInt,gi],rfl⟩
    | some id =>
     simp only[oo_some] at h2
     obtain⟨o,ho,h3⟩:=oo_inv h2
     injection h3 with h3;subst h3
     obtain⟨c,hid,rfl⟩:=hx.map_l
     have hob:=hs.obj id c 0 hid
     rw[oMap_some ho] at hob
     obtain⟨_,Es,hE,hl,_⟩:=hob
     refine⟨?_,rfl⟩
     simp[Builtin.len_,hu,goInt,gi,getObj,Sem.run,hE,hl]
   | none =>
    rw[hd3,oo_none] at h1
    obtain⟨hstr,h2⟩:=bb_inv h1
    obtain⟨s,hss,h3⟩:=oo_inv h2
    injection h3 with h3;subst h3
    have:=vStr_some hss;subst this
    rw[hx.string_l]
    rw[isStrT_true hstr] at hu
    exact⟨by simp[Builtin.len_,hu,goInt,gi],rfl⟩

include hT in
theorem acap_ok {t ty:TypeId} {x x' v:Value} (h:acap tt t x=some v) (hx:VR R x x'):(Builtin.cap_ #[t] ty #[x']).run P w = .ok v w∧plain1 v=true:=by
 obtain⟨i,hi,h1⟩:=oo_inv h
 have hu:=hT.run_und hi w
 obtain⟨e,hd,h2⟩:=oo_inv h1
 rw[dSl_some hd] at hu
 cases hsl:vSl x with
 | none =>
  rw[hsl,oo_none] at h2
  cases hf:vFs x with
  | some f =>
   rw[hf,oo_some] at h2
   obtain⟨hc,h3⟩:=bb_inv h2
   rw[orr_eq,Bool.or_eq_true] at hc
   injection h3 with h3;subst h3
   refine⟨?_,rfl⟩
   rcases hx.fs_l hf with⟨k,_,rfl⟩ | ⟨_,k,_,c,o,sp,rfl⟩ | ⟨c,o,cap,C,hro,rfl,_,_,k2,k3,_⟩
   ·simp[Builtin.cap_,hu,goInt,gi,k]
   ·simp[Builtin.cap_,hu,goInt,gi,k]
   ·have h1 : f.fl = 1 := by
     rcases hc with h9 | h9
     ·exact Nat.eq_of_beq_eq_true h9
     ·exact absurd (Nat.eq_of_beq_eq_true h9) k3
    simp[Builtin.cap_,hu,goInt,gi,k2 h1]
  | none=>
  rw[hf,oo_none] at h2
  obtain⟨hn,h3⟩:=bb_inv h2
  injection h3 with h3;subst h3
  have:=isNilSl_true hn;subst this
  rw[hx.slNil_l]
  exact⟨by simp[Builtin.cap_,hu,goInt,gi],rfl⟩
 | some s =>
  rw[hsl,oo_some] at h2
  obtain⟨hc,h3⟩:=bb_inv (show bb (Nat.beq (s.cap % 2) 1) (some (gi (s.cap / 2))) none=some v from h2)
  have hc:=Nat.eq_of_beq_eq_true hc
  injection h3 with h3;subst h3
  refine⟨?_,rfl⟩
  rcases hx.sl_l hsl with⟨c,β,cap,hid,rfl,k1,k2,k3,k4⟩ | ⟨c,o,rfl,k0,k00⟩ | ⟨rfl,k0,k00⟩
  ·simp[Builtin.cap_,hu,goInt,gi,k3 hc]
  ·simp[Builtin.cap_,hu,goInt,gi,k00]
  ·simp[Builtin.cap_,hu,goInt,gi,k00]

theorem aminmax_ok {isMax:Bool} {k:IntKind} {l l':List Value} {a:Int} {v:Value} (h:aminmax isMax k l a=some v) (hl:VRL R l l') :
 (l'.foldlM (if isMax then Builtin.max2 else Builtin.min2) (.int k a)).run P w = .ok v w∧plain1 v=true:=by
 induction l generalizing a l' with
 | nil =>
  rw[hl.unnil]
  have h:iv k a=some v:=h
  injection h with h;subst h
  exact⟨rfl,rfl⟩
 | cons y l ih =>
  obtain⟨y',r',rfl,hy,hr⟩:=hl.uncons
  have h:oo (vInt y) none (fun p=>pp p fun _ b=>aminmax isMax k l (bb isMax (bb (ilt a b) b a) (bb (ilt b a) b a)))=some v:=h
  obtain⟨p,hp,h1⟩:=oo_inv h
  rw[pp_eta] at h1
  have:=vInt_some hp;subst this
  rw[hy.int_l]
  have:=ih h1 hr
  cases isMax
  ·simp only[List.foldlM_cons,Sem.run_bind,Bool.false_eq_true,if_false,Builtin.min2,Sem.run_pure,Result.andThen_ok] at this ⊢
   simp only[bb_false,bb_eq,ilt_eq,decide_eq_true_eq] at this
   exact this
  ·simp only[List.foldlM_cons,Sem.run_bind,if_true,Builtin.max2,Sem.run_pure,Result.andThen_ok] at this ⊢
   simp only[bb_true,bb_eq,ilt_eq,decide_eq_true_eq] at this
   exact this
end
end Go.Sp
namespace Go.Sp

section
variable {P:Program} {tt:TT} (hT:TOk P tt) {H H':AHeap} {R:Ren} {w:World}

theorem aminmax0_ok {isMax:Bool} {l l':List Value} {v:Value} (h:aminmax0 isMax l=some v) (hl:VRL R l l') (ts:Array TypeId) (ty:TypeId) :
 ((if isMax then Builtin.max_ else Builtin.min_) ts ty ⟨l'⟩).run P w = .ok v w∧plain1 v=true:=by
 cases l with
 | nil=>cases h
 | cons x r =>
  obtain⟨x',r',rfl,hx,hr⟩:=hl.uncons
  obtain⟨p,hp,h1⟩:=oo_inv (show oo (vInt x) none (fun p=>pp p fun k a=>aminmax isMax k r a)=some v from h)
  rw[pp_eta] at h1
  have:=vInt_some hp;subst this
  rw[hx.int_l]
  have:=aminmax_ok (P:=P) (w:=w) h1 hr
  cases isMax
  ·simpa [Builtin.min_] using this
  ·simpa [Builtin.max_] using this

theorem zeroOf_some {t:TypeId} {z:Value} (h:zeroOf tt t=some z):∃ i,tt t=some i∧i.zero=some z:=by
 obtain⟨i,hi,h1⟩:=oo_inv h;exact⟨i,hi,h1⟩

include hT in
theorem aallocT_ok (hs:Sim H R w) {e:TypeId} {v:Value} (h:aallocT tt H e=some (v,H')) :
 ∃ u w' R',(Instr.alloc e true (.tuple #[])).run P w = .ok u w'∧VR R' v u∧Post H R w H' R' w':=by
 obtain⟨z,hz,h1⟩:=oo_inv h
 obtain⟨i,hi,hiz⟩:=zeroOf_some hz
 injection h1 with h1;injection h1 with e1 e2;subst e1;subst e2
 have hzr:=hT.run_zero hi hiz w
 obtain⟨w',R',hr,hv,hp⟩:=newVar_ok (P:=P) hs e (cellsOf_plain (hT.plain _ _ _ hi hiz))
 refine⟨_,w',R',?_,hv,hp⟩
 simp only[Instr.alloc,Sem.run_bind,hzr,Result.andThen_ok]
 simpa using hr

theorem abox_ok (hs:Sim H R w) {e:TypeId} {x x' v:Value} (h:bb (noCell x) none (aalloc H (cellsOf x))=some (v,H')) (hx:VR R x x') :
 ∃ u w' R',(Instr.box e x').run P w = .ok u w'∧VR R' v u∧Post H R w H' R' w':=by
 obtain⟨ht,h⟩:=bb_inv' h
 injection h with h;injection h with e1 e2;subst e1;subst e2
 obtain⟨w',R',hr,hv,hp⟩:=newVar_ok (P:=P) hs e (cellsOf_VR hx ht)
 exact⟨_,w',R',by simpa [Instr.box] using hr,hv,hp⟩

theorem amakeMap_ok (hs:Sim H R w) (t:TypeId):∃ u w' R',(Instr.makeMap t none).run P w = .ok u w'∧VR R' (.map (some H.next)) u∧Post H R w (H.push (.map [] 0)) R' w':=by
 have hp:=post_push (o:=.map [] 0) (ob:=.map #[] 0) 0 hs (fun C t fz e=>by cases e) (by simp[AObj.ancOf]) (fun R' _ _=>⟨rfl,#[],rfl,rfl,by simp⟩)
 exact⟨_,_,_,by simp[Instr.makeMap],.map (Ren.ext_new R H.next w.heap.size 0 0),hp⟩

include hT in
theorem amakeSlice_ok (hs:Sim H R w) {t:TypeId} {l c l' c' v:Value} (h:amakeSlice tt H t l c=some (v,H')) (hl:VR R l l') (hc:VR R c c') :
 ∃ u w' R',(Instr.makeSlice t l' c').run P w = .ok u w'∧VR R' v u∧Post H R w H' R' w':=by
 obtain⟨ie,hie,h1⟩:=oo_inv h
 obtain⟨n,hn,h2⟩:=oo_inv h1
 obtain⟨m,hm,h3⟩:=oo_inv h2
 obtain⟨z,hz,h4⟩:=oo_inv h3
 obtain⟨hcc,h5⟩:=bb_inv h4
 simp only[an_eq,len_eq,Bool.and_eq_true] at hcc
 obtain⟨c1,c2,c3,c4⟩:=hcc
 have c1:=Nat.le_of_ble_eq_true c1
 have c2:=Nat.le_of_ble_eq_true c2
 have c3:=Nat.le_of_ble_eq_true c3
 have c4:=Nat.eq_of_beq_eq_true c4
 injection h5 with h5;injection h5 with e1 e2;subst e1;subst e2
 obtain⟨kl,rfl⟩:=hl.nat_l hn
 obtain⟨kc,rfl⟩:=hc.nat_l hm
 obtain⟨is,e,his,hd,hte⟩:=elemOf_some hie
 have hu:=hT.run_und his w
 rw[hd] at hu
 have hsz:=hT.run_size hte w
 have hzr:=hT.run_zero hte hz w
 obtain⟨inf,hinf,_,hbt,_⟩:=hT.run_bytes hte w
 have hpz:=hT.plain _ _ _ hte hz
 have hzlen:z.cells.size=ie.size:=by
  rw[←Array.length_toList,←(cellsOf_plain (R:=R) hpz).1];exact c4
 have hw1:IntKind.i64.wrap (n:Int)=n:=IntWalk.i64_in _ (by omega)
 have hw2:IntKind.i64.wrap (m:Int)=m:=IntWalk.i64_in _ (by omega)
 have hb8:((m*ie.bytes:Nat):Int)=(ie.bytes:Int)*(m:Int):=by push_cast;exact Int.mul_comm _ _
 have hbig:¬ ((ie.bytes:Int)*(m:Int) > 2 ^ 48):=by rw[←hb8];omega
 have hm0:¬ ((m:Int) < 0):=by omega
 have hn0:¬ ((n:Int) < 0):=by omega
 have hnm:¬ ((n:Int) > (m:Int)):=by omega
 have hcells:∀ zz:Array Value,(m*ie.size=0→zz = #[])→(m*ie.size≠0→zz=z.cells)→(Array.range (m*ie.size)).map (fun i=>zz[i % zz.size]!)=(zeroRow z.cells.toList m).toArray:=fun zz h1 h2=>by
  apply Array.ext'
  apply List.ext_getElem?
  intro i
  by_cases hi:i < m*ie.size
  ·have hne:m*ie.size≠0:=by omega
   rw[h2 hne]
   have hzp:0 < z.cells.size:=Nat.pos_of_ne_zero fun e=>by rw[hzlen] at e;rw[e] at hi;simp at hi
   have hmod:i % z.cells.size < z.cells.size:=Nat.mod_lt _ hzp
   show _=(zeroRow z.cells.toList m)[i]?
   rw[zeroRow_get _ (by simpa using hzp) _ _ (by simpa [hzlen] using hi)]
   simp[hi,hmod]
  ·rw[List.getElem?_eq_none (by simp;omega),List.getElem?_eq_none (by simp[zeroRow_length,hzlen];omega)]
 have hpost:=post_cells (w:=w) (xs:=zeroRow (cellsOf z) m) (ys:=zeroRow z.cells.toList m) e [] false hs (zeroRow_VRL (cellsOf_plain hpz) m) false [] (by simp)
 refine⟨.slice (some ⟨w.heap.size,0,none⟩) n m,_,_,?_,?_,hpost⟩
 ·have hbig':(ie.bytes:Int)*(m:Int)≤281474976710656:=by rw[←hb8];omega
  have hn0':¬ ((n:Int) < 0):=hn0
  have e0:((zeroRow z.cells.toList m++[]).toArray)=(zeroRow z.cells.toList m).toArray:=by simp
  rw[e0]
  by_cases h0:m*ie.size=0
  ·have:=hcells #[] (fun _=>rfl) (fun h=>absurd h0 h)
   rw[←this]
   simp[Instr.makeSlice,hu,asInt,asIntOf,hinf,hw1,hw2,hbt,hsz,hbig',c1,h0,newRow]
   intro h;exfalso;omega
  ·have:=hcells z.cells (fun h=>absurd h h0) (fun _=>rfl)
   rw[←this]
   simp[Instr.makeSlice,hu,asInt,asIntOf,hinf,hw1,hw2,hbt,hsz,hbig',c1,h0,hzr,newRow]
   intro h;exfalso;omega
 ·have := VR.sl (R := R.ext H.next w.heap.size 0 (zeroRow z.cells.toList m ++ []).length) (off := 0) (sz := ie.size) (ln := n) (c2 := 2 * m + bb true 1 0) (cap := m) (Ren.ext_new R H.next w.heap.size 0 _)
   (by rw[sliceAt_half];exact c1) (by rw[sliceAt_half];exact Nat.le_refl _) (fun _=>by rw[sliceAt_half]) (by rw[Ren.ext_sz];simp[zeroRow_length,hzlen])
  simpa [sliceAt] using this
end
end Go.Sp
namespace Go.Sp

section
variable {P:Program} {tt:TT} (hT:TOk P tt) {H H':AHeap} {R:Ren} {w:World}

theorem foldl_set (vs:List Value) (off k:Nat) (C:Array Value) (h:off+k+vs.length≤C.size) :
 ((vs.zipIdx k).foldl (fun cs (p:Value×Nat)=>cs.setIfInBounds (off+p.2) p.1) C).toList=setL vs (off+k) C.toList:=by
 induction vs generalizing k C with
 | nil =>
  apply List.ext_getElem?
  intro j
  rw[setL_get _ _ _ (by simpa using h)]
  rw[if_neg (by simp)]
  rfl
 | cons v vs ih =>
  simp only[List.zipIdx_cons,List.foldl_cons]
  simp only[List.length_cons] at h
  rw[ih (k+1) (C.setIfInBounds (off+k) v) (by simp;omega)]
  apply List.ext_getElem?
  intro j
  rw[setL_get _ _ _ (by simp;omega),setL_get _ _ _ (by simp;omega)]
  by_cases hj:off+(k+1)≤j∧j < off+(k+1)+vs.length
  ·rw[if_pos hj,if_pos (by simp;omega)]
   have:j - (off+k)=(j - (off+(k+1)))+1:=by omega
   rw[this,List.getElem?_cons_succ]
  ·rw[if_neg hj]
   by_cases hj2:j=off+k
   ·subst hj2
    rw[if_pos (by simp),Nat.sub_self,List.getElem?_cons_zero,Array.toList_setIfInBounds,List.getElem?_set,if_pos rfl]
    rw[if_pos (by simp;omega)]
   ·rw[if_neg (by simp;omega)]
    simp[List.getElem?_set,Ne.symm hj2]

theorem setL_VRL {R:Ren} {xs ys as bs:List Value} {off:Nat} (h:VRL R as bs) (hv:VRL R xs ys) (hfit:off+xs.length≤as.length):VRL R (setL xs off as) (setL ys off bs):=by
 refine⟨by rw[setL_length _ _ _ hfit,setL_length _ _ _ (by rw[←h.1,←hv.1];exact hfit),h.1],fun i x y hx hy=>?_⟩
 rw[setL_get _ _ _ hfit] at hx
 rw[setL_get _ _ _ (by rw[←h.1,←hv.1];exact hfit),←hv.1] at hy
 split at hx
 ·rename_i hi;rw[if_pos hi] at hy;exact hv.2 _ x y hx hy
 ·rename_i hi;rw[if_neg hi] at hy;exact h.2 _ x y hx hy

def PartsR (R:Ren) (ps qs:List (Nat×Value)):Prop:=ps.length=qs.length∧∀ (i:Nat) (p q:Nat×Value),ps[i]?=some p→qs[i]?=some q→p.1=q.1∧VR R p.2 q.2

theorem lay_ok {place place':Nat→Option (Nat×Nat)} (hpl:∀ i q,place i=some q→place' i=some q) {ps qs:List (Nat×Value)} (hps:PartsR R ps qs) {cells r:List Value} {C:Array Value}
 (h:lay place ps cells=some r) (hc:VRL R cells C.toList):∃ D,Instr.fill place' C qs=some D∧VRL R r D.toList:=by
 induction ps generalizing qs cells C with
 | nil =>
  cases qs with
  | cons=>have:=hps.1;simp at this
  | nil=>injection h with h;subst h;exact⟨C,rfl,hc⟩
 | cons p ps ih =>
  cases qs with
  | nil=>have:=hps.1;simp at this
  | cons q qs =>
   obtain⟨e1,hv⟩:=hps.2 0 p q rfl rfl
   have h:pp p (fun i v=>oo (place i) none fun q=>pp q fun off size=>bb (an (nt (noCell v)) (an (Nat.beq (len (cellsOf v)) size) (Nat.ble (off+size) (len cells)))) (lay place ps (setL (cellsOf v) off cells)) none)=some r:=h
   rw[pp_eta] at h
   obtain⟨os,hos,h1⟩:=oo_inv h
   rw[pp_eta] at h1
   obtain⟨hcond,h2⟩:=bb_inv h1
   obtain⟨htup,hcond⟩:=an_inv hcond
   simp only[an_eq,len_eq,Bool.and_eq_true] at hcond
   have k1:=Nat.eq_of_beq_eq_true hcond.1
   have k2:=Nat.le_of_ble_eq_true hcond.2
   have hvl:=cellsOf_VR hv (nt_false htup)
   have hsz:q.2.cells.size=os.2:=by rw[←Array.length_toList,←hvl.1];exact k1
   have hCs:C.size=cells.length:=by rw[←Array.length_toList,hc.1]
   have hnext:VRL R (setL (cellsOf p.2) os.1 cells) (q.2.cells.zipIdx.foldl (fun cs (x:Value×Nat)=>cs.setIfInBounds (os.1+x.2) x.1) C).toList:=by
    have e:(q.2.cells.zipIdx.foldl (fun cs (x:Value×Nat)=>cs.setIfInBounds (os.1+x.2) x.1) C)=(q.2.cells.toList.zipIdx 0).foldl (fun cs (x:Value×Nat)=>cs.setIfInBounds (os.1+x.2) x.1) C:=by
     rw[←Array.foldl_toList];simp
    rw[e,foldl_set q.2.cells.toList os.1 0 C (by rw[Array.length_toList,hsz];omega)]
    exact setL_VRL hc hvl (by rw[k1];exact k2)
   obtain⟨D,hD,hDl⟩:=ih (qs:=qs) ⟨by have:=hps.1;simpa using this,fun i a b ha hb=>hps.2 (i+1) a b (by simpa using ha) (by simpa using hb)⟩ h2 hnext
   refine⟨D,?_,hDl⟩
   have hp2:=hpl _ _ hos
   rw[e1] at hp2
   obtain⟨q1,q2⟩:=q
   simp only at hsz hD hp2
   have c1:(decide (q2.cells.size≠os.2) || decide (os.1+q2.cells.size > C.size))=false:=by
    simp[hsz];omega
   simp only[Instr.fill,hp2]
   rw[if_neg (by simpa using c1)]
   exact hD

include hT in
theorem placeOf_ok {fs : Array Field} (hall : (fs.toList.all fun f => isS (tt f.type)) = true) (w : World) :
 ∃ places:Array (Nat×Nat),(fs.mapM fun f=>do pure (f.offset,←sizeOf f.type):Sem (Array (Nat×Nat))).run P w = .ok places w∧∀ i q,placeOf tt fs.toList i=some q→places[i]?=some q:=by
 have key : ∀ (l : List Field), (l.all fun f => isS (tt f.type)) = true → ∃ ps : List (Nat × Nat), (l.mapM fun f => do pure (f.offset, ← sizeOf f.type) : Sem (List (Nat × Nat))).run P w = .ok ps w ∧
  ∀ (i:Nat) q,placeOf tt l i=some q→ps[i]?=some q:=by
  intro l hl
  induction l with
  | nil=>exact⟨[],by simp,fun i q h=>by simp[placeOf] at h⟩
  | cons f l ih =>
   simp only[List.all_cons,Bool.and_eq_true] at hl
   obtain⟨ps,h1,h2⟩:=ih hl.2
   cases hf:tt f.type with
   | none=>rw[hf] at hl;simp at hl
   | some ie =>
    have hs:=hT.run_size hf w
    refine⟨(f.offset,ie.size)::ps,?_,fun i q h=>?_⟩
    ·simp[List.mapM_cons,hs] at h1 ⊢
     simp[h1]
    ·cases i with
     | zero=>simpa [placeOf,hf] using h
     | succ i=>exact h2 i q (by simpa [placeOf] using h)
 obtain⟨ps,h1,h2⟩:=key fs.toList hall
 refine⟨ps.toArray,?_,fun i q h=>by simpa using h2 i q h⟩
 rw[Array.mapM_eq_mapM_toList,Sem.run_map,h1]
 rfl

theorem zero_range {z:Value} {m sz:Nat} (hzlen:z.cells.size=sz) (zz:Array Value) (h1:m*sz=0→zz = #[]) (h2:m*sz≠0→zz=z.cells) :
 (Array.range (m*sz)).map (fun i=>zz[i % zz.size]!)=(zeroRow z.cells.toList m).toArray:=by
 apply Array.ext'
 apply List.ext_getElem?
 intro i
 by_cases hi:i < m*sz
 ·have hne:m*sz≠0:=by omega
  rw[h2 hne]
  have hzp:0 < z.cells.size:=Nat.pos_of_ne_zero fun e=>by rw[hzlen] at e;rw[e] at hi;simp at hi
  have hmod:i % z.cells.size < z.cells.size:=Nat.mod_lt _ hzp
  show _=(zeroRow z.cells.toList m)[i]?
  rw[zeroRow_get _ (by simpa using hzp) _ _ (by simpa [hzlen] using hi)]
  simp[hi,hmod]
 ·rw[List.getElem?_eq_none (by simp;omega),List.getElem?_eq_none (by simp[zeroRow_length,hzlen];omega)]

include hT in
theorem abuild_ok {t:TypeId} {ps:List (Nat×Value)} {qs:Array (Nat×Value)} {v:Value} (h:abuild tt t ps=some v) (hps:PartsR R ps qs.toList):∃ u,(Instr.build t qs).run P w = .ok u w∧VR R v u:=by
 obtain⟨i,hi,h1⟩:=oo_inv h
 obtain⟨z,hz,h2⟩:=oo_inv h1
 have hu:=hT.run_und hi w
 have hzr:=hT.run_zero hi hz w
 have hzv:=cellsOf_plain (R:=R) (hT.plain _ _ _ hi hz)
 cases hd:dStruct i.und with
 | some fs =>
  rw[hd,oo_some] at h2
  obtain⟨hall,h3⟩:=bb_inv h2
  obtain⟨l,hl,h4⟩:=oo_inv h3
  injection h4 with h4;subst h4
  rw[dStruct_some hd] at hu
  rw[allL_eq] at hall
  obtain⟨places,hp1,hp2⟩:=placeOf_ok hT hall w
  obtain⟨D,hD,hDl⟩:=lay_ok (place':=fun i=>places[i]?) hp2 hps hl hzv
  refine⟨.agg D,?_,?_⟩
  ·simp only[Instr.build,Sem.run_bind,hzr,hu,Result.andThen_ok,hp1,hD,Sem.run_pure]
  ·obtain⟨Dl⟩:=D
   exact .agg hDl.1 hDl.2
 | none =>
  rw[hd,oo_none] at h2
  obtain⟨p,hp,h3⟩:=oo_inv h2
  obtain⟨ie,hie,h4⟩:=oo_inv h3
  obtain⟨l,hl,h5⟩:=oo_inv h4
  injection h5 with h5;subst h5
  rw[dArr_some hp] at hu
  have hsz:=hT.run_size hie w
  obtain⟨D,hD,hDl⟩:=lay_ok (place':=fun i=>some (i*ie.size,ie.size)) (fun i q h=>h) hps hl hzv
  refine⟨.agg D,?_,?_⟩
  ·simp only[Instr.build,Sem.run_bind,hzr,hu,Result.andThen_ok,hsz,hD,Sem.run_pure]
  ·obtain⟨Dl⟩:=D
   exact .agg hDl.1 hDl.2

include hT in
theorem abuildSlice_ok (hs:Sim H R w) {t n:Nat} {ps:List (Nat×Value)} {qs:Array (Nat×Value)} {v:Value} (h:abuildSlice tt H t n ps=some (v,H')) (hps:PartsR R ps qs.toList) :
 ∃ u w' R',(Instr.buildSlice t n qs).run P w = .ok u w'∧VR R' v u∧Post H R w H' R' w':=by
 obtain⟨ie,hie,h1⟩:=oo_inv h
 obtain⟨z,hz,h2⟩:=oo_inv h1
 obtain⟨hc,h3⟩:=bb_inv h2
 obtain⟨cs,hcs,h4⟩:=oo_inv h3
 injection h4 with h4;injection h4 with e1 e2;subst e1;subst e2
 simp only[an_eq,len_eq,Bool.and_eq_true] at hc
 have c1:=Nat.le_of_ble_eq_true hc.1
 have c2:=Nat.eq_of_beq_eq_true hc.2
 obtain⟨is,e,his,hd,hte⟩:=elemOf_some hie
 have hu:=hT.run_und his w
 rw[hd] at hu
 have hsz:=hT.run_size hte w
 have hzr:=hT.run_zero hte hz w
 have hpz:=hT.plain _ _ _ hte hz
 have hzlen:z.cells.size=ie.size:=by
  rw[←Array.length_toList,←(cellsOf_plain (R:=R) hpz).1];exact c2
 have hzv:VRL R (zeroRow (cellsOf z) n) (zeroRow z.cells.toList n).toArray.toList:=zeroRow_VRL (cellsOf_plain hpz) n
 obtain⟨D,hD,hDl⟩:=lay_ok (place':=fun i=>some (i*ie.size,ie.size)) (fun i q h=>h) hps hcs hzv
 have hDlen:D.size=n*ie.size:=by
  have:=hDl.1
  have hlen:∀ (place:Nat→Option (Nat×Nat)) (ps:List (Nat×Value)) (cells r:List Value),lay place ps cells=some r→r.length=cells.length:=by
   intro place ps
   induction ps with
   | nil=>intro cells r h;injection h with h;rw[h]
   | cons p ps ih =>
    intro cells r h
    have h:pp p (fun i v=>oo (place i) none fun q=>pp q fun off size=>bb (an (nt (noCell v)) (an (Nat.beq (len (cellsOf v)) size) (Nat.ble (off+size) (len cells)))) (lay place ps (setL (cellsOf v) off cells)) none)=some r:=h
    rw[pp_eta] at h
    obtain⟨os,hos,h1⟩:=oo_inv h
    rw[pp_eta] at h1
    obtain⟨hcond,h2⟩:=bb_inv h1
    obtain⟨_,hcond⟩:=an_inv hcond
    simp only[an_eq,len_eq,Bool.and_eq_true] at hcond
    have k1:=Nat.eq_of_beq_eq_true hcond.1
    have k2:=Nat.le_of_ble_eq_true hcond.2
    rw[ih _ _ h2,setL_length _ _ _ (by rw[k1];exact k2)]
  rw[←Array.length_toList,←this,hlen _ _ _ _ hcs,zeroRow_length,c2]
 have hpost:=post_cells (w:=w) (xs:=cs) (ys:=D.toList) e [] false hs hDl false [] (by simp)
 refine⟨.slice (some ⟨w.heap.size,0,none⟩) n n,_,_,?_,?_,hpost⟩
 ·have hbig:¬ (n*ie.size > 2 ^ 24):=by omega
  by_cases h0:n*ie.size=0
  ·have hr:=zero_range (z:=z) (m:=n) hzlen #[] (fun _=>rfl) (fun h=>absurd h0 h)
   rw[h0] at hr
   rw[←hr] at hD
   simp[Instr.buildSlice,hu,hsz,hbig,h0] at hD ⊢
   simp[hD,newRow]
  ·have hr:=zero_range (z:=z) (m:=n) hzlen z.cells (fun h=>absurd h h0) (fun _=>rfl)
   rw[←hr] at hD
   simp only[Instr.buildSlice,Sem.run_bind,hu,Result.andThen_ok,hsz,hbig,if_false,h0,hzr,Sem.run_pure,hD]
   simp[newRow]
 ·have := VR.sl (R := R.ext H.next w.heap.size 0 (D.toList ++ []).length) (off := 0) (sz := ie.size) (ln := n) (c2 := 2 * n + bb true 1 0) (cap := n) (Ren.ext_new R H.next w.heap.size 0 _)
   (by rw[sliceAt_half];exact Nat.le_refl _) (by rw[sliceAt_half];exact Nat.le_refl _) (fun _=>by rw[sliceAt_half]) (by rw[Ren.ext_sz];simp[hDlen])
  simpa [sliceAt] using this
end
end Go.Sp
namespace Go.Sp

section
variable {P:Program} {tt:TT} (hT:TOk P tt) {H H':AHeap} {R:Ren} {w:World}

theorem cellsEq_len {xs ys:List Value} {b:Bool} (h:cellsEq xs ys=some b):xs.length=ys.length:=by
 induction xs generalizing ys b with
 | nil => cases ys with
  | nil=>rfl
  | cons=>cases h
 | cons x xs ih => cases ys with
  | nil=>cases h
  | cons y ys =>
   have h:oo (cellEq x y) none (fun b=>oo (cellsEq xs ys) none fun c=>some (an b c))=some b:=h
   obtain⟨p,_,h1⟩:=oo_inv h
   obtain⟨q,hq,_⟩:=oo_inv h1
   simp[ih hq]

inductive KeyK (tt : TT) (kt : TypeId) (k : Value) : Prop
 | int (i:TI) (j:IntKind) (n:Int) (h:tt kt=some i) (hd:i.und = .int j) (e:k = .int j n)
 | bool (i:TI) (b:Bool) (h:tt kt=some i) (hd:i.und = .bool) (e:k = .bool b)
 | string (i:TI) (s:ByteArray) (h:tt kt=some i) (hd:i.und = .string) (e:k = .string s)
 | agg (i:TI) (xs:List Value) (h:tt kt=some i) (zs:List Value) (hf:i.flat=true) (hz:i.zero=some (.agg ⟨zs⟩)) (hl:kindsLike zs xs=true) (ha:isAggT i.und=true) (e:k = .agg ⟨xs⟩)

theorem keyOk_kind {kt:TypeId} {k:Value} (h:keyOk tt kt k=true):KeyK tt kt k:=by
 unfold keyOk at h
 cases hi:tt kt with
 | none=>rw[hi] at h;cases h
 | some i =>
  rw[hi,oo_some] at h
  cases hk:vInt k with
  | some p =>
   rw[hk,oo_some] at h
   cases hd:dInt i.und with
   | none=>rw[hd] at h;cases h
   | some j =>
    rw[hd,oo_some] at h
    have:=intKindEq_iff h
    exact .int i j p.2 hi (dInt_some hd) (by rw[this];exact vInt_some hk)
  | none =>
   rw[hk,oo_none] at h
   cases ha:vAgg k with
   | some xs =>
    rw[ha,oo_some] at h
    obtain⟨hag,h⟩:=an_inv h
    obtain⟨hfl,zs,hz,hlike⟩:=flatLike_some h
    exact .agg i xs hi zs hfl hz hlike hag (vAgg_some ha)
   | none =>
    rw[ha,oo_none] at h
    cases hb:vBool k with
    | some b =>
     rw[hb,oo_some] at h
     exact .bool i b hi (eqKind_bool (Nat.eq_of_beq_eq_true h)) (vBool_some hb)
    | none =>
     rw[hb,oo_none] at h
     cases hs:vStr k with
     | none=>rw[hs] at h;cases h
     | some s =>
      rw[hs,oo_some] at h
      exact .string i s hi (isStrT_true h) (vStr_some hs)

include hT in
theorem checkKey_ok {kt:TypeId} {k k':Value} (hk:KeyK tt kt k) (hv:VR R k k') (e:Bool):(Instr.checkKey e 10000 kt k').run P w = .ok () w:=by
 have main:∀ n,(∀ xs,k ≠ .agg ⟨xs⟩)→(Instr.checkKey e (n+1) kt k').run P w = .ok () w:=fun n hna=>by
  cases hk with
  | int i j m h hd ek =>
   have hu:=hT.run_und h w
   subst ek
   rw[hv.int_l,hd] at *
   simp[Instr.checkKey,hu]
  | bool i b h hd ek =>
   have hu:=hT.run_und h w
   subst ek
   rw[hv.bool_l,hd] at *
   simp[Instr.checkKey,hu]
  | string i s h hd ek =>
   have hu:=hT.run_und h w
   subst ek
   rw[hv.string_l,hd] at *
   simp[Instr.checkKey,hu]
  | agg i xs h zs hf hz hl ha ek=>exact absurd ek (hna xs)
 cases hk with
 | agg i xs h zs hf hz hl ha ek =>
  subst ek
  obtain⟨us,rfl,hr⟩:=hv.agg_l
  exact(hT.flat _ _ _ h hf hz).2.2 us w e (by rw[←hr.1];exact kindsLike_len hl)
 | int i j m h hd ek=>exact main 9999 (fun xs e2=>by rw[ek] at e2;cases e2)
 | bool i b h hd ek=>exact main 9999 (fun xs e2=>by rw[ek] at e2;cases e2)
 | string i s h hd ek=>exact main 9999 (fun xs e2=>by rw[ek] at e2;cases e2)

def FoundR (R:Ren) (r r':Option (Nat×Value)):Prop:=
 match r,r' with
 | none,none=>True
 | some p,some q=>p.1=q.1∧VR R p.2 q.2
 | _,_=>False

theorem EntsR.uncons {R:Ren} {e:Ent} {es:List Ent} {Es:List MapEntry} (h:EntsR R (e::es) Es):∃ E Es',Es=E::Es'∧EntR R e E∧EntsR R es Es':=by
 cases Es with
 | nil=>have:=h.1;simp at this
 | cons E Es'=>exact⟨E,Es',rfl,h.2 0 e E rfl rfl,by have:=h.1;simpa using this,fun i a b ha hb=>h.2 (i+1) a b (by simpa using ha) (by simpa using hb)⟩
theorem EntsR.unnil {R:Ren} {Es:List MapEntry} (h:EntsR R [] Es):Es=[]:=by
 have:=h.1;cases Es with
 | nil=>rfl
 | cons=>simp at this

theorem findE_cons {k:Value} {e:Ent} {es:List Ent} {i:Nat} {r:Option (Nat×Value)} (h:findE k (e::es) i=some r) :
 ∃ b,keyEq k e.key=some b∧bb b (some (some (i,e.val))) (findE k es (i+1))=some r:=oo_inv (show oo (keyEq k e.key) none (fun b=>bb b (some (some (i,e.val))) (findE k es (i+1)))=some r from h)

include hT in
theorem findNow_ok {kt:TypeId} {k k':Value} (hk:KeyK tt kt k) (hna:∀ xs,k ≠ .agg ⟨xs⟩) (hv:VR R k k') {es:List Ent} {Es:List MapEntry} (hE:EntsR R es Es) {i:Nat} {r:Option (Nat×Value)} (h:findE k es i=some r) :
 ∃ d r',(∀ w:World,(underlying kt).run P w = .ok d w)∧Instr.findNow d k' Es i=some r'∧FoundR R r r':=by
 have key:∀ d,(∀ (x x':Value) (b:Bool),keyEq k x=some b→VR R x x'→Instr.sameNow d k' x'=some b)→∃ r',Instr.findNow d k' Es i=some r'∧FoundR R r r':=fun d hsame=>by
  induction es generalizing Es i with
  | nil=>rw[hE.unnil];injection h with h;subst h;exact⟨none,rfl,trivial⟩
  | cons e es ih =>
   obtain⟨E,Es',rfl,⟨h1,h2,_⟩,h3⟩:=hE.uncons
   obtain⟨b,hb,h4⟩:=findE_cons h
   have hs:=hsame _ _ _ hb h1
   cases b with
   | true=>injection h4 with h4;subst h4;exact⟨some (i,E.val),by simp[Instr.findNow,hs],rfl,h2⟩
   | false =>
    obtain⟨r',hr,hf⟩:=ih h3 h4
    exact⟨r',by simp[Instr.findNow,hs,hr],hf⟩
 cases hk with
 | int i j n h' hd ek =>
  subst ek
  have:=hv.int_l;subst this
  obtain⟨r',hr,hf⟩:=key (.int j) fun x x' b hb hx=>by
   have hb:cellEq (.int j n) x=some b:=hb
   obtain⟨q,hq,h5⟩:=oo_inv (show oo (vInt x) none (fun q=>pp q fun j' b=>bb (intKindEq j j') (some (ieq n b)) none)=some b from hb)
   rw[pp_eta] at h5
   obtain⟨h6,h7⟩:=bb_inv h5
   have:=vInt_some hq;subst this
   have:=hx.int_l;subst this
   have:=intKindEq_iff h6;rw[←this]
   simp only[Instr.sameNow,if_true,←ieq_eq]
   exact h7
  exact⟨.int j,r',fun w=>by rw[hT.run_und h' w,hd],hr,hf⟩
 | bool i c h' hd ek =>
  subst ek
  have:=hv.bool_l;subst this
  obtain⟨r',hr,hf⟩:=key .bool fun x x' b hb hx=>by
   have hb:cellEq (.bool c) x=some b:=hb
   obtain⟨q,hq,h5⟩:=oo_inv (show oo (vBool x) none (fun b=>some (bq c b))=some b from hb)
   have:=vBool_some hq;subst this
   have:=hx.bool_l;subst this
   simp only[Instr.sameNow]
   rw[bq_eq] at h5;exact h5
  exact⟨.bool,r',fun w=>by rw[hT.run_und h' w,hd],hr,hf⟩
 | string i s h' hd ek =>
  subst ek
  have:=hv.string_l;subst this
  obtain⟨r',hr,hf⟩:=key .string fun x x' b hb hx=>by
   have hb:cellEq (.string s) x=some b:=hb
   obtain⟨q,hq,h5⟩:=oo_inv (show oo (vStr x) none (fun b=>some (s == b))=some b from hb)
   have:=vStr_some hq;subst this
   have:=hx.string_l;subst this
   exact h5
  exact⟨.string,r',fun w=>by rw[hT.run_und h' w,hd],hr,hf⟩
 | agg i xs h' zs hf hz hl ha ek=>exact absurd ek (hna xs)

include hT in
theorem findKey_ok {kt:TypeId} {k k':Value} (hk:KeyK tt kt k) (hv:VR R k k') {es:List Ent} {Es:List MapEntry} (hE:EntsR R es Es) {r:Option (Nat×Value)} (h:findE k es 0=some r) :
 ∃ r',(Instr.findKey kt k' Es).run P w = .ok r' w∧FoundR R r r':=by
 by_cases hna:∀ xs,k ≠ .agg ⟨xs⟩
 ·obtain⟨d,r',hu,hf,hr⟩:=findNow_ok hT hk hna hv hE h
  exact⟨r',by simp[Instr.findKey,hu,hf],hr⟩
 ·have : ∃ xs, k = .agg ⟨xs⟩ := by
   simp only[ne_eq,Classical.not_forall,Classical.not_not] at hna;exact hna
  obtain⟨xs,rfl⟩:=this
  cases hk with
  | int i j n h' hd ek=>cases ek
  | bool i b h' hd ek=>cases ek
  | string i s h' hd ek=>cases ek
  | agg i ys h' z0 hf hz hl ha ek =>
   cases ek
   obtain⟨us,rfl,hr⟩:=hv.agg_l
   have hfl:=(hT.flat _ _ _ h' hf hz).1
   have key : ∀ (es : List Ent) (Es : List MapEntry) (j : Nat) (r : Option (Nat × Value)), EntsR R es Es → findE (.agg ⟨xs⟩) es j = some r →
    ∃ r',(Instr.findAsking kt (.agg ⟨us⟩) Es j).run P w = .ok r' w∧FoundR R r r':=by
    intro es
    induction es with
    | nil=>intro Es j r hE h;rw[hE.unnil];injection h with h;subst h;exact⟨none,rfl,trivial⟩
    | cons e es ih =>
     intro Es j r hE h
     obtain⟨E,Es',rfl,⟨h1,h2,_⟩,h3⟩:=hE.uncons
     obtain⟨b,hb,h4⟩:=findE_cons h
     obtain⟨zs,hzs,h5⟩:=oo_inv (show oo (vAgg e.key) none (fun ys=>cellsEq xs ys)=some b from hb)
     have hke:=vAgg_some hzs
     rw[hke] at h1
     obtain⟨vs,hEk,hvs⟩:=h1.agg_l
     have he:=hfl us vs b w (kindsLike_VRL hl hr) (cellsEq_VRL h5 hr hvs)
     cases b with
     | true=>injection h4 with h4;subst h4;exact⟨some (j,E.val),by simp[Instr.findAsking,hEk,he],rfl,h2⟩
     | false =>
      obtain⟨r',hrr,hf'⟩:=ih Es' (j+1) r h3 h4
      exact⟨r',by simp[Instr.findAsking,hEk,he,hrr],hf'⟩
   have hu:=hT.run_und h' w
   have hnow:∀ d,isAggT d=true→∀ Es:List MapEntry,Instr.findNow d (.agg ⟨us⟩) Es 0=none∨Es=[]:=fun d hd Es=>by
    cases Es with
    | nil=>exact .inr rfl
    | cons E Es'=>left;cases d <;> simp[isAggT,dd] at hd <;> simp[Instr.findNow,Instr.sameNow]
   rcases hnow i.und ha Es with h9 | h9
   ·obtain⟨r',hrr,hf'⟩:=key es Es 0 r hE h
    exact⟨r',by simp[Instr.findKey,hu,h9,hrr],hf'⟩
   ·subst h9
    have:es=[]:=List.eq_nil_of_length_eq_zero hE.1
    subst this
    injection h with h;subst h
    exact⟨none,by simp[Instr.findKey,hu,Instr.findNow],trivial⟩

theorem Sim.map (hs:Sim H R w) {id c:Nat} (hid:R.f id=some (c,0)) {o:MapObj} (ho:oMap (H.get id)=some o):∃ Es,w.heap[c]?=some (.map Es o.clock)∧EntsR R o.es Es.toList:=by
 have h:=hs.obj id c 0 hid
 rw[oMap_some ho] at h
 exact h.2
theorem run_getObj_map {c:Nat} {Es:Array MapEntry} {cl:Nat} (h:w.heap[c]?=some (.map Es cl)):(getObj c).run P w = .ok (.map Es cl) w:=by
 simp[getObj,Sem.run,h]
theorem run_setObj_map {c:Nat} {Es:Array MapEntry} {cl:Nat} (h:w.heap[c]?=some (.map Es cl)) (o:Obj):(setObj c o).run P w = .ok () { w with heap:=w.heap.setIfInBounds c o }:=by
 simp[setObj,Sem.run,h]

theorem mapOfK_some {β:Type} {t:TypeId} {k:TypeId→TypeId→Option β} {r:β} (h:mapOfK tt t k=some r):∃ i kt et,tt t=some i∧i.und = .map kt et∧k kt et=some r:=by
 obtain⟨i,hi,h1⟩:=oo_inv h
 obtain⟨p,hp,h2⟩:=oo_inv h1
 rw[pp_eta] at h2
 exact⟨i,p.1,p.2,hi,dMap_some hp,h2⟩

include hT in
theorem arange_ok (hs:Sim H R w) {t:TypeId} {x x' v:Value} (h:arange tt H t x=some (v,H')) (hx:VR R x x'):∃ u w' R',(Instr.range t x').run P w = .ok u w'∧VR R' v u∧Post H R w H' R' w':=by
 obtain⟨i,kt,et,hi,hd,h1⟩:=mapOfK_some h
 obtain⟨mo,hmo,h2⟩:=oo_inv h1
 have:=vMap_some hmo;subst this
 have hu:=hT.run_und hi w
 rw[hd] at hu
 cases mo with
 | none =>
  injection h2 with h2;injection h2 with e1 e2;subst e1;subst e2
  rw[hx.mapNil_l]
  have hp:=post_push (o:=.iter none 0 [] 0) (ob:=.mapIter none 0 #[] 0) 0 hs (fun C t fz e=>by cases e) (by simp[AObj.ancOf]) (fun R' _ _=>⟨rfl,none,#[],rfl,rfl,rfl⟩)
  exact⟨.pointer (some ⟨w.heap.size,0,none⟩),_,_,by simp[Instr.range,hu],by simpa using VR.ptr (off:=0) (Ren.ext_new R H.next w.heap.size 0 0),hp⟩
 | some id =>
  simp only[oo_some] at h2
  obtain⟨o,ho,h3⟩:=oo_inv h2
  injection h3 with h3;injection h3 with e1 e2;subst e1;subst e2
  obtain⟨c,hid,rfl⟩:=hx.map_l
  obtain⟨Es,hE,hEs⟩:=hs.map hid ho
  have hp:=post_push (o:=.iter (some id) o.clock [] o.clock) (ob:=.mapIter (some c) o.clock #[] o.clock) 0 hs (fun C t fz e=>by cases e) (by simp[AObj.ancOf]) (fun R' hle _=>⟨rfl,some c,#[],rfl,rfl,c,(hle.1 id c 0 hid).1,rfl⟩)
  refine⟨.pointer (some ⟨w.heap.size,0,none⟩),_,_,?_,by simpa using VR.ptr (off:=0) (Ren.ext_new R H.next w.heap.size 0 0),hp⟩
  simp[Instr.range,hu,run_getObj_map hE]

theorem oIter_some {o:AObj} {it:IterObj} (h:oIter o=some it):o = .iter it.m it.since it.seen it.st:=by
 cases o <;> first | (cases h;done) | (injection h with h;subst h;rfl)
theorem lastN_eq:∀ l:List Nat,lastN l=l.getLast?
 | []=>rfl
 | [a]=>rfl
 | a :: b :: r => by
  have ih:=lastN_eq (b::r)
  show lastN (b::r)=_
  rw[ih];simp[List.getLast?_cons_cons]
theorem findB_ok {R : Ren} {s : Nat} : ∀ {es : List Ent} {Es : List MapEntry} {e : Ent}, EntsR R es Es → findB s es = some e → ∃ E, Es.find? (fun e => e.born == s) = some E ∧ EntR R e E
 | [],_,_,_,h=>by cases h
 | a :: es, Es, e, hE, h => by
  obtain⟨A,Es',rfl,hA,hE'⟩:=hE.uncons
  have h:bb (Nat.beq a.born s) (some a) (findB s es)=some e:=h
  rw[bb_eq] at h
  split at h
  ·rename_i hb
   injection h with h;subst h
   have hb:=Nat.eq_of_beq_eq_true hb
   refine⟨A,?_,hA⟩
   rw[List.find?_cons]
   have:(A.born == s)=true:=by rw[←hA.2.2,hb];simp
   rw[this]
  ·rename_i hb
   obtain⟨E,h1,h2⟩:=findB_ok hE' h
   refine⟨E,?_,h2⟩
   rw[List.find?_cons]
   have:(A.born == s)=false:=by
    cases hc:A.born == s with
    | false=>rfl
    | true =>
     rw[beq_iff_eq] at hc
     exact absurd (by rw[hA.2.2,hc];exact Nat.beq_refl s) hb
   rw[this];exact h1
theorem aentry_ok (hs:Sim H R w) {x x' v:Value} (h:aentry H x=some v) (hx:VR R x x'):∃ u,(Instr.entry x').run P w = .ok u w∧VR R v u:=by
 obtain⟨p,hp,h1⟩:=oo_inv h
 rw[pp_eta] at h1
 obtain⟨h0,h2⟩:=bb_inv h1
 obtain⟨it,hit,h3⟩:=oo_inv h2
 obtain⟨mid,hmid,h4⟩:=oo_inv h3
 obtain⟨o,ho,h5⟩:=oo_inv h4
 obtain⟨e,he,h6⟩:=oo_inv h5
 injection h6 with h6;subst h6
 obtain⟨hc,h7⟩:=bb_inv (show bb (Nat.beq o.clock it.st) (oo (lastN it.seen) none fun s=>findB s o.es) none=some e from he)
 obtain⟨s,hls,hf⟩:=oo_inv h7
 have hc:=Nat.eq_of_beq_eq_true hc
 have h0:=Nat.eq_of_beq_eq_true h0
 have hxv:x = .pointer (some ⟨p.1,0,none⟩):=by
  have:=vPtr_some (v:=x) (p:=p) hp
  rw[this,h0]
 subst hxv
 generalize hq:x'=u at hx
 cases hx with
 | @ptr _ off c β hfid =>
  have hob:=hs.obj p.1 c β hfid
  rw[oIter_some hit] at hob
  obtain⟨hβ,m',S,hcell,hS,hm⟩:=hob
  subst hβ
  rw[hmid] at hm
  obtain⟨cm,hmf,hm'⟩:=hm
  subst hm'
  obtain⟨Es,hE,hEs⟩:=hs.map hmf ho
  obtain⟨E,hE1,hE2⟩:=findB_ok hEs hf
  have hback:S.back?=some s:=by
   rw[lastN_eq,←hS] at hls
   rw[←hls];simp[Array.back?,List.getLast?_eq_getElem?]
  refine⟨.tuple #[E.key,E.val],?_,?_⟩
  ·subst hq
   have hfa:Es.find? (fun e=>e.born == s)=some E:=by rw[←Array.find?_toList];exact hE1
   simp[Instr.entry,getObj,Sem.run,hcell,hback,hE,hc,hfa,Result.andThen]
  ·have hvl:VRL R [e.key,e.val] [E.key,E.val]:=.cons hE2.1 (.cons hE2.2.1 .nil)
   exact .tuple hvl.1 hvl.2

theorem okV_ok {ok b:Bool} {x y v:Value} (h:okV ok x b=some v) (hv:VR R x y):VR R v (if ok then .tuple #[y,.bool b] else y):=by
 injection h with h;subst h
 cases ok
 ·exact hv
 ·exact .tuple rfl (VRL.cons hv (.cons (.bool b) .nil)).2

include hT in
theorem alookup_ok (hs:Sim H R w) {t:TypeId} {m k m' k' v:Value} {ok:Bool} (h:alookup tt H t m k ok=some v) (hm:VR R m m') (hk:VR R k k'):∃ u,(Instr.lookup t m' k' ok).run P w = .ok u w∧VR R v u:=by
 obtain⟨i,kt,et,hi,hd,h1⟩:=mapOfK_some h
 obtain⟨hko,h2⟩:=bb_inv h1
 obtain⟨r,hr,h3⟩:=oo_inv h2
 obtain⟨mo,hmo,h4⟩:=oo_inv hr
 have hu:=hT.run_und hi w
 rw[hd] at hu
 have hkk:=keyOk_kind hko
 have:=vMap_some hmo;subst this
 have fin : ∀ (Es : Array MapEntry) (r' : Option (Nat × Value)), FoundR R r r' → (Instr.findKey kt k' Es.toList).run P w = .ok r' w →
  ((m' = .map none∧Es = #[])∨∃ c cl,m' = .map (some c)∧w.heap[c]?=some (.map Es cl)) →
  ∃ u,(Instr.lookup t m' k' ok).run P w = .ok u w∧VR R v u:=fun Es r' hf hfk hes=>by
  have hck:=checkKey_ok (w:=w) hT hkk hk Es.isEmpty
  cases r with
  | none =>
   cases r' with
   | some q=>exact hf.elim
   | none =>
    obtain⟨z,hz,h5⟩:=oo_inv (show oo (zeroOf tt et) none (fun z=>okV ok z false)=some v from h3)
    obtain⟨ie,hie,hiz⟩:=zeroOf_some hz
    have hzr:=hT.run_zero hie hiz w
    refine⟨if ok then .tuple #[z,.bool false] else z,?_,okV_ok h5 (plain_VR (hT.plain _ _ _ hie hiz))⟩
    rcases hes with⟨rfl,rfl⟩ | ⟨c,cl,rfl,hE⟩
    ·simp only[Instr.lookup,Sem.run_bind,hu,Result.andThen_ok,hck,hfk,hzr,Sem.run_pure]
    ·simp only[Instr.lookup,Sem.run_bind,hu,Result.andThen_ok,run_getObj_map hE,hck,hfk,hzr,Sem.run_pure]
  | some p =>
   cases r' with
   | none=>exact hf.elim
   | some q =>
    have h5:okV ok p.2 true=some v:=by rw[oo_some,pp_eta] at h3;exact h3
    refine⟨if ok then .tuple #[q.2,.bool true] else q.2,?_,okV_ok h5 hf.2⟩
    rcases hes with⟨rfl,rfl⟩ | ⟨c,cl,rfl,hE⟩
    ·simp only[Instr.lookup,Sem.run_bind,hu,Result.andThen_ok,hck,hfk,Sem.run_pure]
    ·simp only[Instr.lookup,Sem.run_bind,hu,Result.andThen_ok,run_getObj_map hE,hck,hfk,Sem.run_pure]
 cases mo with
 | none =>
  have:=hm.mapNil_l;subst this
  simp only[oo_none] at h4
  injection h4 with h4;subst h4
  exact fin #[] none trivial (by
   obtain⟨r',hr',hf'⟩:=findKey_ok (w:=w) (es:=[]) (Es:=[]) (r:=none) hT hkk hk ⟨rfl,by simp⟩ rfl
   cases r' with
   | none=>exact hr'
   | some=>exact hf'.elim) (.inl ⟨rfl,rfl⟩)
 | some id =>
  simp only[oo_some] at h4
  obtain⟨o,ho,h5⟩:=oo_inv h4
  obtain⟨c,hid,rfl⟩:=hm.map_l
  obtain⟨Es,hE,hEs⟩:=hs.map hid ho
  obtain⟨r',hr',hf'⟩:=findKey_ok (w:=w) hT hkk hk hEs h5
  exact fin Es r' hf' hr' (.inr ⟨c,o.clock,rfl,hE⟩)

theorem cellEq_bits {x y:Value} (h:cellEq x y=some true) (n:Nat):Instr.sameBits n y x=true:=by
 cases x <;> simp only[cellEq,vv] at h <;> try (cases h;done)
 case bool a=>
  obtain⟨c,hc,h1⟩:=oo_inv h
  have:=vBool_some hc;subst this
  rw[bq_eq] at h1;injection h1 with h1
  have:a=c:=by simpa using h1
  subst this;cases n <;> simp[Instr.sameBits]
 case int k a=>
  obtain⟨q,hq,h1⟩:=oo_inv h
  rw[pp_eta] at h1
  obtain⟨h2,h3⟩:=bb_inv h1
  have:=vInt_some hq;subst this
  have:=intKindEq_iff h2
  rw[ieq_eq] at h3;injection h3 with h3
  have h4:a=q.2:=by simpa using h3
  rw[this,h4];cases n <;> simp[Instr.sameBits]
 case string a=>
  obtain⟨c,hc,h1⟩:=oo_inv h
  have:=vStr_some hc;subst this
  injection h1 with h1
  have:a=c:=(Go.MapKept.bytes_beq a c).mp h1
  subst this;cases n <;> (simp only[Instr.sameBits];exact h1)
theorem keyEq_bits {x y:Value} (h:keyEq x y=some true):Instr.sameBits 10000 y x=true:=by
 unfold keyEq at h
 cases hx:vAgg x with
 | none=>rw[hx,oo_none] at h;exact cellEq_bits h _
 | some xs =>
  rw[hx,oo_some] at h
  obtain⟨ys,hy,h1⟩:=oo_inv h
  have:=vAgg_some hx;subst this
  have:=vAgg_some hy;subst this
  have key:∀ (xs ys:List Value),cellsEq xs ys=some true→((ys.zip xs).all fun (p:Value×Value)=>Instr.sameBits 9999 p.1 p.2)=true:=by
   intro xs
   induction xs with
   | nil => intro ys h; cases ys with
    | nil=>rfl
    | cons=>cases h
   | cons x xs ih =>
    intro ys h
    cases ys with
    | nil=>cases h
    | cons y ys =>
     have h:oo (cellEq x y) none (fun b=>oo (cellsEq xs ys) none fun c=>some (an b c))=some true:=h
     obtain⟨p,hp,h1⟩:=oo_inv h
     obtain⟨q,hq,h2⟩:=oo_inv h1
     injection h2 with h2
     obtain⟨rfl,rfl⟩:=an_inv h2
     simp only[List.zip_cons_cons,List.all_cons,Bool.and_eq_true]
     exact⟨cellEq_bits hp _,ih ys hq⟩
  have hl:=cellsEq_len h1
  show ((⟨ys⟩:Array Value).size == (⟨xs⟩:Array Value).size && ((⟨ys⟩:Array Value).toList.zip (⟨xs⟩:Array Value).toList).all fun (x,y)=>Instr.sameBits 9999 x y)=true
  simp only[Bool.and_eq_true]
  exact⟨by simp[hl],key xs ys h1⟩

theorem keyEq_VR {R:Ren} {x y x' y':Value} {b:Bool} (h:keyEq x y=some b) (hx:VR R x x') (hy:VR R y y'):keyEq x' y'=some b:=by
 unfold keyEq at h ⊢
 cases ha:vAgg x with
 | some xs =>
  rw[ha,oo_some] at h
  obtain⟨ys,hys,h1⟩:=oo_inv h
  have:=vAgg_some ha;subst this
  have:=vAgg_some hys;subst this
  obtain⟨us,rfl,h2⟩:=hx.agg_l
  obtain⟨vs,rfl,h3⟩:=hy.agg_l
  exact cellsEq_VRL h1 h2 h3
 | none =>
  rw[ha,oo_none] at h
  have:vAgg x'=none:=by cases hx <;> first | rfl | (simp[vAgg,vv] at ha;done) | (cases h)
  rw[this,oo_none]
  exact cellEq_VR h hx hy

theorem findE_found {k:Value} {es:List Ent} {i j:Nat} {v:Value} (h:findE k es i=some (some (j,v))):i≤j∧∃ e,es[j - i]?=some e∧keyEq k e.key=some true∧e.val=v:=by
 induction es generalizing i with
 | nil=>injection h with h;cases h
 | cons e es ih =>
  obtain⟨b,hb,h1⟩:=findE_cons h
  cases b with
  | true=>injection h1 with h1;injection h1 with h1;injection h1 with h1 h2;subst h1;subst h2;exact⟨Nat.le_refl _,e,by simp,hb,rfl⟩
  | false =>
   obtain⟨h2,e',h3,h4,h5⟩:=ih h1
   refine⟨by omega,e',?_,h4,h5⟩
   rw[show j - i=(j - (i+1))+1 by omega,List.getElem?_cons_succ];exact h3

theorem modL_get {α:Type} (f:α→α) (i:Nat) (l:List α) (j:Nat):(modL f i l)[j]?=if j=i then (l[j]?).map f else l[j]?:=by
 induction i generalizing l j with
 | zero => cases l with
  | nil=>show ([]:List α)[j]?=_;simp
  | cons a l=>show (f a::l)[j]?=_;cases j <;> simp
 | succ i ih => cases l with
  | nil=>show ([]:List α)[j]?=_;simp
  | cons a l =>
   show (a::modL f i l)[j]?=_
   cases j with
   | zero=>simp
   | succ j=>simp[ih]
theorem modL_length {α:Type} (f:α→α) (i:Nat) (l:List α):(modL f i l).length=l.length:=by
 induction i generalizing l with
 | zero => cases l with
  | nil=>rfl
  | cons a l=>rfl
 | succ i ih => cases l with
  | nil=>rfl
  | cons a l=>show (a::modL f i l).length=_;simp[ih]
theorem EntsR.modify {R:Ren} {es:List Ent} {Es:Array MapEntry} (h:EntsR R es Es.toList) (i:Nat) {f:Ent→Ent} {g:MapEntry→MapEntry} (hfg:∀ e E,es[i]?=some e→Es[i]?=some E→EntR R e E→EntR R (f e) (g E)) :
 EntsR R (modL f i es) (Es.modify i g).toList:=by
 refine⟨by rw[modL_length];simpa using h.1,fun j e E he hE=>?_⟩
 rw[modL_get] at he
 rw[Array.getElem?_toList,Array.getElem?_modify] at hE
 split at he
 ·rename_i hj
  subst hj
  rw[if_pos rfl] at hE
  cases h1:es[j]? with
  | none=>rw[h1] at he;cases he
  | some e0 =>
   cases h2:Es[j]? with
   | none=>rw[h2] at hE;cases hE
   | some E0 =>
    rw[h1] at he;rw[h2] at hE
    injection he with he;injection hE with hE
    subst he;subst hE
    exact hfg e0 E0 h1 h2 (h.2 j e0 E0 h1 (by simpa using h2))
 ·rename_i hj
  rw[if_neg (Ne.symm hj)] at hE
  exact h.2 j e E he (by simpa using hE)
theorem EntsR.push {R:Ren} {es:List Ent} {Es:Array MapEntry} (h:EntsR R es Es.toList) {e:Ent} {E:MapEntry} (he:EntR R e E):EntsR R (appL es [e]) (Es.push E).toList:=by
 rw[appL_eq]
 refine⟨by simpa using h.1,fun j a A ha hA=>?_⟩
 have hl:es.length=Es.size:=by simpa using h.1
 by_cases hj:j < es.length
 ·rw[List.getElem?_append_left hj] at ha
  rw[Array.toList_push,List.getElem?_append_left (by simpa using (by omega:j < Es.size))] at hA
  exact h.2 j a A ha hA
 ·rw[List.getElem?_append_right (by omega)] at ha
  rw[Array.toList_push,List.getElem?_append_right (by simp;omega)] at hA
  simp only[Array.length_toList] at hA
  rw[←hl] at hA
  cases hd:j - es.length with
  | zero=>rw[hd] at ha hA;simp at ha hA;subst ha;subst hA;exact he
  | succ n=>rw[hd] at ha;simp at ha

theorem liveMap_some {m:Value} {p:Nat×MapObj} (h:liveMap H m=some p):m = .map (some p.1)∧oMap (H.get p.1)=some p.2:=by
 obtain⟨mo,hmo,h1⟩:=oo_inv h
 obtain⟨id,rfl,h2⟩:=oo_inv h1
 obtain⟨o,ho,h3⟩:=oo_inv h2
 injection h3 with h3;subst h3
 exact⟨vMap_some hmo,ho⟩

theorem stays_ok {R:Ren} {k k':Value} {e:Ent} {E:MapEntry} (hk:VR R k k') (he:VR R e.key E.key) (h:keyEq k e.key=some true):(Instr.keyThatStays E.key k').run P w = .ok k' w:=by
 have:=keyEq_bits (keyEq_VR h hk he)
 simp[Instr.keyThatStays,this]

include hT in
theorem amapUpdate_ok (hs:Sim H R w) {t:TypeId} {m k x m' k' x':Value} (h:amapUpdate tt H t m k x=some H') (hm:VR R m m') (hk:VR R k k') (hx:VR R x x') :
 ∃ w',(Instr.mapUpdate t m' k' x').run P w = .ok () w'∧Post H R w H' R w':=by
 obtain⟨i,kt,et,hi,hd,h1⟩:=mapOfK_some h
 obtain⟨p,hp,h2⟩:=oo_inv h1
 rw[pp_eta] at h2
 obtain⟨hko,h3⟩:=bb_inv h2
 obtain⟨r,hr,h4⟩:=oo_inv h3
 obtain⟨hme,ho⟩:=liveMap_some hp
 subst hme
 obtain⟨c,hid,rfl⟩:=hm.map_l
 obtain⟨Es,hE,hEs⟩:=hs.map hid ho
 have hu:=hT.run_und hi w
 rw[hd] at hu
 have hkk:=keyOk_kind hko
 have hck:=checkKey_ok (w:=w) hT hkk hk false
 obtain⟨r',hr',hf⟩:=findKey_ok (w:=w) hT hkk hk hEs hr
 cases r with
 | none =>
  cases r' with
  | some=>exact hf.elim
  | none =>
   simp only[oo_none] at h4
   injection h4 with h4;subst h4
   refine⟨_,?_,post_map hs (oMap_some ho) hid (hEs.push (E:={ key:=k',val:=x',born:=p.2.clock }) ⟨hk,hx,rfl⟩)⟩
   simp only[Instr.mapUpdate,Sem.run_bind,hu,Result.andThen_ok,run_getObj_map hE,hck,hr',run_setObj_map hE]
 | some q =>
  cases r' with
  | none=>exact hf.elim
  | some q' =>
   rw[oo_some,pp_eta] at h4
   injection h4 with h4;subst h4
   obtain⟨hle,e,he,hke,_⟩:=findE_found hr
   rw[Nat.sub_zero] at he
   have hq:q.1=q'.1:=hf.1
   have hlt:q.1 < Es.size:=by
    have:=(List.getElem?_eq_some_iff.1 he).1
    rw[←Array.length_toList,←hEs.1];exact this
   have hEe:Es.toList[q.1]?=some Es[q.1]:=by simp[hlt]
   have hst:=stays_ok (P:=P) (w:=w) hk (hEs.2 q.1 e _ he hEe).1 hke
   refine⟨_,?_,post_map hs (oMap_some ho) hid (hEs.modify q.1 (f:=fun e=>⟨k,x,e.born⟩) (g:=fun E=>{ E with key:=k',val:=x' }) fun e E _ _ h9=>⟨hk,hx,h9.2.2⟩)⟩
   have hget:Es[q'.1]?=some Es[q.1]:=by rw[←hq];simp[hlt]
   simp only[Instr.mapUpdate,Sem.run_bind,hu,Result.andThen_ok,run_getObj_map hE,hck,hr',hget,Option.map_some,Option.getD_some,hst,run_setObj_map hE]
   rw[hq]

include hT in
theorem amapEntry_ok (hs:Sim H R w) {t:TypeId} {m k m' k' v:Value} (h:amapEntry tt H t m k=some (v,H')) (hm:VR R m m') (hk:VR R k k') :
 ∃ u w' R',(Instr.mapEntry t m' k').run P w = .ok u w'∧VR R' v u∧Post H R w H' R' w':=by
 obtain⟨i,kt,et,hi,hd,h1⟩:=mapOfK_some h
 obtain⟨p,hp,h2⟩:=oo_inv h1
 rw[pp_eta] at h2
 obtain⟨hko,h3⟩:=bb_inv h2
 obtain⟨r,hr,h4⟩:=oo_inv h3
 obtain⟨hme,ho⟩:=liveMap_some hp
 subst hme
 obtain⟨c,hid,rfl⟩:=hm.map_l
 obtain⟨Es,hE,hEs⟩:=hs.map hid ho
 have hu:=hT.run_und hi w
 rw[hd] at hu
 have hkk:=keyOk_kind hko
 have hck:=checkKey_ok (w:=w) hT hkk hk false
 obtain⟨r',hr',hf⟩:=findKey_ok (w:=w) hT hkk hk hEs hr
 cases r with
 | none =>
  cases r' with
  | some=>exact hf.elim
  | none =>
   simp only[oo_none] at h4
   obtain⟨z,hz,h5⟩:=oo_inv h4
   injection h5 with h5;injection h5 with e1 e2;subst e1;subst e2
   obtain⟨ie,hie,hiz⟩:=zeroOf_some hz
   have hzr:=hT.run_zero hie hiz w
   have hzv:VR R z z:=plain_VR (hT.plain _ _ _ hie hiz)
   refine⟨.tuple #[z,goInt p.2.clock],_,R,?_,.tuple rfl (VRL.cons hzv (.cons (.int _ _) .nil)).2,post_map hs (oMap_some ho) hid (hEs.push (E:={ key:=k',val:=z,born:=p.2.clock }) ⟨hk,hzv,rfl⟩)⟩
   simp only[Instr.mapEntry,Sem.run_bind,hu,Result.andThen_ok,run_getObj_map hE,hck,hr',hzr,run_setObj_map hE,Sem.run_pure]
 | some q =>
  cases r' with
  | none=>exact hf.elim
  | some q' =>
   rw[oo_some,pp_eta] at h4
   obtain⟨e,he,h5⟩:=oo_inv h4
   rw[nthL_eq] at he
   injection h5 with h5;injection h5 with e1 e2;subst e1;subst e2
   obtain⟨hle,e',he',hke,_⟩:=findE_found hr
   rw[Nat.sub_zero,he] at he'
   injection he' with he';subst he'
   have hq:q.1=q'.1:=hf.1
   have hlt:q.1 < Es.size:=by
    have:=(List.getElem?_eq_some_iff.1 he).1
    rw[←Array.length_toList,←hEs.1];exact this
   obtain⟨E0,hE0⟩:∃ E0,Es[q.1]?=some E0:=⟨Es[q.1],by simp[hlt]⟩
   have hEe:Es.toList[q.1]?=some E0:=by simpa using hE0
   have hee:=hEs.2 q.1 e _ he hEe
   have hst:=stays_ok (P:=P) (w:=w) hk hee.1 hke
   have hget:Es[q'.1]?=some E0:=by rw[←hq];exact hE0
   refine⟨.tuple #[q'.2,goInt E0.born],_,R,?_,.tuple rfl (VRL.cons hf.2 (.cons (by rw[hee.2.2];exact .int _ _) .nil)).2,post_map hs (oMap_some ho) hid (hEs.modify q.1 (f:=fun e=>⟨k,e.val,e.born⟩) (g:=fun E=>{ E with key:=k' }) fun e E _ _ h9=>⟨hk,h9.2.1,h9.2.2⟩)⟩
   simp only[Instr.mapEntry,Sem.run_bind,hu,Result.andThen_ok,run_getObj_map hE,hck,hr',hget,Option.map_some,Option.getD_some,hst,run_setObj_map hE,Sem.run_pure]
   rw[hq]

theorem bornAt_found {s:Nat} {es:List Ent} {i j:Nat} (h:bornAt s es i=some j) {Es:List MapEntry} (hE:EntsR R es Es):i≤j∧Es.findIdx? (fun e=>(e.born:Int) == (s:Int))=some (j - i):=by
 induction es generalizing i Es with
 | nil=>cases h
 | cons e es ih =>
  obtain⟨E,Es',rfl,h1,h2⟩:=hE.uncons
  have h:bb (Nat.beq e.born s) (some i) (bornAt s es (i+1))=some j:=h
  rw[bb_eq] at h
  split at h
  ·rename_i hb
   have hb:=Nat.eq_of_beq_eq_true hb
   injection h with h;subst h
   refine⟨Nat.le_refl _,?_⟩
   have:((E.born:Int) == (s:Int))=true:=by rw[←h1.2.2,hb];simp
   simp[List.findIdx?_cons,this]
  ·rename_i hb
   have hne:¬ ((E.born:Int)=(s:Int)):=by
    intro e2
    apply hb
    rw[h1.2.2]
    have h9:E.born=s:=by omega
    rw[h9]
    simp
   obtain⟨h3,h4⟩:=ih h h2
   refine⟨by omega,?_⟩
   simp only[List.findIdx?_cons,h4]
   simp[hne]
   omega

theorem aentryStore_ok (hs:Sim H R w) {t:TypeId} {m s x m' s' x':Value} (h:aentryStore H m s x=some H') (hm:VR R m m') (hsv:VR R s s') (hx:VR R x x') :
 ∃ w',(Instr.entryStore t m' s' x').run P w = .ok () w'∧Post H R w H' R w':=by
 obtain⟨p,hp,h1⟩:=oo_inv h
 rw[pp_eta] at h1
 obtain⟨n,hn,h2⟩:=oo_inv h1
 obtain⟨j,hj,h3⟩:=oo_inv h2
 injection h3 with h3;subst h3
 obtain⟨hme,ho⟩:=liveMap_some hp
 subst hme
 obtain⟨c,hid,rfl⟩:=hm.map_l
 obtain⟨Es,hE,hEs⟩:=hs.map hid ho
 obtain⟨kd,rfl⟩:=hsv.nat_l hn
 obtain⟨_,hfi⟩:=bornAt_found hj hEs
 rw[Nat.sub_zero] at hfi
 have hfi':Es.findIdx? (fun e=>(e.born:Int) == (n:Int))=some j:=by
  obtain⟨l⟩:=Es
  simpa using hfi
 refine⟨_,?_,post_map hs (oMap_some ho) hid (hEs.modify j (f:=fun e=>⟨e.key,x,e.born⟩) (g:=fun E=>{ E with val:=x' }) fun e E _ _ h9=>⟨h9.1,hx,h9.2.2⟩)⟩
 simp only[Instr.entryStore,Sem.run_bind,run_getObj_map hE,Result.andThen_ok,asInt,asIntOf,Sem.run_pure,hfi',run_setObj_map hE]

include hT in
theorem aclearMap_ok (hs:Sim H R w) {t ty:TypeId} {x x':Value} (h:aclearMap tt H t x=some H') (hx:VR R x x'):∃ u w',(Builtin.clear_ #[t] ty #[x']).run P w = .ok u w'∧u = .tuple #[]∧Post H R w H' R w':=by
 obtain⟨i,kt,et,hi,hd,h1⟩:=mapOfK_some h
 obtain⟨mo,hmo,h2⟩:=oo_inv h1
 have:=vMap_some hmo;subst this
 have hu:=hT.run_und hi w
 rw[hd] at hu
 cases mo with
 | none =>
  injection h2 with h2;subst h2
  rw[hx.mapNil_l]
  exact⟨_,w,by simp[Builtin.clear_,hu],rfl,.refl hs⟩
 | some id =>
  simp only[oo_some] at h2
  obtain⟨o,ho,h3⟩:=oo_inv h2
  injection h3 with h3;subst h3
  obtain⟨c,hid,rfl⟩:=hx.map_l
  obtain⟨Es,hE,hEs⟩:=hs.map hid ho
  refine⟨_,_,?_,rfl,post_map (Es':=#[]) hs (oMap_some ho) hid ⟨rfl,by simp⟩⟩
  simp[Builtin.clear_,hu,run_getObj_map hE,run_setObj_map hE]

include hT in
theorem aclear_ok (hs:Sim H R w) {t ty:TypeId} {x x':Value} (h:aclear tt H t x=some H') (hx:VR R x x'):∃ u w',(Builtin.clear_ #[t] ty #[x']).run P w = .ok u w'∧u = .tuple #[]∧Post H R w H' R w':=by
 have h:oo (vSl x) (aclearMap tt H t x) (fun s=>oo (elemOf tt t) none fun ie=>oo ie.zero none fun z=>
  bb (an (Nat.beq (len (cellsOf z)) ie.size) (nt (Nat.beq s.len 0))) (awrite H s.id s.off (zeroRow (cellsOf z) s.len)) none)=some H':=h
 cases hsl:vSl x with
 | none=>rw[hsl,oo_none] at h;exact aclearMap_ok hT hs h hx
 | some sv =>
  rw[hsl,oo_some] at h
  obtain⟨ie,hie,h1⟩:=oo_inv h
  obtain⟨z,hz,h2⟩:=oo_inv h1
  obtain⟨hc,hw⟩:=bb_inv h2
  obtain⟨is,e,his,hd,hte⟩:=elemOf_some hie
  have hu:=hT.run_und his w
  rw[hd] at hu
  have hzr:=hT.run_zero hte hz w
  have hpz:=hT.plain _ _ _ hte hz
  simp only[an_eq,nt_eq,Bool.and_eq_true] at hc
  have h0:sv.len≠0:=fun e=>by rw[e] at hc;exact absurd hc.2 (by decide)
  rcases hx.sl_l hsl with⟨c,β,cap,hid,rfl,_⟩ | ⟨c,o,rfl,k0,_⟩ | ⟨rfl,k0,_⟩
  ·obtain⟨C,t,hC,hcf,hone,hpost⟩:=post_write hs hw hid (zeroRow_VRL (cellsOf_plain hpz) sv.len)
   have hst:=run_storeCells_at P c (β+sv.off) t _ 0 C w hC (by simpa using hcf) hone
   refine⟨_,_,?_,rfl,hpost⟩
   simp only[Nat.add_zero] at hst
   simp only[Builtin.clear_]
   simp[hu,hzr,zeroCells_eq,hst]
  ·exact absurd k0 h0
  ·exact absurd k0 h0

theorem delL_eq {α:Type} (i:Nat) (l:List α):delL i l=l.eraseIdx i:=by
 induction i generalizing l with
 | zero=>cases l <;> rfl
 | succ i ih =>
  cases l with
  | nil=>rfl
  | cons a r =>
   show a::delL i r=_
   rw[ih];rfl

theorem EntsR.erase {R:Ren} {es:List Ent} {Es:List MapEntry} (h:EntsR R es Es) (i:Nat):EntsR R (es.eraseIdx i) (Es.eraseIdx i):=by
 induction i generalizing es Es with
 | zero =>
  cases es with
  | nil=>rw[h.unnil];exact⟨rfl,by simp⟩
  | cons e es=>obtain⟨E,Es',rfl,_,h2⟩:=h.uncons;exact h2
 | succ i ih =>
  cases es with
  | nil=>rw[h.unnil];exact⟨rfl,by simp⟩
  | cons e es =>
   obtain⟨E,Es',rfl,h1,h2⟩:=h.uncons
   have h3:=ih h2
   refine⟨by simp[h3.1],fun j a A ha hA=>?_⟩
   cases j with
   | zero =>
    simp at ha hA;subst ha;subst hA;exact h1
   | succ j=>exact h3.2 j a A (by simpa using ha) (by simpa using hA)

include hT in
theorem adelete_ok (hs:Sim H R w) {t ty:TypeId} {m k m' k':Value} (h:adelete tt H t m k=some H') (hm:VR R m m') (hk:VR R k k') :
 ∃ u w',(Builtin.delete_ #[t] ty #[m',k']).run P w = .ok u w'∧u = .tuple #[]∧Post H R w H' R w':=by
 obtain⟨i,kt,et,hi,hd,h1⟩:=mapOfK_some h
 obtain⟨p,hp,h2⟩:=oo_inv h1
 rw[pp_eta] at h2
 obtain⟨hko,h3⟩:=bb_inv h2
 obtain⟨r,hr,h4⟩:=oo_inv h3
 obtain⟨hme,ho⟩:=liveMap_some hp
 subst hme
 obtain⟨c,hid,rfl⟩:=hm.map_l
 obtain⟨Es,hE,hEs⟩:=hs.map hid ho
 have hu:=hT.run_und hi w
 rw[hd] at hu
 have hkk:=keyOk_kind hko
 have hck:=checkKey_ok (w:=w) hT hkk hk Es.isEmpty
 obtain⟨r',hr',hf⟩:=findKey_ok (w:=w) hT hkk hk hEs hr
 cases r with
 | none =>
  cases r' with
  | some=>exact hf.elim
  | none =>
   simp only[oo_none] at h4
   injection h4 with h4;subst h4
   refine⟨_,_,?_,rfl,post_map hs (oMap_some ho) hid (Es':=Es) hEs⟩
   simp[Builtin.delete_,hu,run_getObj_map hE,hck,hr',run_setObj_map hE]
 | some q =>
  cases r' with
  | none=>exact hf.elim
  | some q' =>
   rw[oo_some,pp_eta] at h4
   injection h4 with h4;subst h4
   have hq:q.1=q'.1:=hf.1
   obtain⟨hle,e,he,hke,_⟩:=findE_found hr
   rw[Nat.sub_zero] at he
   have hlt:q.1 < Es.size:=by
    have:=(List.getElem?_eq_some_iff.1 he).1
    rw[←Array.length_toList,←hEs.1];exact this
   have hlist:(Es.eraseIdxIfInBounds q'.1).toList=Es.toList.eraseIdx q.1:=by
    rw[←hq]
    simp[Array.eraseIdxIfInBounds,hlt]
   refine⟨_,_,?_,rfl,post_map hs (oMap_some ho) hid (Es':=Es.eraseIdxIfInBounds q'.1) (by rw[hlist,delL_eq];exact hEs.erase q.1)⟩
   simp[Builtin.delete_,hu,run_getObj_map hE,hck,hr',run_setObj_map hE]
end
end Go.Sp
